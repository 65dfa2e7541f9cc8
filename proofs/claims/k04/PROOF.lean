import PyProof.Rows.All
import Wide.All
import OpenK.AllK
import Wide.FinOn
import HandS.ForMost
import HandS.TupAny
import HandS.Deep
import HandS.Style
import HandS.Wide
import HandS.TupMul
import HandS.TupLe
import HandS.IsInst
import HandS.Walk
import HandS.Zip
import HandS.FStr
import HandS.More
import KE.KxField
import HandS.Iter
import KE.SortCalls
import HandS.SetTxt0
import HandS.TupSets
import PyProof.SetRoads
import HandS.Conv
import KE.GoesEnum
import HandS.Star
import PySem.Challenge.RW_cousinwords_k04_statements
import HandS.EndBits
set_option Elab.async false
set_option linter.all false
set_option maxRecDepth 1000000
set_option maxHeartbeats 8000000
/-! Pd1: pure data: values, what represents them, states, the judgements' transformers. -/
namespace Pd
open PySem PySem.Spec PyProof.Rows L2

/-- pure data -/
inductive D where
  | non | bl (b : Bool) | int (i : Int) | str (s : Str)
  | tup (xs : List D) | lst (xs : List D) | dic (t : Bool) (kvs : List (D × D))
  | scr (ns : List Int) | kin (u d n : Int)

/-- the exceptions of the program -/
inductive Xn where
  | name | word | known | line | unknown | many | nothing | kin | nobody | bounds | joined | disagree | type
  deriving DecidableEq

/-- a result: a value, an exception, or nothing is said -/
inductive R (α : Type) where
  | ok (a : α) | ex (c : Xn) | st
@[reducible] def R.bind {α β : Type} (r : R α) (f : α → R β) : R β := match r with
  | .ok a => f a | .ex c => .ex c | .st => .st

abbrev Env := List (Option (D × Bool))
abbrev EF := Env → R (D × Bool)

/-- where the class Kin stands -/
def KinC (K : PySem.W.Frag) (C : Addr) : Prop := PySem.W.nsIn K mainGlobals "Kin" = some (some (.ref C))
theorem KinC.one {K : PySem.W.Frag} {C C' : Addr} (h : KinC K C) (h' : KinC K C') : C = C' := by
  unfold KinC at h h'
  rw [h] at h'
  simpa using h'
/-- the attributes of a kin -/
def kinF (u d n : Int) : List (Str × V) := [("up", .int u), ("down", .int d), ("nearer", .int n)]
def dK : Key → D
  | .inl i => .int i
  | .inr s => .str s

mutual
inductive Rp (K : PySem.W.Frag) (F : Hp) : V → D → Prop
  | non : Rp K F .non .non
  | bl (b : Bool) : Rp K F (.bl b) (.bl b)
  | int (i : Int) : Rp K F (.int i) (.int i)
  | str (s : Str) : Rp K F (.str s) (.str s)
  | tup {a : Addr} {vs : List V} {ds : List D} : F a = some (.tup vs) → RpL K F vs ds → Rp K F (.ref a) (.tup ds)
  | lst {a : Addr} {vs : List V} {ds : List D} : F a = some (.lst vs) → RpL K F vs ds → Rp K F (.ref a) (.lst ds)
  | scr {a : Addr} {ns : List Int} : SqL K F a (ns.map V.int) → Rp K F (.ref a) (.scr ns)
  | dicK {a : Addr} {kvs : List (Key × V)} {ds : List (D × D)} : Rd F a (.dK kvs) → RpK K F kvs ds → Rp K F (.ref a) (.dic false ds)
  | dicT {a : Addr} {kvs : List (List Key × V)} {ds : List (D × D)} : Rd F a (.dT kvs) → RpT K F kvs ds → Rp K F (.ref a) (.dic true ds)
  | kin {a C dx : Addr} {u d n : Int} : KinC K C → F a = some (.ins C dx (kinF u d n)) → Rp K F (.ref a) (.kin u d n)
inductive RpL (K : PySem.W.Frag) (F : Hp) : List V → List D → Prop
  | nil : RpL K F [] []
  | cons {v : V} {d : D} {vs : List V} {ds : List D} : Rp K F v d → RpL K F vs ds → RpL K F (v :: vs) (d :: ds)
inductive RpK (K : PySem.W.Frag) (F : Hp) : List (Key × V) → List (D × D) → Prop
  | nil : RpK K F [] []
  | cons {k : Key} {v : V} {d : D} {kvs : List (Key × V)} {ds : List (D × D)} : Rp K F v d → RpK K F kvs ds → RpK K F ((k, v) :: kvs) ((dK k, d) :: ds)
inductive RpT (K : PySem.W.Frag) (F : Hp) : List (List Key × V) → List (D × D) → Prop
  | nil : RpT K F [] []
  | cons {k : List Key} {v : V} {d : D} {kvs : List (List Key × V)} {ds : List (D × D)} : Rp K F v d → RpT K F kvs ds → RpT K F ((k, v) :: kvs) ((.tup (k.map dK), d) :: ds)
end

abbrev Sb (F F' : Hp) : Prop := ∀ a o, F a = some o → F' a = some o
theorem Sb.refl (F : Hp) : Sb F F := fun _ _ h => h
theorem Sb.trans {F G H : Hp} (x : Sb F G) (y : Sb G H) : Sb F H := fun a o h => y a o (x a o h)

section
variable {K : PySem.W.Frag} {F F' : Hp}
theorem rd_mono (s : Sb F F') {a : Addr} {u : HO} (h : Rd F a u) : Rd F' a u := by
  rcases h with h | ⟨o, h⟩
  · exact .inl (s _ _ h)
  · exact .inr ⟨o, s _ _ h⟩
theorem sqL_mono (s : Sb F F') {a : Addr} {xs : List V} (h : SqL K F a xs) : SqL K F' a xs := Same.seq s h
mutual
theorem Rp.mono (s : Sb F F') : ∀ {d : D} {v : V}, Rp K F v d → Rp K F' v d
  | .non, _, h => by cases h; exact .non
  | .bl b, _, h => by cases h; exact .bl b
  | .int i, _, h => by cases h; exact .int i
  | .str x, _, h => by cases h; exact .str x
  | .tup ds, _, h => by cases h with | tup h1 h2 => exact .tup (s _ _ h1) (RpL.mono s h2)
  | .lst ds, _, h => by cases h with | lst h1 h2 => exact .lst (s _ _ h1) (RpL.mono s h2)
  | .scr ns, _, h => by cases h with | scr h1 => exact .scr (sqL_mono s h1)
  | .dic t ds, _, h => by
    cases h with
    | dicK h1 h2 => exact .dicK (rd_mono s h1) (RpK.mono s h2)
    | dicT h1 h2 => exact .dicT (rd_mono s h1) (RpT.mono s h2)
  | .kin _ _ _, _, h => by cases h with | kin hc h1 => exact .kin hc (s _ _ h1)
theorem RpL.mono (s : Sb F F') : ∀ {ds : List D} {vs : List V}, RpL K F vs ds → RpL K F' vs ds
  | [], _, h => by cases h; exact .nil
  | d :: ds, _, h => by cases h with | cons h1 h2 => exact .cons (Rp.mono s h1) (RpL.mono s h2)
theorem RpK.mono (s : Sb F F') : ∀ {ds : List (D × D)} {vs : List (Key × V)}, RpK K F vs ds → RpK K F' vs ds
  | [], _, h => by cases h; exact .nil
  | (k, d) :: ds, _, h => by cases h with | cons h1 h2 => exact .cons (Rp.mono s h1) (RpK.mono s h2)
theorem RpT.mono (s : Sb F F') : ∀ {ds : List (D × D)} {vs : List (List Key × V)}, RpT K F vs ds → RpT K F' vs ds
  | [], _, h => by cases h; exact .nil
  | (k, d) :: ds, _, h => by cases h with | cons h1 h2 => exact .cons (Rp.mono s h1) (RpT.mono s h2)
end
theorem RpL.length : ∀ {ds : List D} {vs : List V}, RpL K F vs ds → vs.length = ds.length
  | [], _, h => by cases h; rfl
  | d :: ds, _, h => by cases h with | cons h1 h2 => simp [RpL.length h2]
theorem RpL.get : ∀ {ds : List D} {vs : List V} {i : Nat} {d : D}, RpL K F vs ds → ds[i]? = some d → ∃ v, vs[i]? = some v ∧ Rp K F v d
  | [], _, _, _, _, e => by simp at e
  | d :: ds, _, i, x, h, e => by
    cases h with
    | cons h1 h2 =>
      cases i with
      | zero => simp at e; subst e; exact ⟨_, rfl, h1⟩
      | succ i => simpa using RpL.get h2 (by simpa using e)
theorem RpL.getV : ∀ {ds : List D} {vs : List V} {i : Nat} {v : V}, RpL K F vs ds → vs[i]? = some v → ∃ d, ds[i]? = some d ∧ Rp K F v d := fun {ds vs i v} h e => by
  have hl := h.length
  have hi : i < vs.length := (List.getElem?_eq_some_iff.mp e).1
  have e2 : ds[i]? = some (ds[i]'(by omega)) := by simp
  obtain ⟨w, h1, h2⟩ := h.get e2
  rw [e] at h1; cases h1
  exact ⟨_, e2, h2⟩
theorem RpL.append : ∀ {ds es : List D} {vs ws : List V}, RpL K F vs ds → RpL K F ws es → RpL K F (vs ++ ws) (ds ++ es)
  | [], _, _, _, h, g => by cases h; exact g
  | d :: ds, _, _, _, h, g => by cases h with | cons h1 h2 => exact .cons h1 (RpL.append h2 g)
theorem RpL.take : ∀ {ds : List D} {vs : List V} (n : Nat), RpL K F vs ds → RpL K F (vs.take n) (ds.take n)
  | _, _, 0, _ => .nil
  | [], _, _ + 1, h => by cases h; exact .nil
  | d :: ds, _, n + 1, h => by cases h with | cons h1 h2 => exact .cons h1 (RpL.take n h2)
theorem RpL.drop : ∀ {ds : List D} {vs : List V} (n : Nat), RpL K F vs ds → RpL K F (vs.drop n) (ds.drop n)
  | _, _, 0, h => h
  | [], _, _ + 1, h => by cases h; exact .nil
  | d :: ds, _, n + 1, h => by cases h with | cons h1 h2 => exact RpL.drop n h2
theorem RpL.set : ∀ {ds : List D} {vs : List V} (i : Nat) {v : V} {d : D}, Rp K F v d → RpL K F vs ds → RpL K F (vs.set i v) (ds.set i d)
  | [], _, _, _, _, _, h => by cases h; exact .nil
  | d :: ds, _, 0, _, _, r, h => by cases h with | cons h1 h2 => exact .cons r h2
  | d :: ds, _, i + 1, _, _, r, h => by cases h with | cons h1 h2 => exact .cons h1 (RpL.set i r h2)
theorem RpL.reverse {ds : List D} {vs : List V} (h : RpL K F vs ds) : RpL K F vs.reverse ds.reverse := by
  induction ds generalizing vs with
  | nil => cases h; exact .nil
  | cons d ds ih => cases h with | cons h1 h2 => rw [List.reverse_cons, List.reverse_cons]; exact (ih h2).append (.cons h1 .nil)
theorem RpL.rep {ds : List D} {vs : List V} (h : RpL K F vs ds) : ∀ k : Nat, RpL K F (List.replicate k vs).flatten (List.replicate k ds).flatten
  | 0 => .nil
  | k + 1 => by rw [List.replicate_succ, List.replicate_succ, List.flatten_cons, List.flatten_cons]; exact h.append (RpL.rep h k)
end

/-- an object at a that a name owns alone: its items are represented in F, itself it is not -/
inductive Own (K : PySem.W.Frag) (F H : Hp) (a : Addr) : D → Prop
  | lst {vs : List V} {ds : List D} : H a = some (.lst vs) → RpL K F vs ds → Own K F H a (.lst ds)
  | dicK {kvs : List (Key × V)} {ds : List (D × D)} : H a = some (.dK kvs) → RpK K F kvs ds → Own K F H a (.dic false ds)
  | dicT {kvs : List (List Key × V)} {ds : List (D × D)} : H a = some (.dT kvs) → RpT K F kvs ds → Own K F H a (.dic true ds)

/-- from (F, H) on to (F', H'): what is represented stays, what is tracked stays, what is newly represented is new -/
structure Fr (F H F' H' : Hp) : Prop where
  sF : Sb F F'
  sH : Sb F' H'
  kp : Sb H H'
  nw : ∀ a o, F' a = some o → F a = some o ∨ H a = none ∨ ∃ xs, o = .tup xs
theorem Fr.refl {F H : Hp} (s : Sb F H) : Fr F H F H := ⟨.refl F, s, .refl H, fun _ _ h => .inl h⟩
theorem Fr.trans {F H F1 H1 F2 H2 : Hp} (x : Fr F H F1 H1) (y : Fr F1 H1 F2 H2) : Fr F H F2 H2 :=
  ⟨x.sF.trans y.sF, y.sH, x.kp.trans y.kp, fun a o h => by
    rcases y.nw a o h with h | h | h
    · exact x.nw a o h
    · right; left
      cases e : H a with
      | none => rfl
      | some u => rw [x.kp a u e] at h; cases h
    · exact .inr (.inr h)⟩
/-- a new tracked object, not represented (yet) -/
theorem Fr.upd {F H : Hp} {p : Addr} {o : HO} (s : Sb F H) (h : H p = none) : Fr F H F (upd H p o) :=
  ⟨.refl F, fun a u e => by rw [upd_ne (ne_of_none (s a u e) h)]; exact s a u e, fun a u e => by rw [upd_ne (ne_of_none e h)]; exact e, fun _ _ e => .inl e⟩
theorem Fr.free {F H F' H' : Hp} (x : Fr F H F' H') {a : Addr} {o : HO} (h1 : F a = none) (h2 : H a = some o) (h3 : ∀ xs, o ≠ .tup xs) : F' a = none := by
  cases e : F' a with
  | none => rfl
  | some u =>
    rcases x.nw a u e with q | q | ⟨xs, q⟩
    · rw [h1] at q; cases q
    · rw [h2] at q; cases q
    · have := x.sH a u e
      rw [x.kp a o h2] at this; cases this
      exact absurd q (h3 xs)

section
variable {K : PySem.W.Frag} {F F' H H' H0 : Hp}
theorem Own.here {a : Addr} {d : D} (o : Own K F H a d) : ∃ u, H a = some u ∧ ∀ xs, u ≠ .tup xs := by
  cases o with
  | lst h _ => exact ⟨_, h, fun _ z => by cases z⟩
  | dicK h _ => exact ⟨_, h, fun _ z => by cases z⟩
  | dicT h _ => exact ⟨_, h, fun _ z => by cases z⟩
theorem Own.mono {a : Addr} {d : D} (o : Own K F H a d) (s : Sb F F') (e : ∀ u, H a = some u → H' a = some u) : Own K F' H' a d := by
  cases o with
  | lst h r => exact .lst (e _ h) (r.mono s)
  | dicK h r => exact .dicK (e _ h) (r.mono s)
  | dicT h r => exact .dicT (e _ h) (r.mono s)
/-- from now on it is represented -/
theorem Own.freeze {a : Addr} {d : D} (o : Own K F H a d) (hF : F a = none) (sH : Sb F H) (u : HO) (hu : H a = some u) :
    Rp K (upd F a u) (.ref a) d ∧ Sb F (upd F a u) ∧ Sb (upd F a u) H := by
  have sF : Sb F (upd F a u) := fun b w e => by
    rw [upd_ne (ne_of_none e hF)]; exact e
  refine ⟨?_, sF, fun b w e => ?_⟩
  · cases o with
    | lst h r => rw [hu] at h; cases h; exact .lst upd_same (r.mono sF)
    | dicK h r => rw [hu] at h; cases h; exact .dicK (.inl upd_same) (r.mono sF)
    | dicT h r => rw [hu] at h; cases h; exact .dicT (.inl upd_same) (r.mono sF)
  · by_cases hb : b = a
    · subst hb; rw [upd_same] at e; cases e; exact hu
    · rw [upd_ne hb] at e; exact sH b w e
end

/-- a value that is held: represented (false), or owned alone, laid since H0 (true) -/
def Held (K : PySem.W.Frag) (F H H0 : Hp) (v : V) (d : D) : Bool → Prop
  | false => Rp K F v d
  | true => ∃ a, v = .ref a ∧ F a = none ∧ H0 a = none ∧ Own K F H a d

structure StOk (K : PySem.W.Frag) (F0 H0 F H : Hp) (σ : L2.St) (ρ : Env) : Prop where
  fr : Fr F0 H0 F H
  len : σ.length = ρ.length
  sl : ∀ (i : Nat) (d : D) (f : Bool), ρ[i]? = some (some (d, f)) → ∃ v, σ[i]? = some (some v) ∧ Held K F H H0 v d f
  dj : ∀ (i j : Nat) (d e : D) (a : Addr), i ≠ j → ρ[i]? = some (some (d, true)) → ρ[j]? = some (some (e, true)) → σ[i]? = some (some (.ref a)) → σ[j]? ≠ some (some (.ref a))

section
variable {K : PySem.W.Frag} {F0 H0 F H F' H' : Hp} {σ : L2.St} {ρ : Env}
theorem Held.step {v : V} {d : D} {f : Bool} {Hx : Hp} (h : Held K F H Hx v d f) (x : Fr F H F' H') : Held K F' H' Hx v d f := by
  cases f with
  | false => exact Rp.mono x.sF h
  | true =>
    obtain ⟨a, e, h1, h2, o⟩ := h
    obtain ⟨u, hu, ht⟩ := o.here
    exact ⟨a, e, x.free h1 hu ht, h2, o.mono x.sF fun u e => x.kp a u e⟩
theorem Held.since {v : V} {d : D} {f : Bool} {Hx Hy : Hp} (h : Held K F H Hx v d f) (s : Sb Hy Hx) : Held K F H Hy v d f := by
  cases f with
  | false => exact h
  | true =>
    obtain ⟨a, e, h1, h2, o⟩ := h
    refine ⟨a, e, h1, ?_, o⟩
    cases q : Hy a with
    | none => rfl
    | some u => rw [s a u q] at h2; cases h2
theorem StOk.step (S : StOk K F0 H0 F H σ ρ) (x : Fr F H F' H') : StOk K F0 H0 F' H' σ ρ :=
  ⟨S.fr.trans x, S.len, fun i d f e => let ⟨v, h1, h2⟩ := S.sl i d f e; ⟨v, h1, h2.step x⟩, S.dj⟩
theorem StOk.sub (S : StOk K F0 H0 F H σ ρ) : Sb F H := S.fr.sH
/-- whatever is held, represent it -/
theorem held_share {v : V} {d : D} {f : Bool} (x : Fr F H F' H') (h : Held K F' H' H v d f) : ∃ F2, Fr F H F2 H' ∧ Rp K F2 v d := by
  cases f with
  | false => exact ⟨F', x, h⟩
  | true =>
    obtain ⟨a, e, h1, h2, o⟩ := h
    obtain ⟨u, hu, _⟩ := o.here
    obtain ⟨r, s1, s2⟩ := o.freeze h1 x.sH u hu
    subst e
    refine ⟨_, ⟨x.sF.trans s1, s2, x.kp, fun b w e => ?_⟩, r⟩
    by_cases hb : b = a
    · subst hb; exact .inr (.inl h2)
    · rw [upd_ne hb] at e; exact x.nw b w e
end

/-! ### what is wanted of a result -/
abbrev XE := Xn → Hp → Prop
def Post (K : PySem.W.Frag) (F H : Hp) (E : XE) (r : R (D × Bool)) (Q : VK) : Prop := match r with
  | .ok (d, f) => ∀ v F' H', Fr F H F' H' → Held K F' H' H v d f → Q v H'
  | .ex c => ∀ H', Sb H H' → E c H'
  | .st => False
def PostB (F H : Hp) (E : XE) (r : R Bool) (Q : Bool → Hp → Prop) : Prop := match r with
  | .ok b => ∀ F' H', Fr F H F' H' → Q b H'
  | .ex c => ∀ H', Sb H H' → E c H'
  | .st => False
theorem Post.step {K : PySem.W.Frag} {F H F' H' : Hp} {E : XE} {r : R (D × Bool)} {Q : VK} (h : Post K F H E r Q) (x : Fr F H F' H') : Post K F' H' E r Q := by
  cases r with
  | ok a => obtain ⟨d, f⟩ := a; exact fun v F2 H2 y z => h v F2 H2 (x.trans y) (z.since x.kp)
  | ex c => exact fun H2 y => h H2 (x.kp.trans y)
  | st => exact h
theorem PostB.step {F H F' H' : Hp} {E : XE} {r : R Bool} {Q : Bool → Hp → Prop} (h : PostB F H E r Q) (x : Fr F H F' H') : PostB F' H' E r Q := by
  cases r with
  | ok b => exact fun F2 H2 y => h F2 H2 (x.trans y)
  | ex c => exact fun H2 y => h H2 (x.kp.trans y)
  | st => exact h

def tE (K : PySem.W.Frag) (E : XE) (f : EF) : TE := fun σ H Q => ∃ F0 H0 F ρ, StOk K F0 H0 F H σ ρ ∧ Post K F H E (f ρ) Q
def tT (K : PySem.W.Frag) (E : XE) (f : Env → R Bool) : TT := fun σ H Q => ∃ F0 H0 F ρ, StOk K F0 H0 F H σ ρ ∧ PostB F H E (f ρ) Q
/-- arguments -/
def PostL (K : PySem.W.Frag) (F H : Hp) (E : XE) (r : R (List D)) (Q : List V → Hp → Prop) : Prop := match r with
  | .ok ds => ∀ vs F' H', Fr F H F' H' → RpL K F' vs ds → Q vs H'
  | .ex c => ∀ H', Sb H H' → E c H'
  | .st => False
theorem PostL.step {K : PySem.W.Frag} {F H F' H' : Hp} {E : XE} {r : R (List D)} {Q : List V → Hp → Prop} (h : PostL K F H E r Q) (x : Fr F H F' H') : PostL K F' H' E r Q := by
  cases r with
  | ok a => exact fun v F2 H2 y z => h v F2 H2 (x.trans y) z
  | ex c => exact fun H2 y => h H2 (x.kp.trans y)
  | st => exact h
def tA (K : PySem.W.Frag) (E : XE) (f : Env → R (List D)) : TA := fun σ H Q => ∃ F0 H0 F ρ, StOk K F0 H0 F H σ ρ ∧ PostL K F H E (f ρ) Q

abbrev PX (X : Cx) (E : XE) (e : Expr) (f : EF) : Prop := PE X e (tE X.K E f)
abbrev PY (X : Cx) (E : XE) (e : Expr) (f : Env → R Bool) : Prop := PT X e (tT X.K E f)
abbrev PW' (X : Cx) (E : XE) (e : Expr) (f : Env → R Bool) : Prop := PW X e (tT X.K E f)
abbrev PXs (X : Cx) (E : XE) (es : List Expr) (f : Env → R (List D)) : Prop := PA X es (tA X.K E f)

section
variable {K : PySem.W.Frag} {F0 H0 F H : Hp} {σ : L2.St} {ρ : Env} {E : XE}
theorem tE_bind {fa : EF} {k : D × Bool → R (D × Bool)} {Q Q' : VK} (S : StOk K F0 H0 F H σ ρ) (h : Post K F H E ((fa ρ).bind k) Q)
    (hk : ∀ d f x F1 H1, Fr F H F1 H1 → StOk K F0 H0 F1 H1 σ ρ → Rp K F1 x d → Post K F1 H1 E (k (d, f)) Q → Q' x H1) : tE K E fa σ H Q' := by
  refine ⟨F0, H0, F, ρ, S, ?_⟩
  cases e : fa ρ with
  | ok a =>
    rw [e] at h
    obtain ⟨d, f⟩ := a
    intro v F1 H1 x1 hh
    obtain ⟨F2, x2, r⟩ := held_share x1 hh
    exact hk d f v F2 H1 x2 (S.step x2) r (Post.step h x2)
  | ex c => rw [e] at h; exact h
  | st => rw [e] at h; exact h
theorem tE_bindB {fa : EF} {k : D × Bool → R Bool} {Q : Bool → Hp → Prop} {Q' : VK} (S : StOk K F0 H0 F H σ ρ) (h : PostB F H E ((fa ρ).bind k) Q)
    (hk : ∀ d f x F1 H1, Fr F H F1 H1 → StOk K F0 H0 F1 H1 σ ρ → Rp K F1 x d → PostB F1 H1 E (k (d, f)) Q → Q' x H1) : tE K E fa σ H Q' := by
  refine ⟨F0, H0, F, ρ, S, ?_⟩
  cases e : fa ρ with
  | ok a =>
    rw [e] at h
    obtain ⟨d, f⟩ := a
    intro v F1 H1 x1 hh
    obtain ⟨F2, x2, r⟩ := held_share x1 hh
    exact hk d f v F2 H1 x2 (S.step x2) r (PostB.step h x2)
  | ex c => rw [e] at h; exact h
  | st => rw [e] at h; exact h
theorem tE_bindL {fa : EF} {k : D × Bool → R (List D)} {Q : List V → Hp → Prop} {Q' : VK} (S : StOk K F0 H0 F H σ ρ) (h : PostL K F H E ((fa ρ).bind k) Q)
    (hk : ∀ d f x F1 H1, Fr F H F1 H1 → StOk K F0 H0 F1 H1 σ ρ → Rp K F1 x d → PostL K F1 H1 E (k (d, f)) Q → Q' x H1) : tE K E fa σ H Q' := by
  refine ⟨F0, H0, F, ρ, S, ?_⟩
  cases e : fa ρ with
  | ok a =>
    rw [e] at h
    obtain ⟨d, f⟩ := a
    intro v F1 H1 x1 hh
    obtain ⟨F2, x2, r⟩ := held_share x1 hh
    exact hk d f v F2 H1 x2 (S.step x2) r (PostL.step h x2)
  | ex c => rw [e] at h; exact h
  | st => rw [e] at h; exact h
theorem tT_bind {fc : Env → R Bool} {k : Bool → R (D × Bool)} {Q : VK} {Q' : Bool → Hp → Prop} (S : StOk K F0 H0 F H σ ρ) (h : Post K F H E ((fc ρ).bind k) Q)
    (hk : ∀ b F1 H1, Fr F H F1 H1 → StOk K F0 H0 F1 H1 σ ρ → Post K F1 H1 E (k b) Q → Q' b H1) : tT K E fc σ H Q' := by
  refine ⟨F0, H0, F, ρ, S, ?_⟩
  cases e : fc ρ with
  | ok b => rw [e] at h; exact fun F1 H1 x1 => hk b F1 H1 x1 (S.step x1) (Post.step h x1)
  | ex c => rw [e] at h; exact h
  | st => rw [e] at h; exact h
theorem tT_bindB {fc : Env → R Bool} {k : Bool → R Bool} {Q : Bool → Hp → Prop} {Q' : Bool → Hp → Prop} (S : StOk K F0 H0 F H σ ρ) (h : PostB F H E ((fc ρ).bind k) Q)
    (hk : ∀ b F1 H1, Fr F H F1 H1 → StOk K F0 H0 F1 H1 σ ρ → PostB F1 H1 E (k b) Q → Q' b H1) : tT K E fc σ H Q' := by
  refine ⟨F0, H0, F, ρ, S, ?_⟩
  cases e : fc ρ with
  | ok b => rw [e] at h; exact fun F1 H1 x1 => hk b F1 H1 x1 (S.step x1) (PostB.step h x1)
  | ex c => rw [e] at h; exact h
  | st => rw [e] at h; exact h
theorem tA_bind {fa : Env → R (List D)} {k : List D → R (D × Bool)} {Q : VK} {Q' : List V → Hp → Prop} (S : StOk K F0 H0 F H σ ρ) (h : Post K F H E ((fa ρ).bind k) Q)
    (hk : ∀ ds xs F1 H1, fa ρ = .ok ds → Fr F H F1 H1 → StOk K F0 H0 F1 H1 σ ρ → RpL K F1 xs ds → Post K F1 H1 E (k ds) Q → Q' xs H1) : tA K E fa σ H Q' := by
  refine ⟨F0, H0, F, ρ, S, ?_⟩
  cases e : fa ρ with
  | ok a => rw [e] at h; exact fun v F1 H1 x1 r => hk a v F1 H1 e x1 (S.step x1) r (Post.step h x1)
  | ex c => rw [e] at h; exact h
  | st => rw [e] at h; exact h
theorem tA_bindL {fa : Env → R (List D)} {k : List D → R (List D)} {Q : List V → Hp → Prop} {Q' : List V → Hp → Prop} (S : StOk K F0 H0 F H σ ρ) (h : PostL K F H E ((fa ρ).bind k) Q)
    (hk : ∀ ds xs F1 H1, Fr F H F1 H1 → StOk K F0 H0 F1 H1 σ ρ → RpL K F1 xs ds → PostL K F1 H1 E (k ds) Q → Q' xs H1) : tA K E fa σ H Q' := by
  refine ⟨F0, H0, F, ρ, S, ?_⟩
  cases e : fa ρ with
  | ok a => rw [e] at h; exact fun v F1 H1 x1 r => hk a v F1 H1 x1 (S.step x1) r (PostL.step h x1)
  | ex c => rw [e] at h; exact h
  | st => rw [e] at h; exact h
/-- an answer without a new object -/
theorem Post.here {d : D} {v : V} {Q : VK} (h : Post K F H E (.ok (d, false)) Q) (s : Sb F H) (r : Rp K F v d) : Q v H := h v F H (.refl s) r
/-- an answer that is a new object, owned alone -/
theorem Post.fresh {d : D} {p : Addr} {o : HO} {Q : VK} (h : Post K F H E (.ok (d, true)) Q) (s : Sb F H) (hp : H p = none) (w : Own K F (upd H p o) p d) : Q (.ref p) (upd H p o) :=
  h (.ref p) F (upd H p o) (.upd s hp) ⟨p, rfl, (by cases e : F p with | none => rfl | some u => rw [s p u e] at hp; cases hp), hp, w⟩
/-- an answer that is a new object, represented at once -/
theorem Post.laid {d : D} {p : Addr} {o : HO} {Q : VK} (h : Post K F H E (.ok (d, false)) Q) (s : Sb F H) (hp : H p = none) (w : Rp K (upd F p o) (.ref p) d) : Q (.ref p) (upd H p o) := by
  have hF : F p = none := by cases e : F p with | none => rfl | some u => rw [s p u e] at hp; cases hp
  refine h (.ref p) (upd F p o) (upd H p o) ⟨fun a u e => by rw [upd_ne (ne_of_none e hF)]; exact e, fun a u e => ?_, fun a u e => by rw [upd_ne (ne_of_none e hp)]; exact e, fun a u e => ?_⟩ w
  · by_cases ha : a = p
    · subst ha; rw [upd_same] at e ⊢; exact e
    · rw [upd_ne ha] at e ⊢; exact s a u e
  · by_cases ha : a = p
    · subst ha; exact .inr (.inl hp)
    · rw [upd_ne ha] at e; exact .inl e
theorem sb_upd {p : Addr} {o : HO} (hF : F p = none) : Sb F (upd F p o) := fun a u e => by rw [upd_ne (ne_of_none e hF)]; exact e
theorem none_of_sb {p : Addr} (s : Sb F H) (hp : H p = none) : F p = none := by
  cases e : F p with
  | none => rfl
  | some u => rw [s p u e] at hp; cases hp
end

/-! ### names, constants -/
def eVar (i : Nat) : EF := fun ρ => match ρ[i]? with
  | some (some (d, false)) => .ok (d, false)
  | _ => .st
def eC (d : D) : EF := fun _ => .ok (d, false)
section
variable {X : Cx} {E : XE} {pos : Pos}
theorem px_var (i : Nat) {x : Str} (hN : X.N[i]? = some x := by rfl) (hv : Vis X.env.scope x := by first | exact Or.inl rfl | exact Or.inr (Or.inl rfl) | exact Or.inr (Or.inr rfl)) (hd : (x == ("__debug__" : Str)) = false := by decide)
    (hcd : (x == ("__classdict__" : Str)) = false := by decide) : PX X E (.Name x pos) (eVar i) := by
  refine ⟨fun pins s σ H Q I h => (pe_var hN hv hd hcd).run pins s σ H Q I ?_⟩
  obtain ⟨F0, H0, F, ρ, S, h⟩ := h
  unfold eVar at h
  split at h
  · rename_i d e
    obtain ⟨v, e1, r⟩ := S.sl i d false e
    exact ⟨v, e1, h.here S.sub r⟩
  · exact h.elim
theorem px_int {i j} : PX X E (.Constant (.int i) j pos) (eC (.int i)) := ⟨fun pins s σ H Q I ⟨_, _, _, _, S, h⟩ => pe_int.run pins s σ H Q I (h.here S.sub (.int i))⟩
theorem px_bl {b j} : PX X E (.Constant (.bool b) j pos) (eC (.bl b)) := ⟨fun pins s σ H Q I ⟨_, _, _, _, S, h⟩ => pe_bl.run pins s σ H Q I (h.here S.sub (.bl b))⟩
theorem px_non {j} : PX X E (.Constant .none j pos) (eC .non) := ⟨fun pins s σ H Q I ⟨_, _, _, _, S, h⟩ => pe_non.run pins s σ H Q I (h.here S.sub .non)⟩
theorem px_str {x j} : PX X E (.Constant (.str x) j pos) (eC (.str x)) := ⟨fun pins s σ H Q I ⟨_, _, _, _, S, h⟩ => pe_str.run pins s σ H Q I (h.here S.sub (.str x))⟩
/-- a constant of the module: an int or a text -/
theorem px_globI {x : Str} {i : Int} {u : Value} (hg : Gl X x) (hm : X.mg x = some u) (r : RelV (.int i) u) (hd : (x == ("__debug__" : Str)) = false := by decide) : PX X E (.Name x pos) (eC (.int i)) :=
  ⟨fun pins s σ H Q I ⟨_, _, _, _, S, h⟩ => (pe_glob hg hm r hd).run pins s σ H Q I (h.here S.sub (.int i))⟩
theorem px_globS {x : Str} {i : Str} {u : Value} (hg : Gl X x) (hm : X.mg x = some u) (r : RelV (.str i) u) (hd : (x == ("__debug__" : Str)) = false := by decide) : PX X E (.Name x pos) (eC (.str i)) :=
  ⟨fun pins s σ H Q I ⟨_, _, _, _, S, h⟩ => (pe_glob hg hm r hd).run pins s σ H Q I (h.here S.sub (.str i))⟩

/-! ### operators, comparisons -/
/-- a rule over values answers as a function over data -/
def OpD (K : PySem.W.Frag) (r : R2) (g : D → D → R (D × Bool)) : Prop :=
  ∀ (E : XE) (F H : Hp) (x y : V) (dx dy : D) (Q : VK), Sb F H → Rp K F x dx → Rp K F y dy → Post K F H E (g dx dy) Q → r x y H Q
def fOp (g : D → D → R (D × Bool)) (fa fb : EF) : EF := fun ρ => (fa ρ).bind fun x => (fb ρ).bind fun y => g x.1 y.1
variable {a b c : Expr} {fa fb fc : EF} {g g' : D → D → R (D × Bool)} {r r' : R2}
theorem op_data (hg : OpD X.K r g) {σ : L2.St} {H : Hp} {Q : VK} (h : tE X.K E (fOp g fa fb) σ H Q) : tOp r (tE X.K E fa) (tE X.K E fb) σ H Q := by
  obtain ⟨F0, H0, F, ρ, S, h⟩ := h
  refine tE_bind S h fun d f x F1 H1 x1 S1 r1 h1 => ?_
  refine tE_bind S1 h1 fun e g y F2 H2 x2 S2 r2 h2 => ?_
  exact hg E F2 H2 x y d e Q S2.sub (r1.mono x2.sF) r2 h2
theorem px_op {op : Operator} (ho : OpR X (binaryOp op) r) (hg : OpD X.K r g) (ha : PX X E a fa) (hb : PX X E b fb) : PX X E (.BinOp a op b pos) (fOp g fa fb) :=
  ⟨fun pins s σ H Q I h => (pe_op ho ha hb).run pins s σ H Q I (op_data hg h)⟩
theorem px_cmp {op : CmpOp} (ho : OpR X (compareOp op) r) (hg : OpD X.K r g) (ha : PX X E a fa) (hb : PX X E b fb) (hm : behindInMarks op b = false := by first | exact nobehind _ (by decide) (by decide) | rfl) : PX X E (.Compare a [op] [b] pos) (fOp g fa fb) :=
  ⟨fun pins s σ H Q I h => (pe_cmpR ho ha hb hm).run pins s σ H Q I (op_data hg h)⟩
/-- a bool out of a datum -/
@[reducible] def toB (x : D × Bool) : R Bool := match x.1 with
  | .bl b => .ok b
  | _ => .st
def fY (f : EF) : Env → R Bool := fun ρ => (f ρ).bind toB
theorem bl_of {K : PySem.W.Frag} {F : Hp} {x : V} {b : Bool} (r : Rp K F x (.bl b)) : x = .bl b := by cases r; rfl
theorem int_of {K : PySem.W.Frag} {F : Hp} {x : V} {b : Int} (r : Rp K F x (.int b)) : x = .int b := by cases r; rfl
theorem str_of {K : PySem.W.Frag} {F : Hp} {x : V} {b : Str} (r : Rp K F x (.str b)) : x = .str b := by cases r; rfl
theorem test_data {f : EF} {σ : L2.St} {H : Hp} {Q : Bool → Hp → Prop} (h : tT X.K E (fY f) σ H Q) : tE X.K E f σ H (fun x H' => ∃ k, x = .bl k ∧ Q k H') := by
  obtain ⟨F0, H0, F, ρ, S, h⟩ := h
  refine tE_bindB S h fun d f x F1 H1 x1 S1 r1 h1 => ?_
  unfold toB at h1
  split at h1
  · rename_i b e
    simp only at e
    subst e
    exact ⟨b, bl_of r1, h1 F1 H1 (.refl S1.sub)⟩
  · exact h1.elim
theorem py_cmp {op : CmpOp} (ho : OpR X (compareOp op) r) (hg : OpD X.K r g) (ha : PX X E a fa) (hb : PX X E b fb) (hm : behindInMarks op b = false := by first | exact nobehind _ (by decide) (by decide) | rfl) : PY X E (.Compare a [op] [b] pos) (fY (fOp g fa fb)) := by
  refine ⟨fun pins s σ H Q I h => (pt_cmpR ho ha hb hm).run pins s σ H Q I ?_⟩
  exact op_data hg (test_data h)
/-- another expression that gives a bool, as a test -/
theorem py_val {e : Expr} {f : EF} (h : PX X E e f) (he : ∀ whole, isTrue e X.env whole = (do let v ← whole; standAt e.pos; holding [v] (truthy v)) := by intro _; rfl) : PY X E e (fY f) :=
  ⟨fun pins s σ H Q I hw => (pt_val h he).run pins s σ H Q I (test_data hw)⟩
def fNotT (f : Env → R Bool) : Env → R Bool := fun ρ => (f ρ).bind fun b => .ok (!b)
def fAndT (f g : Env → R Bool) : Env → R Bool := fun ρ => (f ρ).bind fun b => if b then g ρ else .ok false
def fOrT (f g : Env → R Bool) : Env → R Bool := fun ρ => (f ρ).bind fun b => if b then .ok true else g ρ
variable {ta tb : Env → R Bool} {rest : List Expr}
theorem py_not (ha : PY X E a ta) : PY X E (.UnaryOp .Not a pos) (fNotT ta) := by
  refine ⟨fun pins s σ H Q I h => (pt_not ha).run pins s σ H Q I ?_⟩
  obtain ⟨F0, H0, F, ρ, S, h⟩ := h
  exact tT_bindB S h fun b F1 H1 x1 S1 h1 => h1 F1 H1 (.refl S1.sub)
theorem pw'_and1 (ha : PY X E a ta) : PW' X E (.BoolOp .And [a] pos) ta := pw_and1 ha
theorem pw'_or1 (ha : PY X E a ta) : PW' X E (.BoolOp .Or [a] pos) ta := pw_or1 ha
theorem pw'_and (ha : PY X E a ta) (hb : PW' X E (.BoolOp .And (b :: rest) pos) tb) : PW' X E (.BoolOp .And (a :: b :: rest) pos) (fAndT ta tb) := by
  refine ⟨fun wh pins s σ H Q I h => (pw_and ha hb).run wh pins s σ H Q I ?_⟩
  obtain ⟨F0, H0, F, ρ, S, h⟩ := h
  refine tT_bindB S h fun b F1 H1 x1 S1 h1 => ?_
  cases b with
  | true => exact ⟨F0, H0, F1, ρ, S1, h1⟩
  | false => exact h1 F1 H1 (.refl S1.sub)
theorem pw'_or (ha : PY X E a ta) (hb : PW' X E (.BoolOp .Or (b :: rest) pos) tb) : PW' X E (.BoolOp .Or (a :: b :: rest) pos) (fOrT ta tb) := by
  refine ⟨fun wh pins s σ H Q I h => (pw_or ha hb).run wh pins s σ H Q I ?_⟩
  obtain ⟨F0, H0, F, ρ, S, h⟩ := h
  refine tT_bindB S h fun b F1 H1 x1 S1 h1 => ?_
  cases b with
  | true => exact h1 F1 H1 (.refl S1.sub)
  | false => exact ⟨F0, H0, F1, ρ, S1, h1⟩
theorem py_w {e : Expr} (h : PW' X E e ta) : PY X E e ta := h.pt
/-- .. as values, all but the last bools -/
def fAnd (f g : EF) : EF := fun ρ => (f ρ).bind fun x => match x.1 with
  | .bl b => if b then g ρ else .ok (.bl false, false)
  | _ => .st
def fOr (f g : EF) : EF := fun ρ => (f ρ).bind fun x => match x.1 with
  | .bl b => if b then .ok (.bl true, false) else g ρ
  | _ => .st
def fNot (f : EF) : EF := fun ρ => (f ρ).bind fun x => match x.1 with
  | .bl b => .ok (.bl (!b), false)
  | _ => .st
theorem px_one {op} (h : PX X E a fa) : PX X E (.BoolOp op [a] pos) fa := pe_one h
theorem px_and (ha : PX X E a fa) (hb : PX X E (.BoolOp .And (b :: rest) pos) fb) : PX X E (.BoolOp .And (a :: b :: rest) pos) (fAnd fa fb) := by
  refine ⟨fun pins s σ H Q I h => (pe_and ha hb).run pins s σ H Q I ?_⟩
  obtain ⟨F0, H0, F, ρ, S, h⟩ := h
  refine tE_bind S h fun d f x F1 H1 x1 S1 r1 h1 => ?_
  cases d with
  | bl b =>
    refine ⟨b, bl_of r1, ?_⟩
    cases b with
    | true => exact ⟨F0, H0, F1, ρ, S1, h1⟩
    | false => exact h1.here S1.sub (.bl false)
  | _ => exact h1.elim
theorem px_or (ha : PX X E a fa) (hb : PX X E (.BoolOp .Or (b :: rest) pos) fb) : PX X E (.BoolOp .Or (a :: b :: rest) pos) (fOr fa fb) := by
  refine ⟨fun pins s σ H Q I h => (pe_or ha hb).run pins s σ H Q I ?_⟩
  obtain ⟨F0, H0, F, ρ, S, h⟩ := h
  refine tE_bind S h fun d f x F1 H1 x1 S1 r1 h1 => ?_
  cases d with
  | bl b =>
    refine ⟨b, bl_of r1, ?_⟩
    cases b with
    | true => exact h1.here S1.sub (.bl true)
    | false => exact ⟨F0, H0, F1, ρ, S1, h1⟩
  | _ => exact h1.elim
theorem px_not (ha : PX X E a fa) : PX X E (.UnaryOp .Not a pos) (fNot fa) := by
  refine ⟨fun pins s σ H Q I h => (pe_not ha).run pins s σ H Q I ?_⟩
  obtain ⟨F0, H0, F, ρ, S, h⟩ := h
  refine tE_bind S h fun d f x F1 H1 x1 S1 r1 h1 => ?_
  cases d with
  | bl b => exact ⟨b, bl_of r1, h1.here S1.sub (.bl _)⟩
  | _ => exact h1.elim
def fIf (t : Env → R Bool) (f g : EF) : EF := fun ρ => (t ρ).bind fun b => if b then f ρ else g ρ
theorem px_if (hc : PY X E c ta) (ha : PX X E a fa) (hb : PX X E b fb) : PX X E (.IfExp c a b pos) (fIf ta fa fb) := by
  refine ⟨fun pins s σ H Q I h => (pe_ifExp hc ha hb).run pins s σ H Q I ?_⟩
  obtain ⟨F0, H0, F, ρ, S, h⟩ := h
  refine tT_bind S h fun b F1 H1 x1 S1 h1 => ?_
  cases b with
  | true => exact ⟨F0, H0, F1, ρ, S1, h1⟩
  | false => exact ⟨F0, H0, F1, ρ, S1, h1⟩
/-- a <= b <= c -/
def fChain (g g' : D → D → R (D × Bool)) (fa fb fc : EF) : EF := fun ρ => (fa ρ).bind fun x => (fb ρ).bind fun y => (g x.1 y.1).bind fun z => match z.1 with
  | .bl b => if b then (fc ρ).bind fun w => g' y.1 w.1 else .ok (.bl false, false)
  | _ => .st
theorem chain_data (hg : OpD X.K r g) (hg' : OpD X.K r' g') (hq : ∀ x y d f, g x y = .ok (d, f) → f = false) {σ : L2.St} {H : Hp} {Q : VK} (h : tE X.K E (fChain g g' fa fb fc) σ H Q) : tChain r r' (tE X.K E fa) (tE X.K E fb) (tE X.K E fc) σ H Q := by
  obtain ⟨F0, H0, F, ρ, S, h⟩ := h
  refine tE_bind S h fun dx f1 x F1 H1 x1 S1 r1 h1 => ?_
  refine tE_bind S1 h1 fun dy f2 y F2 H2 x2 S2 r2 h2 => ?_
  refine hg E F2 H2 x y dx dy _ S2.sub (r1.mono x2.sF) r2 ?_
  cases e : g dx dy with
  | ok p =>
    obtain ⟨dz, fz⟩ := p
    obtain rfl := hq _ _ _ _ e
    intro z F3 H3 x3 hz
    simp only [e] at h2
    cases dz with
    | bl k =>
      refine ⟨k, bl_of hz, ?_⟩
      cases k with
      | true =>
        simp only [if_true]
        refine tE_bind (S2.step x3) (Post.step (r := (fc ρ).bind fun w => g' dy w.1) h2 x3) fun dw f4 w F4 H4 x4 S4 r4 h4 => ?_
        exact hg' E F4 H4 y w dy dw Q S4.sub ((r2.mono x3.sF).mono x4.sF) r4 h4
      | false =>
        simp only [Bool.false_eq_true, if_false]
        exact h2 (.bl false) F3 H3 x3 (.bl false)
    | _ => exact h2.elim
  | ex c => simp only [e] at h2; exact h2
  | st => simp only [e] at h2; exact h2
theorem px_chain {op op' : CmpOp} (ho : OpR X (compareOp op) r) (ho' : OpR X (compareOp op') r') (hg : OpD X.K r g) (hg' : OpD X.K r' g') (hq : ∀ x y d f, g x y = .ok (d, f) → f = false) (ha : PX X E a fa) (hb : PX X E b fb) (hc : PX X E c fc)
    (hm : lastMarks [op, op'] [b, c] = false := by with_unfolding_all rfl) : PX X E (.Compare a [op, op'] [b, c] pos) (fChain g g' fa fb fc) :=
  ⟨fun pins s σ H Q I h => (pe_chain ho ho' ha hb hc hm).run pins s σ H Q I (chain_data hg hg' hq h)⟩
theorem py_chain {op op' : CmpOp} (ho : OpR X (compareOp op) r) (ho' : OpR X (compareOp op') r') (hg : OpD X.K r g) (hg' : OpD X.K r' g') (hq : ∀ x y d f, g x y = .ok (d, f) → f = false) (ha : PX X E a fa) (hb : PX X E b fb) (hc : PX X E c fc)
    (hm : lastMarks [op, op'] [b, c] = false := by with_unfolding_all rfl) : PY X E (.Compare a [op, op'] [b, c] pos) (fY (fChain g g' fa fb fc)) :=
  ⟨fun pins s σ H Q I h => (pt_chain ho ho' ha hb hc hm).run pins s σ H Q I (chain_data hg hg' hq (test_data h))⟩
end
end Pd

/-! Pd2: names read while owned, statements, loops, calls, defs. -/
namespace Pd
open PySem PySem.Spec PyProof.Rows L2

/-! ### reading what is owned, where the answer does not keep it -/
def unown (ρ : Env) : Env := ρ.map fun o => o.map fun p => (p.1, false)
mutual
def imm : D → Bool
  | .non => true | .bl _ => true | .int _ => true | .str _ => true
  | .tup xs => immL xs
  | .lst _ => false | .dic _ _ => false | .scr _ => false | .kin _ _ _ => false
def immL : List D → Bool
  | [] => true
  | x :: xs => imm x && immL xs
end
/-- F with the tuples of F' -/
def tupOnly (F F' : Hp) : Hp := fun a => match F' a with
  | some (.tup xs) => some (.tup xs)
  | _ => F a
section
variable {K : PySem.W.Frag} {F F' : Hp}
theorem tupOnly_tup {a : Addr} {xs : List V} (h : F' a = some (.tup xs)) : tupOnly F F' a = some (.tup xs) := by unfold tupOnly; rw [h]
mutual
theorem imm_rp : ∀ {d : D} {v : V}, imm d = true → Rp K F' v d → Rp K (tupOnly F F') v d
  | .non, _, _, h => by cases h; exact .non
  | .bl _, _, _, h => by cases h; exact .bl _
  | .int _, _, _, h => by cases h; exact .int _
  | .str _, _, _, h => by cases h; exact .str _
  | .tup ds, _, i, h => by cases h with | tup h1 h2 => exact .tup (tupOnly_tup h1) (immL_rp (by simpa [imm] using i) h2)
  | .lst _, _, i, _ => by simp [imm] at i
  | .dic _ _, _, i, _ => by simp [imm] at i
  | .scr _, _, i, _ => by simp [imm] at i
  | .kin _ _ _, _, i, _ => by simp [imm] at i
theorem immL_rp : ∀ {ds : List D} {vs : List V}, immL ds = true → RpL K F' vs ds → RpL K (tupOnly F F') vs ds
  | [], _, _, h => by cases h; exact .nil
  | d :: ds, _, i, h => by
    cases h with
    | cons h1 h2 =>
      simp only [immL, Bool.and_eq_true] at i
      exact .cons (imm_rp i.1 h1) (immL_rp i.2 h2)
end
theorem tupOnly_fr {H H' F1 : Hp} (s1 : Sb F F1) (x : Fr F1 H F' H') : Fr F H (tupOnly F F') H' := by
  have s : Sb F F' := s1.trans x.sF
  refine ⟨fun a o e => ?_, fun a o e => ?_, x.kp, fun a o e => ?_⟩
  · have e' := s a o e
    unfold tupOnly
    split
    · rename_i xs q; rw [e'] at q; exact q ▸ rfl
    · exact e
  · unfold tupOnly at e
    split at e
    · rename_i xs q; rw [← e]; exact x.sH _ _ q
    · exact x.sH _ _ (s a o e)
  · unfold tupOnly at e
    split at e
    · exact .inr (.inr ⟨_, (Option.some.inj e).symm⟩)
    · exact .inl e
end
open Classical in
noncomputable def ownF (F H : Hp) (σ : L2.St) (ρ : Env) : Hp := fun a => if (∃ (i : Nat) (d : D), ρ[i]? = some (some (d, true)) ∧ σ[i]? = some (some (V.ref a))) then H a else F a
theorem unown_get {ρ : Env} {i : Nat} {d : D} {f : Bool} (h : (unown ρ)[i]? = some (some (d, f))) : f = false ∧ ∃ g, ρ[i]? = some (some (d, g)) := by
  unfold unown at h
  rw [List.getElem?_map] at h
  cases e : ρ[i]? with
  | none => rw [e] at h; cases h
  | some o =>
    rw [e] at h
    cases o with
    | none => cases h
    | some p =>
      obtain ⟨d', g⟩ := p
      simp only [Option.map_some, Option.some.injEq, Prod.mk.injEq] at h
      obtain ⟨rfl, rfl⟩ := h
      exact ⟨rfl, g, rfl⟩
section
variable {K : PySem.W.Frag} {F0 H0 F H : Hp} {σ : L2.St} {ρ : Env}
theorem StOk.unown (S : StOk K F0 H0 F H σ ρ) : ∃ F1, Sb F F1 ∧ StOk K F0 H0 F1 H σ (Pd.unown ρ) := by
  have own : ∀ a, (∃ (i : Nat) (d : D), ρ[i]? = some (some (d, true)) ∧ σ[i]? = some (some (V.ref a))) → F a = none ∧ H0 a = none := by
    rintro a ⟨i, d, e1, e2⟩
    obtain ⟨v, e3, b, rfl, h1, h2, _⟩ := S.sl i d true e1
    rw [e2] at e3; cases e3
    exact ⟨h1, h2⟩
  have s1 : Sb F (ownF F H σ ρ) := fun a o e => by
    unfold ownF
    split
    · rename_i q; rw [(own a q).1] at e; cases e
    · exact e
  refine ⟨ownF F H σ ρ, s1, ⟨S.fr.sF.trans s1, fun a o e => ?_, S.fr.kp, fun a o e => ?_⟩, by simpa [Pd.unown] using S.len, fun i d f e => ?_, fun i j d e a _ h _ _ => ?_⟩
  · unfold ownF at e
    split at e
    · exact e
    · exact S.sub a o e
  · unfold ownF at e
    split at e
    · rename_i q; exact .inr (.inl (own a q).2)
    · exact S.fr.nw a o e
  · obtain ⟨rfl, g, e'⟩ := unown_get e
    obtain ⟨v, e1, h⟩ := S.sl i d g e'
    refine ⟨v, e1, ?_⟩
    cases g with
    | false => exact Rp.mono s1 h
    | true =>
      obtain ⟨a, rfl, h1, h2, o⟩ := h
      have ha : ownF F H σ ρ a = H a := by unfold ownF; rw [if_pos ⟨i, d, e', e1⟩]
      cases o with
      | lst h r => exact Rp.lst (ha.trans h) (r.mono s1)
      | dicK h r => exact Rp.dicK (.inl (ha.trans h)) (r.mono s1)
      | dicT h r => exact Rp.dicT (.inl (ha.trans h)) (r.mono s1)
  · have := (unown_get h).1; cases this
end
def fPeek (f : EF) : EF := fun ρ => match f (unown ρ) with
  | .ok (d, false) => if imm d then .ok (d, false) else .st
  | .ok (.lst ds, true) => if immL ds then .ok (.lst ds, true) else .st
  | .ok _ => .st
  | .ex c => .ex c
  | .st => .st
def fPeekB (f : Env → R Bool) : Env → R Bool := fun ρ => f (unown ρ)
section
variable {X : Cx} {E : XE} {e : Expr}
theorem px_peek {f : EF} (h : PX X E e f) : PX X E e (fPeek f) := by
  refine ⟨fun pins s σ H Q I hw => h.run pins s σ H Q I ?_⟩
  obtain ⟨F0, H0, F, ρ, S, hw⟩ := hw
  obtain ⟨F1, s1, S1⟩ := S.unown
  refine ⟨F0, H0, F1, unown ρ, S1, ?_⟩
  unfold fPeek at hw
  cases e1 : f (unown ρ) with
  | ok p =>
    rw [e1] at hw
    obtain ⟨d, g⟩ := p
    intro v F2 H2 x2 hh
    cases g with
    | false =>
      simp only at hw
      by_cases hi : imm d = true
      · rw [if_pos hi] at hw
        exact hw v _ H2 (tupOnly_fr s1 x2) (imm_rp hi hh)
      · rw [if_neg hi] at hw; exact hw.elim
    | true =>
      cases d with
      | lst ds =>
        simp only at hw
        by_cases hi : immL ds = true
        · rw [if_pos hi] at hw
          obtain ⟨a, rfl, h1, h2, o⟩ := hh
          refine hw _ _ H2 (tupOnly_fr s1 x2) ⟨a, rfl, ?_, h2, ?_⟩
          · unfold tupOnly; rw [h1]
            exact none_of_sb (s1.trans x2.sF) h1
          · cases o with
            | lst q r => exact .lst q (immL_rp hi r)
        · rw [if_neg hi] at hw; exact hw.elim
      | _ => exact hw.elim
  | ex c => rw [e1] at hw; exact hw
  | st => rw [e1] at hw; exact hw
theorem py_peek {f : Env → R Bool} (h : PY X E e f) : PY X E e (fPeekB f) := by
  refine ⟨fun pins s σ H Q I hw => h.run pins s σ H Q I ?_⟩
  obtain ⟨F0, H0, F, ρ, S, hw⟩ := hw
  obtain ⟨F1, s1, S1⟩ := S.unown
  refine ⟨F0, H0, F1, unown ρ, S1, ?_⟩
  unfold fPeekB at hw
  cases e1 : f (unown ρ) with
  | ok b => rw [e1] at hw; exact fun F2 H2 x2 => hw F H2 ⟨.refl F, (s1.trans x2.sF).trans x2.sH, x2.kp, fun _ _ q => .inl q⟩
  | ex c => rw [e1] at hw; exact hw
  | st => rw [e1] at hw; exact hw
end

/-! ### statements -/
inductive Out where
  | nx (ρ : Env) | rt (d : D) (f : Bool) | ex (c : Xn) | st
abbrev SF := Env → Out
def PostS (K : PySem.W.Frag) (F0 H0 : Hp) (E : XE) (D : Ends) (o : Out) : Prop := match o with
  | .nx ρ => ∀ σ F H, StOk K F0 H0 F H σ ρ → D.nx σ H
  | .rt d f => ∀ v F H, Fr F0 H0 F H → Held K F H H0 v d f → D.rt v H
  | .ex c => ∀ H, Sb H0 H → E c H
  | .st => False
def tS (K : PySem.W.Frag) (F0 H0 : Hp) (E : XE) (s : SF) : TS := fun D σ H => ∃ F ρ, StOk K F0 H0 F H σ ρ ∧ PostS K F0 H0 E D (s ρ)
abbrev PZ (X : Cx) (E : XE) (st : Stmt) (s : SF) : Prop := ∀ F0 H0, PS X st (tS X.K F0 H0 E s)
abbrev PZs (X : Cx) (E : XE) (sts : List Stmt) (s : SF) : Prop := ∀ F0 H0, PSs X sts (tS X.K F0 H0 E s)

section
variable {K : PySem.W.Frag} {F0 H0 F H : Hp} {σ : L2.St} {ρ : Env} {E : XE} {D : Ends}
/-- the entry's represented part may be taken larger -/
theorem StOk.raise {F1 H1 : Hp} (S : StOk K F0 H0 F H σ ρ) (x : Fr F0 H0 F1 H1) (s : Sb F1 F) : StOk K F1 H0 F H σ ρ :=
  ⟨⟨s, S.fr.sH, S.fr.kp, fun a o e => by
    rcases S.fr.nw a o e with q | q | q
    · exact .inl (x.sF a o q)
    · exact .inr (.inl q)
    · exact .inr (.inr q)⟩, S.len, S.sl, S.dj⟩
theorem Fr.lower {F1 H1 : Hp} (y : Fr F1 H0 F H) (x : Fr F0 H0 F1 H1) : Fr F0 H0 F H :=
  ⟨x.sF.trans y.sF, y.sH, y.kp, fun a o e => by
    rcases y.nw a o e with q | q | q
    · exact x.nw a o q
    · exact .inr (.inl q)
    · exact .inr (.inr q)⟩
theorem StOk.lower {F1 H1 : Hp} (S : StOk K F1 H0 F H σ ρ) (x : Fr F0 H0 F1 H1) : StOk K F0 H0 F H σ ρ := ⟨S.fr.lower x, S.len, S.sl, S.dj⟩
theorem PostS.raise {F1 H1 : Hp} {o : Out} (h : PostS K F0 H0 E D o) (x : Fr F0 H0 F1 H1) : PostS K F1 H0 E D o := by
  cases o with
  | nx ρ => exact fun σ F H S => h σ F H (S.lower x)
  | rt d f => exact fun v F H y hh => h v F H (y.lower x) hh
  | ex c => exact h
  | st => exact h
/-- an expression, then the rest of a statement -/
theorem tE_bindS {fa : EF} {k : Pd.D × Bool → Out} {Q' : VK} (S : StOk K F0 H0 F H σ ρ) (h : PostS K F0 H0 E D (match fa ρ with | .ok x => k x | .ex c => .ex c | .st => .st))
    (hk : ∀ d f x F1 H1, Fr F H F1 H1 → StOk K F0 H0 F1 H1 σ ρ → Rp K F1 x d → PostS K F0 H0 E D (k (d, f)) → Q' x H1) : tE K E fa σ H Q' := by
  refine ⟨F0, H0, F, ρ, S, ?_⟩
  cases e : fa ρ with
  | ok a =>
    rw [e] at h
    obtain ⟨d, f⟩ := a
    intro v F1 H1 x1 hh
    obtain ⟨F2, x2, r⟩ := held_share x1 hh
    exact hk d f v F2 H1 x2 (S.step x2) r h
  | ex c => rw [e] at h; exact fun H' s => h H' (S.fr.kp.trans s)
  | st => rw [e] at h; exact h
theorem tT_bindS {fc : Env → R Bool} {k : Bool → Out} {Q' : Bool → Hp → Prop} (S : StOk K F0 H0 F H σ ρ) (h : PostS K F0 H0 E D (match fc ρ with | .ok x => k x | .ex c => .ex c | .st => .st))
    (hk : ∀ b F1 H1, Fr F H F1 H1 → StOk K F0 H0 F1 H1 σ ρ → PostS K F0 H0 E D (k b) → Q' b H1) : tT K E fc σ H Q' := by
  refine ⟨F0, H0, F, ρ, S, ?_⟩
  cases e : fc ρ with
  | ok b => rw [e] at h; exact fun F1 H1 x1 => hk b F1 H1 x1 (S.step x1) h
  | ex c => rw [e] at h; exact fun H' s => h H' (S.fr.kp.trans s)
  | st => rw [e] at h; exact h
/-- the value in hand goes to a name's slot -/
theorem StOk.set {i : Nat} {v : V} {d : Pd.D} (S : StOk K F0 H0 F H σ ρ) (r : Rp K F v d) : StOk K F0 H0 F H (σ.set i (some v)) (ρ.set i (some (d, false))) := by
  refine ⟨S.fr, by simpa using S.len, fun j e f h => ?_, fun j k e e' a hjk h1 h2 h3 => ?_⟩
  · by_cases hj : i = j
    · subst hj
      have hl : i < ρ.length := by
        rcases Nat.lt_or_ge i ρ.length with c | c
        · exact c
        · rw [List.getElem?_eq_none (by simpa using c)] at h; cases h
      rw [List.getElem?_set_self hl] at h
      simp only [Option.some.injEq, Prod.mk.injEq] at h
      obtain ⟨rfl, rfl⟩ := h
      exact ⟨v, List.getElem?_set_self (by rw [S.len]; exact hl), r⟩
    · rw [List.getElem?_set_ne hj] at h
      obtain ⟨w, h1, h2⟩ := S.sl j e f h
      exact ⟨w, by rw [List.getElem?_set_ne hj]; exact h1, h2⟩
  · have nj : ∀ {m : Nat} {x : Pd.D}, (ρ.set i (some (d, false)))[m]? = some (some (x, true)) → i ≠ m ∧ ρ[m]? = some (some (x, true)) := fun {m x} h => by
      by_cases hm : i = m
      · subst hm
        rcases Nat.lt_or_ge i ρ.length with c | c
        · rw [List.getElem?_set_self c] at h; cases h
        · rw [List.getElem?_eq_none (by simpa using c)] at h; cases h
      · rw [List.getElem?_set_ne hm] at h; exact ⟨hm, h⟩
    obtain ⟨n1, h1⟩ := nj h1
    obtain ⟨n2, h2⟩ := nj h2
    rw [List.getElem?_set_ne n1] at h3
    rw [List.getElem?_set_ne n2]
    exact S.dj j k e e' a hjk h1 h2 h3
theorem StOk.setO {H' Hx F' : Hp} {i : Nat} {v : V} {d : Pd.D} (S : StOk K F0 H0 F H σ ρ) (x : Fr F H F' H') (hh : Held K F' H' H v d true) : StOk K F0 H0 F' H' (σ.set i (some v)) (ρ.set i (some (d, true))) := by
  have S' := S.step x
  obtain ⟨a, rfl, h1, h2, o⟩ := id hh
  have other : ∀ {m : Nat} {y : Pd.D}, ρ[m]? = some (some (y, true)) → σ[m]? ≠ some (some (.ref a)) := fun {m y} e q => by
    obtain ⟨w, q1, b, rfl, _, _, ob⟩ := S.sl m y true e
    rw [q] at q1; cases q1
    obtain ⟨u, hu, _⟩ := ob.here
    rw [h2] at hu; cases hu
  refine ⟨S'.fr, by simpa using S'.len, fun j e f h => ?_, fun j k e e' b hjk g1 g2 g3 g4 => ?_⟩
  · by_cases hj : i = j
    · subst hj
      have hl : i < ρ.length := by
        rcases Nat.lt_or_ge i ρ.length with c | c
        · exact c
        · rw [List.getElem?_eq_none (by simpa using c)] at h; cases h
      rw [List.getElem?_set_self hl] at h
      simp only [Option.some.injEq, Prod.mk.injEq] at h
      obtain ⟨rfl, rfl⟩ := h
      exact ⟨_, List.getElem?_set_self (by rw [S.len]; exact hl), hh.since S.fr.kp⟩
    · rw [List.getElem?_set_ne hj] at h
      obtain ⟨w, h1, h2⟩ := S'.sl j e f h
      exact ⟨w, by rw [List.getElem?_set_ne hj]; exact h1, h2⟩
  · by_cases hj : i = j
    · subst hj
      have hk : i ≠ k := hjk
      rw [List.getElem?_set_ne hk] at g2 g4
      have hl : i < σ.length := by
        rcases Nat.lt_or_ge i σ.length with c | c
        · exact c
        · rw [List.getElem?_eq_none (by simpa using c)] at g3; cases g3
      rw [List.getElem?_set_self hl] at g3
      cases g3
      exact other g2 g4
    · rw [List.getElem?_set_ne hj] at g1 g3
      by_cases hk : i = k
      · subst hk
        have hl : i < σ.length := by
          rcases Nat.lt_or_ge i σ.length with c | c
          · exact c
          · rw [List.getElem?_eq_none (by simpa using c)] at g4; cases g4
        rw [List.getElem?_set_self hl] at g4
        cases g4
        exact other g1 g3
      · rw [List.getElem?_set_ne hk] at g2 g4
        exact S.dj j k e e' b hjk g1 g2 g3 g4
end

section
variable {X : Cx} {E : XE} {pos pos' : Pos} {st : Stmt} {rest : List Stmt} {s t : SF}
def sNil : SF := fun ρ => .nx ρ
def sSeq (s t : SF) : SF := fun ρ => match s ρ with
  | .nx ρ' => t ρ'
  | .rt d f => .rt d f
  | .ex c => .ex c
  | .st => .st
theorem pz_nil : PZs X E [] sNil := fun F0 H0 => ⟨fun pins s σ H D I ⟨F, ρ, S, h⟩ => pss_nil.run pins s σ H D I (h σ F H S)⟩
theorem pz_cons (h1 : PZ X E st s) (h2 : PZs X E rest t) : PZs X E (st :: rest) (sSeq s t) := fun F0 H0 => by
  refine ⟨fun pins s' σ H D I h => (pss_cons (h1 F0 H0) (h2 F0 H0)).run pins s' σ H D I ?_⟩
  obtain ⟨F, ρ, S, h⟩ := h
  refine ⟨F, ρ, S, ?_⟩
  unfold sSeq at h
  cases e : s ρ with
  | nx ρ' => rw [e] at h; exact fun σ' F' H' S' => ⟨F', ρ', S', h⟩
  | rt d f => rw [e] at h; exact h
  | ex c => rw [e] at h; exact h
  | st => rw [e] at h; exact h
theorem pz_one (h1 : PZ X E st s) : PZs X E [st] s := fun F0 H0 => pss_one (h1 F0 H0)
theorem pz_pass : PZ X E (.Pass pos) sNil := fun F0 H0 => ⟨fun pins s σ H D I ⟨F, ρ, S, h⟩ => ps_pass.run pins s σ H D I (h σ F H S)⟩
def sIf (c : Env → R Bool) (s t : SF) : SF := fun ρ => match c ρ with
  | .ok b => if b then s ρ else t ρ
  | .ex c => .ex c
  | .st => .st
theorem pz_if {c : Expr} {a b : List Stmt} {tc : Env → R Bool} (hc : PY X E c tc) (ha : PZs X E a s) (hb : PZs X E b t) : PZ X E (.If c a b pos) (sIf tc s t) := fun F0 H0 => by
  refine ⟨fun pins s' σ H D I h => (ps_if hc (ha F0 H0) (hb F0 H0)).run pins s' σ H D I ?_⟩
  obtain ⟨F, ρ, S, h⟩ := h
  refine tT_bindS S h fun b F1 H1 x1 S1 h1 => ?_
  cases b with
  | true => exact ⟨F1, ρ, S1, h1⟩
  | false => exact ⟨F1, ρ, S1, h1⟩
def sRet (f : EF) : SF := fun ρ => match f ρ with
  | .ok (d, g) => .rt d g
  | .ex c => .ex c
  | .st => .st
theorem pz_ret {e : Expr} {f : EF} (he : PX X E e f) : PZ X E (.Return (some e) pos) (sRet f) := fun F0 H0 => by
  refine ⟨fun pins s' σ H D I h => (ps_ret he).run pins s' σ H D I ?_⟩
  obtain ⟨F, ρ, S, h⟩ := h
  refine ⟨F0, H0, F, ρ, S, ?_⟩
  unfold sRet at h
  cases e1 : f ρ with
  | ok p =>
    rw [e1] at h
    obtain ⟨d, g⟩ := p
    exact fun v F1 H1 x1 hh => h v F1 H1 (S.fr.trans x1) (hh.since S.fr.kp)
  | ex c => rw [e1] at h; exact fun H' s => h H' (S.fr.kp.trans s)
  | st => rw [e1] at h; exact h
theorem pz_retN : PZ X E (.Return none pos) (sRet (eC .non)) := fun F0 H0 =>
  ⟨fun pins s' σ H D I ⟨F, ρ, S, h⟩ => ps_retN.run pins s' σ H D I (h .non F H S.fr .non)⟩
/-- return x, x may be owned -/
def sRetV (i : Nat) : SF := fun ρ => match ρ[i]? with
  | some (some (d, f)) => .rt d f
  | _ => .st
theorem pz_retV (i : Nat) {x : Str} (hN : X.N[i]? = some x := by rfl) (hv : Vis X.env.scope x := by first | exact Or.inl rfl | exact Or.inr (Or.inl rfl) | exact Or.inr (Or.inr rfl)) (hd : (x == ("__debug__" : Str)) = false := by decide)
    (hcd : (x == ("__classdict__" : Str)) = false := by decide) : PZ X E (.Return (some (.Name x pos)) pos') (sRetV i) := fun F0 H0 => by
  refine ⟨fun pins s' σ H D I h => (ps_ret (pe_var hN hv hd hcd)).run pins s' σ H D I ?_⟩
  obtain ⟨F, ρ, S, h⟩ := h
  unfold sRetV at h
  split at h
  · rename_i d f e
    obtain ⟨v, e1, r⟩ := S.sl i d f e
    exact ⟨v, e1, h v F H S.fr r⟩
  · exact h.elim
/-- x = e: represented; owned -/
def sSet (i : Nat) (f : EF) : SF := fun ρ => match f ρ with
  | .ok x => .nx (ρ.set i (some (x.1, false)))
  | .ex c => .ex c
  | .st => .st
def sOwn (i : Nat) (f : EF) : SF := fun ρ => match f ρ with
  | .ok (d, true) => .nx (ρ.set i (some (d, true)))
  | .ok (_, false) => .st
  | .ex c => .ex c
  | .st => .st
theorem set_data {i : Nat} {f : EF} {F0 H0 : Hp} {σ : L2.St} {H : Hp} {D : Ends} (h : tS X.K F0 H0 E (sSet i f) D σ H) : tAsg (tE X.K E f) (gName i) D σ H := by
  obtain ⟨F, ρ, S, h⟩ := h
  exact tE_bindS S h fun d g x F1 H1 x1 S1 r1 h1 => h1 _ F1 H1 (S1.set r1)
theorem own_data {i : Nat} {f : EF} {F0 H0 : Hp} {σ : L2.St} {H : Hp} {D : Ends} (h : tS X.K F0 H0 E (sOwn i f) D σ H) : tAsg (tE X.K E f) (gName i) D σ H := by
  obtain ⟨F, ρ, S, h⟩ := h
  refine ⟨F0, H0, F, ρ, S, ?_⟩
  unfold sOwn at h
  cases e : f ρ with
  | ok p =>
    rw [e] at h
    obtain ⟨d, g⟩ := p
    cases g with
    | true => exact fun v F1 H1 x1 hh => h _ F1 H1 (S.setO (Hx := H) x1 hh)
    | false => exact h.elim
  | ex c => rw [e] at h; exact fun H' s => h H' (S.fr.kp.trans s)
  | st => rw [e] at h; exact h
theorem pz_set (i : Nat) {x : Str} {e : Expr} {f : EF} (he : PX X E e f) (hN : X.N.Nodup) (hi : X.N[i]? = some x := by rfl) (hx : Loc X.env.scope x := by first | exact Or.inl rfl | exact Or.inr rfl)
    (hs : swapsWith e (some (.Name x pos')) pos.line X.env = pure false := by rfl) (hf : X.fn x = true ∨ X.env.scope.names.lookup x = some .local := by first | exact .inl rfl | exact .inr rfl) : PZ X E (.Assign [.Name x pos'] e pos) (sSet i f) := fun F0 H0 =>
  ⟨fun pins s' σ H D I h => (ps_set hN hi hx he hs hf).run pins s' σ H D I (set_data h)⟩
theorem pz_own (i : Nat) {x : Str} {e : Expr} {f : EF} (he : PX X E e f) (hN : X.N.Nodup) (hi : X.N[i]? = some x := by rfl) (hx : Loc X.env.scope x := by first | exact Or.inl rfl | exact Or.inr rfl)
    (hs : swapsWith e (some (.Name x pos')) pos.line X.env = pure false := by rfl) (hf : X.fn x = true ∨ X.env.scope.names.lookup x = some .local := by first | exact .inl rfl | exact .inr rfl) : PZ X E (.Assign [.Name x pos'] e pos) (sOwn i f) := fun F0 H0 =>
  ⟨fun pins s' σ H D I h => (ps_set hN hi hx he hs hf).run pins s' σ H D I (own_data h)⟩
/-- an expression as a statement -/
def sDrop (f : EF) : SF := fun ρ => match f ρ with
  | .ok _ => .nx ρ
  | .ex c => .ex c
  | .st => .st
theorem pz_expr {e : Expr} {f : EF} (he : PX X E e f) (hs : swapsWith e none pos.line X.env = pure false := by rfl) : PZ X E (.Expr e pos) (sDrop f) := fun F0 H0 => by
  refine ⟨fun pins s' σ H D I h => (ps_expr he hs).run pins s' σ H D I ?_⟩
  obtain ⟨F, ρ, S, h⟩ := h
  exact tE_bindS S h fun d g x F1 H1 x1 S1 r1 h1 => h1 _ F1 H1 S1

/-! ### targets -/
def TgD (K : PySem.W.Frag) (t : TG) (g : D → Env → Option Env) : Prop :=
  ∀ (F0 H0 F H : Hp) (σ : L2.St) (ρ ρ' : Env) (v : V) (d : D) (Q : L2.St → Hp → Prop), StOk K F0 H0 F H σ ρ → Rp K F v d → g d ρ = some ρ' → (∀ σ', (∀ H, StOk K F0 H0 F H σ ρ → StOk K F0 H0 F H σ' ρ') → Q σ' H) → t v σ H Q
def gN (i : Nat) : D → Env → Option Env := fun d ρ => some (ρ.set i (some (d, false)))
theorem tg_name {K : PySem.W.Frag} (i : Nat) : TgD K (gName i) (gN i) := fun F0 H0 F H σ ρ ρ' v d Q S r e h => by
  cases e
  exact h _ fun H S => S.set r
def gNs : List Nat → List D → Env → Option Env
  | [], [], ρ => some ρ
  | i :: is, d :: ds, ρ => gNs is ds (ρ.set i (some (d, false)))
  | _, _, _ => none
def gNT : List Nat → TGs
  | [] => gNil
  | i :: is => gCons (gName i) (gNT is)
def gT (is : List Nat) : D → Env → Option Env := fun d ρ => match d with
  | .tup ds => gNs is ds ρ
  | _ => none
theorem tgs_names {K : PySem.W.Frag} : ∀ (is : List Nat) (F0 H0 F H : Hp) (σ : L2.St) (ρ ρ' : Env) (vs : List V) (ds : List D) (Q : L2.St → Hp → Prop), RpL K F vs ds → gNs is ds ρ = some ρ' → (∀ σ', (∀ H, StOk K F0 H0 F H σ ρ → StOk K F0 H0 F H σ' ρ') → Q σ' H) → gNT is vs σ H Q
  | [], F0, H0, F, H, σ, ρ, ρ', vs, [], Q, r, e, h => by
    cases r
    simp only [gNs, Option.some.injEq] at e
    subst e
    exact ⟨rfl, h σ fun H S => S⟩
  | [], _, _, _, _, _, _, _, _, _ :: _, _, _, e, _ => by simp [gNs] at e
  | _ :: _, _, _, _, _, _, _, _, _, [], _, _, e, _ => by simp [gNs] at e
  | i :: is, F0, H0, F, H, σ, ρ, ρ', vs, d :: ds, Q, r, e, h => by
    cases r with
    | cons r1 r2 =>
      simp only [gNs] at e
      exact ⟨_, _, rfl, tgs_names is F0 H0 F H _ _ ρ' _ ds Q r2 e fun σ' k => h σ' fun H S => k H (S.set r1)⟩
theorem gNs_len : ∀ (is : List Nat) (ds : List D) (ρ ρ' : Env), gNs is ds ρ = some ρ' → ds.length = is.length
  | [], [], _, _, _ => rfl
  | [], _ :: _, _, _, e => by simp [gNs] at e
  | _ :: _, [], _, _, e => by simp [gNs] at e
  | i :: is, d :: ds, ρ, ρ', e => by simp only [gNs] at e; simp [gNs_len is ds _ _ e]
theorem tg_tup {K : PySem.W.Frag} (is : List Nat) : TgD K (gTup K is.length (gNT is)) (gT is) := fun F0 H0 F H σ ρ ρ' v d Q S r e h => by
  cases d with
  | tup ds =>
    simp only [gT] at e
    cases r with
    | tup h1 h2 => exact ⟨_, _, rfl, .of (S.sub _ _ h1), h2.length.trans (gNs_len _ _ _ _ e), tgs_names is F0 H0 F H σ ρ ρ' _ ds Q h2 e h⟩
  | _ => simp [gT] at e
/-- target = e -/
def sAsg (g : D → Env → Option Env) (f : EF) : SF := fun ρ => match f ρ with
  | .ok x => (match g x.1 ρ with | some ρ' => .nx ρ' | none => .st)
  | .ex c => .ex c
  | .st => .st
theorem pz_asg {tg e : Expr} {f : EF} {t : TG} {g : D → Env → Option Env} (he : PX X E e f) (hg : PG X tg t) (hd : TgD X.K t g) (hs : swapsWithSole [tg] e pos.line X.env = pure false := by rfl) (hw : swappedStores [tg] e X.env = pure none := by rfl)
    (h1 : (assignEach [tg] X.env).map (·.2) = [assign tg X.env] := by rfl) : PZ X E (.Assign [tg] e pos) (sAsg g f) := fun F0 H0 => by
  refine ⟨fun pins s' σ H D I h => (ps_asg he hg hs hw h1).run pins s' σ H D I ?_⟩
  obtain ⟨F, ρ, S, h⟩ := h
  refine tE_bindS S h fun d b x F1 H1 x1 S1 r1 h1 => ?_
  cases e1 : g d ρ with
  | some ρ' => simp only [e1] at h1; exact hd F0 H0 F1 H1 σ ρ ρ' x d _ S1 r1 e1 fun σ' k => h1 σ' F1 H1 (k H1 S1)
  | none => simp only [e1] at h1; exact h1.elim
/-- a, b = e1, e2 -/
def sPar (i j : Nat) (fa fb : EF) : SF := fun ρ => match fa ρ with
  | .ok x => (match fb ρ with
    | .ok y => .nx ((ρ.set i (some (x.1, false))).set j (some (y.1, false)))
    | .ex c => .ex c
    | .st => .st)
  | .ex c => .ex c
  | .st => .st
theorem pz_par (i j : Nat) {x y : Str} {a b : Expr} {fa fb : EF} {px py pt : Pos} {kt k2 pt2} (hc : X.calm = true) (hN : X.N.Nodup) (ha : PX X E a fa) (hb : PX X E b fb) (hi : X.N[i]? = some x := by rfl) (hj : X.N[j]? = some y := by rfl) (hij : i ≠ j := by decide)
    (hx : X.env.scope.names.lookup x = some .local := by rfl) (hy : X.env.scope.names.lookup y = some .local := by rfl)
    (hw : swappedStores [.Tuple [.Name x px, .Name y py] kt pt] (.Tuple [a, b] k2 pt2) X.env = pure (some [x, y]) := by rfl)
    (hs : swapsWithSole [.Tuple [.Name x px, .Name y py] kt pt] (.Tuple [a, b] k2 pt2) pos.line X.env = pure false := by rfl)
    (hs1 : starEach [a, b] X.env = (false, eval a X.env) :: starEach [b] X.env := by rfl) (hs2 : starEach [b] X.env = (false, eval b X.env) :: starEach [] X.env := by rfl) :
    PZ X E (.Assign [.Tuple [.Name x px, .Name y py] kt pt] (.Tuple [a, b] k2 pt2) pos) (sPar i j fa fb) := fun F0 H0 => by
  refine ⟨fun pins s' σ H D I h => (ps_par hc hN hi hj hij hx hy (pa_cons ha (pa_cons hb pa_nil hs2) hs1) hw hs).run pins s' σ H D I ?_⟩
  obtain ⟨F, ρ, S, h⟩ := h
  refine tE_bindS S h fun d b x F1 H1 x1 S1 r1 h1 => ?_
  refine tE_bindS S1 h1 fun e c y F2 H2 x2 S2 r2 h2 => ?_
  exact ⟨x, y, rfl, h2 _ F2 H2 ((S2.set (r1.mono x2.sF)).set r2)⟩

/-! ### loops -/
/-- an iterator over data -/
structure WalkD (K : PySem.W.Frag) (J : It) (ds : List D) (F1 : Hp) : Prop where
  go : ∀ i F H, Sb F1 F → Sb F H → i < ds.length → J.go i H
  yld : ∀ i F H x H', Sb F1 F → Sb F H → i < ds.length → J.yld i H x H' → ∃ d F', ds[i]? = some d ∧ Fr F H F' H' ∧ Rp K F' x d
  stop : ∀ i F H, Sb F1 F → Sb F H → ds.length ≤ i → J.stop i H
def tI (K : PySem.W.Frag) (E : XE) (fi : Env → R (List D)) : TI := fun σ H Q => ∃ F0 H0 F ρ, StOk K F0 H0 F H σ ρ ∧ match fi ρ with
  | .ok ds => ∀ J F1 H1, Fr F H F1 H1 → WalkD K J ds F1 → Q J H1
  | .ex c => ∀ H', Sb H H' → E c H'
  | .st => False
abbrev PIx (X : Cx) (E : XE) (tg iter : Expr) (fi : Env → R (List D)) : Prop := PI X tg iter (tI X.K E fi)
def forL (g : D → Env → Option Env) (body : SF) : List D → SF
  | [], ρ => .nx ρ
  | d :: ds, ρ => match g d ρ with
    | some ρ1 => (match body ρ1 with
      | .nx ρ2 => forL g body ds ρ2
      | .rt d f => .rt d f
      | .ex c => .ex c
      | .st => .st)
    | none => .st
def sFor (fi : Env → R (List D)) (g : D → Env → Option Env) (body : SF) : SF := fun ρ => match fi ρ with
  | .ok ds => forL g body ds ρ
  | .ex c => .ex c
  | .st => .st
/-- the body of a loop, whatever its entry -/
def tAnyS (K : PySem.W.Frag) (E : XE) (s : SF) : TS := fun D σ H => ∃ F0 H0, tS K F0 H0 E s D σ H
theorem any_body {body : List Stmt} {sb : SF} (hb : PZs X E body sb) : PSs X body (tAnyS X.K E sb) := ⟨fun pins s σ H D I ⟨F0, H0, h⟩ => (hb F0 H0).run pins s σ H D I h⟩
theorem for_data {K : PySem.W.Frag} {F0 H0 F1 H1 : Hp} {σ : L2.St} {ρ : Env} {t : TG} {g : D → Env → Option Env} {sb : SF} {ds : List D} {D : Ends} {J : It} (hd : TgD K t g) (S : StOk K F0 H0 F1 H1 σ ρ) (h : PostS K F0 H0 E D (forL g sb ds ρ)) (w : WalkD K J ds F1) :
    ∃ W : Nat → Nat → L2.St → Hp → Prop, (∃ m, W 0 m σ H1) ∧ ∀ i m σ H, W i m σ H → (J.stop i H ∧ D.nx σ H) ∨ (J.go i H ∧ ∃ N : L2.St → Hp → Prop, (∀ σ' H', N σ' H' → ∃ m', m' < m ∧ W (i + 1) m' σ' H') ∧
      ∀ x H', J.yld i H x H' → t x σ H' fun σ2 H2 => tAnyS K E sb { D with nx := N, ct := N, bk := D.nx } σ2 H2) := by
  refine ⟨fun i m σ H => m = ds.length - i ∧ i ≤ ds.length ∧ ∃ F ρ, StOk K F1 H0 F H σ ρ ∧ PostS K F1 H0 E D (forL g sb (ds.drop i) ρ), ⟨_, rfl, Nat.zero_le _, F1, ρ, S.raise S.fr (.refl _), h.raise S.fr⟩, ?_⟩
  rintro i m σ2 H2 ⟨rfl, hi2, F2, ρ2, S2, h2⟩
  have s2 : Sb F1 F2 := S2.fr.sF
  by_cases hlt : i < ds.length
  · refine .inr ⟨w.go i F2 H2 s2 S2.sub hlt, fun σ' H' => ∃ F ρ, StOk K F1 H0 F H' σ' ρ ∧ PostS K F1 H0 E D (forL g sb (ds.drop (i + 1)) ρ), fun σ' H' n => ⟨ds.length - (i + 1), by omega, rfl, hlt, n⟩, fun x H3 y => ?_⟩
    obtain ⟨d, F3, ed, x3, r3⟩ := w.yld i F2 H2 x H3 s2 S2.sub hlt y
    have edr : ds.drop i = d :: ds.drop (i + 1) := by
      obtain ⟨hl, rfl⟩ := List.getElem?_eq_some_iff.mp ed
      exact List.drop_eq_getElem_cons hl
    rw [edr, forL] at h2
    cases e1 : g d ρ2 with
    | none => simp only [e1] at h2; exact h2.elim
    | some ρ3 =>
      simp only [e1] at h2
      refine hd F1 H0 F3 H3 σ2 ρ2 ρ3 x d _ (S2.step x3) r3 e1 fun σ4 k4 => ?_
      refine ⟨F1, H0, F3, ρ3, k4 H3 (S2.step x3), ?_⟩
      cases e2 : sb ρ3 with
      | nx ρ5 => simp only [e2] at h2; exact fun σ5 F5 H5 S5 => ⟨F5, ρ5, S5, h2⟩
      | rt d f => simp only [e2] at h2; exact h2
      | ex c => simp only [e2] at h2; exact h2
      | st => simp only [e2] at h2; exact h2
  · have ei : i = ds.length := by omega
    subst ei
    rw [List.drop_length, forL] at h2
    exact .inl ⟨w.stop _ F2 H2 s2 S2.sub (Nat.le_refl _), h2 σ2 F2 H2 S2⟩
theorem pz_for {tg iter : Expr} {body : List Stmt} {fi : Env → R (List D)} {t : TG} {g : D → Env → Option Env} {sb : SF} (hp : PassesOwn (model X.prog X.w) X.A X.env X.xe) (hc : X.calm = true) (hi : PIx X E tg iter fi) (hg : PG X tg t) (hd : TgD X.K t g)
    (hb : PZs X E body sb) (hs : ∀ x, foldedSetIterable iter X.env x = pure x := by intro _; rfl) : PZ X E (.For tg iter body [] pos) (sFor fi g sb) := fun F0 H0 => by
  refine ⟨fun pins s' σ H D I h => (ps_for hp hc hi hg (any_body hb) hs).run pins s' σ H D I ?_⟩
  obtain ⟨F, ρ, S, h⟩ := h
  refine ⟨F0, H0, F, ρ, S, ?_⟩
  unfold sFor at h
  cases e : fi ρ with
  | ex c => simp only [e] at h; exact fun H' s => h H' (S.fr.kp.trans s)
  | st => simp only [e] at h; exact h.elim
  | ok ds => simp only [e] at h; exact fun J F1 H1 x1 w => for_data hd (S.step x1) h w
/-- while, at most n turns -/
def whileL (c : Env → R Bool) (body : SF) : Nat → SF
  | 0, _ => .st
  | n + 1, ρ => match c ρ with
    | .ok b => if b then (match body ρ with
      | .nx ρ2 => whileL c body n ρ2
      | .rt d f => .rt d f
      | .ex c => .ex c
      | .st => .st) else .nx ρ
    | .ex c => .ex c
    | .st => .st
theorem pz_while (n : Nat) {c : Expr} {body : List Stmt} {tc : Env → R Bool} {sb : SF} (hp : PassesOwn (model X.prog X.w) X.A X.env X.xe) (hc : PY X E c tc) (hb : PZs X E body sb) : PZ X E (.While c body [] pos) (whileL tc sb n) := fun F0 H0 => by
  refine ⟨fun pins s' σ H D I h => (ps_while hp hc (hb F0 H0)).run pins s' σ H D I ?_⟩
  obtain ⟨F, ρ, S, h⟩ := h
  refine ⟨fun m σ H => ∃ F ρ, StOk X.K F0 H0 F H σ ρ ∧ PostS X.K F0 H0 E D (whileL tc sb m ρ), ⟨n, F, ρ, S, h⟩, ?_⟩
  rintro m σ1 H1 ⟨F1, ρ1, S1, h1⟩
  cases m with
  | zero => exact h1.elim
  | succ m =>
    rw [whileL] at h1
    refine tT_bindS S1 h1 fun b F2 H2 x2 S2 h2 => ?_
    cases b with
    | true =>
      simp only [if_true] at h2 ⊢
      refine ⟨fun σ' H' => ∃ F ρ, StOk X.K F0 H0 F H' σ' ρ ∧ PostS X.K F0 H0 E D (whileL tc sb m ρ), fun σ' H' q => ⟨m, Nat.lt_succ_self m, q⟩, F2, ρ1, S2, ?_⟩
      cases e : sb ρ1 with
      | nx ρ2 => simp only [e] at h2; exact fun σ' F' H' S' => ⟨F', ρ2, S', h2⟩
      | rt d f => simp only [e] at h2; exact h2
      | ex c => simp only [e] at h2; exact h2
      | st => simp only [e] at h2; exact h2
    | false =>
      simp only [Bool.false_eq_true, if_false] at h2 ⊢
      exact h2 σ1 F2 H2 S2
end

/-! ### arguments, calls, defs -/
structure PLs (X : Cx) (E : XE) (es : List Expr) (n : Nat) (f : Env → R (List D)) : Prop where
  run : PA X es (tA X.K E f)
  len : ∀ ρ ds, f ρ = .ok ds → ds.length = n
def fNil : Env → R (List D) := fun _ => .ok []
def fCons (f : EF) (g : Env → R (List D)) : Env → R (List D) := fun ρ => (f ρ).bind fun x => (g ρ).bind fun xs => .ok (x.1 :: xs)
section
variable {X : Cx} {E : XE} {pos : Pos} {e : Expr} {es : List Expr} {n : Nat} {f : EF} {g : Env → R (List D)}
theorem pl_nil : PLs X E [] 0 fNil := ⟨⟨fun pos pins s σ H Q I ⟨F0, H0, F, ρ, S, h⟩ => pa_nil.run pos pins s σ H Q I (h [] F H (.refl S.sub) .nil)⟩, fun ρ ds e => by cases e; rfl⟩
theorem pl_cons (ha : PX X E e f) (hr : PLs X E es n g) (hs : starEach (e :: es) X.env = (false, eval e X.env) :: starEach es X.env := by rfl) : PLs X E (e :: es) (n + 1) (fCons f g) := by
  refine ⟨⟨fun pos pins s σ H Q I h => (pa_cons ha hr.run hs).run pos pins s σ H Q I ?_⟩, fun ρ ds e1 => ?_⟩
  · obtain ⟨F0, H0, F, ρ, S, h⟩ := h
    refine tE_bindL S h fun d b x F1 H1 x1 S1 r1 h1 => ?_
    refine tA_bindL S1 h1 fun ds xs F2 H2 x2 S2 r2 h2 => ?_
    exact h2 _ F2 H2 (.refl S2.sub) (.cons (r1.mono x2.sF) r2)
  · unfold fCons at e1
    cases h1 : f ρ with
    | ok x =>
      rw [h1] at e1
      cases h2 : g ρ with
      | ok xs => rw [h2] at e1; cases e1; simp [hr.len ρ xs h2]
      | ex c => rw [h2] at e1; cases e1
      | st => rw [h2] at e1; cases e1
    | ex c => rw [h1] at e1; cases e1
    | st => rw [h1] at e1; cases e1
def fCall (g : List D → R (D × Bool)) (f : Env → R (List D)) : EF := fun ρ => (f ρ).bind g
end
/-- what a def promises: its function over data -/
abbrev xe (xa : Xn → Addr) (E : XK) : XE := fun c H => E (.ref (xa c)) none H
def spD (K : PySem.W.Frag) (xa : Xn → Addr) (n : Nat) (g : List D → R (D × Bool)) : Sp := fun vs H Q E => ∃ F ds, Sb F H ∧ RpL K F vs ds ∧ ds.length = n ∧ Post K F H (xe xa E) (g ds) Q
def fnD (n : Nat) (s : SF) : List D → R (D × Bool) := fun ds => match s (ds.map (fun d => some (d, false)) ++ List.replicate (n - ds.length) none) with
  | .nx _ => .ok (.non, false)
  | .rt d f => .ok (d, f)
  | .ex c => .ex c
  | .st => .st
/-- .. of a def that lets nothing out -/
def fnD0 (n : Nat) (s : SF) : List D → R (D × Bool) := fun ds => match s (ds.map (fun d => some (d, false)) ++ List.replicate (n - ds.length) none) with
  | .nx _ => .ok (.non, false)
  | .rt d f => .ok (d, f)
  | .ex _ => .st
  | .st => .st
section
variable {X : Cx} {CX : CXT} {k : Nat} {f : Addr} {fd : FuncData} {ps : List Str} {x : Str} {p pos : Pos} {e : Expr} {es : List Expr} {E : XK} {xa : Xn → Addr} {n : Nat} {g : List D → R (D × Bool)} {fa : Env → R (List D)}
theorem px_call (Fn : FnOk X.prog X.w X.K X.mg X.base CX k f fd ps (spD X.K xa n g)) (hr : Room k X.A) (hm : X.mg x = some (.ref f)) (hk : PySem.W.keepIn X.K (.ref f) = true) (hb : Binds X.K fd ps []) (hx : Passes CX X E)
    (ha : PLs X (xe xa E) (e :: es) n fa) (hg : Gl X x := by rfl) (hdb : (x == ("__debug__" : Str)) = false := by decide) (he : starEach (e :: es) X.env = (false, eval e X.env) :: starEach es X.env := by rfl) (hpl : (backTo pos (starEach es X.env)).any (·.1) = false := by rfl) :
    PX X (xe xa E) (.Call (.Name x p) (e :: es) [] pos) (fCall g fa) := by
  refine ⟨fun pins s σ H Q I h => (pe_call Fn hr hg hm hk hb .nil hx ha.run hdb he hpl).run pins s σ H Q I ?_⟩
  obtain ⟨F0, H0, F, ρ, S, h⟩ := h
  refine tA_bind S h fun ds xs F1 H1 e1 x1 S1 r1 h1 => ?_
  exact ⟨F1, ds, S1.sub, by rw [List.append_nil]; exact r1, ha.len ρ ds e1, h1⟩
end
section
variable {P : Program} {w : World} {K : PySem.W.Frag} {mg : Str → Option Value} {base : Heap}
/-- a def that lets nothing out -/
theorem fn_data {x qual : Str} {st : Stmt} {f : Addr} {fd : FuncData} {N ps : List Str} {k n m : Nat} {sf : SF} {xa : Xn → Addr} (F : Fun K x qual st f fd) (S : FnScope N ps (defScope st)) (hn : n = ps.length) (hm : m = N.length)
    (body : ∀ (cdv : Value) (A : Around) (outer : List PySem.Env) (s : Shared) (H : Hp) (E : XK), Room k (A.deeper (envOfC qual (defScope st) s.heap.objs.size f cdv)) →
      PZs (cxOf CX0 P w K mg base N qual (defScope st) f cdv A outer s H E).nox (fun _ _ => False) (defBody st) sf) : FnOk P w K mg base CX0 (k + 1) f fd ps (spD K xa n (fnD0 m sf)) := by
  subst hn hm
  refine F.ok S (fun vs H Q E h => ?_) (fun cdv A outer s H vs Q E hr h => ?_)
  · obtain ⟨G, ds, s, r, l, _⟩ := h
    rw [r.length, l]
  · obtain ⟨G, ds, sG, r, l, h⟩ := h
    refine ⟨_, body cdv A outer s H E hr G H, ?_⟩
    have hpl : ps.length ≤ N.length := by have := congrArg List.length S.pre; rw [List.length_take] at this; omega
    have hvl := r.length
    have st : StOk K G H G H (L2.start N vs) (ds.map (fun d => some (d, false)) ++ List.replicate (N.length - ds.length) none) := by
      refine ⟨.refl sG, by unfold L2.start; simp [hvl], fun i d f e => ?_, fun i j d e a _ h1 _ _ => ?_⟩
      · have hi : i < ds.length := by
          rcases Nat.lt_or_ge i ds.length with c | c
          · exact c
          · rw [List.getElem?_append_right (by simpa using c), List.getElem?_replicate] at e
            split at e <;> cases e
        rw [List.getElem?_append_left (by simpa using hi), List.getElem?_map] at e
        cases q : ds[i]? with
        | none => rw [q] at e; cases e
        | some d' =>
          rw [q] at e
          simp only [Option.map_some, Option.some.injEq, Prod.mk.injEq] at e
          obtain ⟨rfl, rfl⟩ := e
          obtain ⟨v, hv, rv⟩ := r.get q
          refine ⟨v, ?_, rv⟩
          unfold L2.start
          rw [List.getElem?_append_left (by rw [List.length_map, hvl]; exact hi), List.getElem?_map, hv]
          rfl
      · rcases Nat.lt_or_ge i ds.length with c | c
        · rw [List.getElem?_append_left (by simpa using c), List.getElem?_map] at h1
          cases q : ds[i]? with
          | none => rw [q] at h1; cases h1
          | some d' => rw [q] at h1; cases h1
        · rw [List.getElem?_append_right (by simpa using c), List.getElem?_replicate] at h1
          split at h1 <;> cases h1
    refine ⟨G, _, st, ?_⟩
    unfold fnD0 at h
    cases e : sf (ds.map (fun d => some (d, false)) ++ List.replicate (N.length - ds.length) none) with
    | nx ρ => rw [e] at h; exact fun σ F' H' S' => h .non F' H' S'.fr .non
    | rt d f => rw [e] at h; exact fun v F' H' x hh => h v F' H' x hh
    | ex c => rw [e] at h; exact h.elim
    | st => rw [e] at h; exact h.elim
end
end Pd

/-! Pd3: operators and comparisons over data. -/
namespace Pd
open PySem PySem.Spec PyProof.Rows L2

/-- the most items of a list, signs of a text -/
abbrev CAP : Nat := 1000000
theorem cap_line {n : Nat} (h : n ≤ CAP) : n ≤ sizeLine := by rw [sizeLine_eq]; exact Nat.le_trans h (by decide)
theorem cap_line' {n : Nat} (h : n < CAP) : n < sizeLine := by rw [sizeLine_eq]; exact Nat.lt_of_lt_of_le h (by decide)

/-! ### texts, so that they are cheap to reckon with -/
def eqNL : List Nat → List Nat → Bool
  | [], ys => match ys with | [] => true | _ :: _ => false
  | x :: xs, ys => match ys with | [] => false | y :: ys => Nat.beq x y && eqNL xs ys
theorem eqNL_iff : ∀ {a b : List Nat}, eqNL a b = true ↔ a = b
  | [], [] => by simp [eqNL]
  | [], _ :: _ => by simp [eqNL]
  | _ :: _, [] => by simp [eqNL]
  | x :: xs, y :: ys => by
    simp only [eqNL, Bool.and_eq_true, Nat.beq_eq, eqNL_iff, List.cons.injEq]
theorem str_ext {a b : Str} (h : a.cps.toList = b.cps.toList) : a = b := by
  cases a; cases b
  simp only [Str.mk.injEq]
  exact Array.toList_inj.mp h
def strEq (a b : Str) : Bool := eqNL a.cps.toList b.cps.toList
theorem strEq_iff {a b : Str} : strEq a b = true ↔ a = b := ⟨fun h => str_ext (eqNL_iff.mp h), fun h => by subst h; exact eqNL_iff.mpr rfl⟩
theorem strEq_dec (a b : Str) : strEq a b = decide (a = b) := by
  cases h : strEq a b
  · exact (decide_eq_false fun e => by rw [strEq_iff.mpr e] at h; cases h).symm
  · exact (decide_eq_true (strEq_iff.mp h)).symm
def sCat (a b : Str) : Str := ⟨⟨a.cps.toList ++ b.cps.toList⟩⟩
theorem sCat_eq (a b : Str) : sCat a b = a ++ b := str_ext (by show a.cps.toList ++ b.cps.toList = (a.cps ++ b.cps).toList; simp)
def okL : List Nat → Bool
  | [] => true
  | c :: r => Nat.blt c 1114112 && okL r
def okS (s : Str) : Bool := okL s.cps.toList
theorem okL_all : ∀ l : List Nat, okL l = l.all (fun c => decide (c < 1114112))
  | [] => rfl
  | c :: r => by
    simp only [okL, List.all_cons, okL_all r]
    congr 1
    cases h : Nat.blt c 1114112
    · exact (decide_eq_false (fun q => by rw [Nat.blt_eq.mpr q] at h; cases h)).symm
    · exact (decide_eq_true (Nat.blt_eq.mp h)).symm
theorem okS_eq (s : Str) : okS s = PyData.strOk s := by
  unfold okS PyData.strOk
  rw [okL_all, Array.all_toList]
def repL : Nat → List Nat → List Nat
  | 0, _ => []
  | n + 1, l => l ++ repL n l
theorem repL_eq (l : Array Nat) : ∀ (n : Nat) (acc : Array Nat), (List.foldl (· ++ ·) acc (List.replicate n l)).toList = acc.toList ++ repL n l.toList
  | 0, acc => by simp [repL]
  | n + 1, acc => by rw [List.replicate_succ, List.foldl_cons, repL_eq l n]; simp [repL]

/-! ### keys -/
mutual
def keq : D → D → Bool
  | .int i, d => match d with | .int j => decide (i = j) | _ => false
  | .str s, d => match d with | .str t => strEq s t | _ => false
  | .tup xs, d => match d with | .tup ys => keqL xs ys | _ => false
  | .non, _ => false | .bl _, _ => false | .lst _, _ => false | .dic _ _, _ => false | .scr _, _ => false | .kin _ _ _, _ => false
def keqL : List D → List D → Bool
  | [], ys => match ys with | [] => true | _ :: _ => false
  | x :: xs, ys => match ys with | [] => false | y :: ys => keq x y && keqL xs ys
end
theorem keq_dK (a b : Key) : keq (dK a) (dK b) = decide (a = b) := by
  cases a with
  | inl i =>
    cases b with
    | inl j => simp [dK, keq, strEq_dec]
    | inr t => simp [dK, keq, strEq_dec]
  | inr s =>
    cases b with
    | inl j => simp [dK, keq, strEq_dec]
    | inr t => simp [dK, keq, strEq_dec]
theorem keqL_dK : ∀ (a b : List Key), keqL (a.map dK) (b.map dK) = decide (a = b)
  | [], [] => by simp [keqL]
  | [], _ :: _ => by simp [keqL]
  | _ :: _, [] => by simp [keqL]
  | x :: xs, y :: ys => by
    simp only [List.map_cons, keqL, keq_dK, keqL_dK xs ys, List.cons.injEq]
    by_cases h : x = y <;> simp [h]
theorem keq_tup (a b : List Key) : keq (.tup (a.map dK)) (.tup (b.map dK)) = decide (a = b) := by simp only [keq]; exact keqL_dK a b
/-- an int or a text as a key; a tuple of such -/
def key1 : D → Option Key
  | .int i => some (.inl i)
  | .str s => some (.inr s)
  | _ => none
def keyL : List D → Option (List Key)
  | [] => some []
  | d :: ds => match key1 d with
    | some k => (match keyL ds with | some ks => some (k :: ks) | none => none)
    | none => none
theorem key1_eq {d : D} {k : Key} (h : key1 d = some k) : d = dK k := by
  cases d <;> simp [key1] at h <;> subst h <;> rfl
theorem keyL_eq : ∀ {ds : List D} {ks : List Key}, keyL ds = some ks → ds = ks.map dK
  | [], ks, h => by simp [keyL] at h; subst h; rfl
  | d :: ds, ks, h => by
    unfold keyL at h
    split at h
    · rename_i k e
      split at h
      · rename_i ks' e'
        cases h
        rw [key1_eq e, keyL_eq e']
        rfl
      · cases h
    · cases h
/-- is it a key of such a dict -/
def okKey (t : Bool) (d : D) : Bool := if t then (match d with | .tup xs => (keyL xs).isSome | _ => false) else (key1 d).isSome
def dGet (kvs : List (D × D)) (k : D) : Option D := match kvs with
  | [] => none
  | p :: r => if keq p.1 k then some p.2 else dGet r k
def dPut (kvs : List (D × D)) (k v : D) : List (D × D) :=
  if kvs.any (fun p => keq p.1 k) then kvs.map (fun p => if keq p.1 k then (p.1, v) else p) else kvs ++ [(k, v)]
section
variable {K : PySem.W.Frag} {F F' : Hp}
theorem rp_key {k : Key} {v : V} (h : Rp K F v (dK k)) : v = kV k := by
  cases k with
  | inl i => cases h; rfl
  | inr s => cases h; rfl
theorem rp_keyV (k : Key) : Rp K F (kV k) (dK k) := by
  cases k with
  | inl i => exact .int i
  | inr s => exact .str s
theorem rpl_keys : ∀ {ks : List Key} {vs : List V}, RpL K F vs (ks.map dK) → vs = ks.map kV
  | [], _, h => by cases h; rfl
  | k :: ks, _, h => by cases h with | cons h1 h2 => rw [rp_key h1, rpl_keys h2]; rfl
theorem rpl_keysV : ∀ (ks : List Key), RpL K F (ks.map kV) (ks.map dK)
  | [] => .nil
  | k :: ks => .cons (rp_keyV k) (rpl_keysV ks)
theorem RpK.length : ∀ {ds : List (D × D)} {kvs : List (Key × V)}, RpK K F kvs ds → kvs.length = ds.length
  | [], _, h => by cases h; rfl
  | (k, d) :: ds, _, h => by cases h with | cons h1 h2 => simp [RpK.length h2]
theorem RpT.length : ∀ {ds : List (D × D)} {kvs : List (List Key × V)}, RpT K F kvs ds → kvs.length = ds.length
  | [], _, h => by cases h; rfl
  | (k, d) :: ds, _, h => by cases h with | cons h1 h2 => simp [RpT.length h2]
/-- an item found, or not, on both sides -/
def RpO (K : PySem.W.Frag) (F : Hp) : Option V → Option D → Prop
  | some v, some d => Rp K F v d
  | none, none => True
  | _, _ => False
theorem RpO.isSome {o : Option V} {p : Option D} (h : RpO K F o p) : o.isSome = p.isSome := by
  cases o <;> cases p <;> first | rfl | exact h.elim
theorem RpK.val (k : Key) : ∀ {ds : List (D × D)} {kvs : List (Key × V)}, RpK K F kvs ds → RpO K F (valV kvs k) (dGet ds (dK k))
  | [], _, h => by cases h; exact trivial
  | (_, d) :: ds, _, h => by
    cases h with
    | @cons k' v _ kvs _ h1 h2 =>
      by_cases e : k' = k
      · rw [valV_pos (p := (k', v)) e]
        have : dGet ((dK k', d) :: ds) (dK k) = some d := by simp [dGet, keq_dK, e]
        rw [this]; exact h1
      · rw [valV_neg (p := (k', v)) e]
        have : dGet ((dK k', d) :: ds) (dK k) = dGet ds (dK k) := by simp [dGet, keq_dK, e]
        rw [this]; exact RpK.val k h2
theorem RpT.val (k : List Key) : ∀ {ds : List (D × D)} {kvs : List (List Key × V)}, RpT K F kvs ds → RpO K F (valV kvs k) (dGet ds (.tup (k.map dK)))
  | [], _, h => by cases h; exact trivial
  | (_, d) :: ds, _, h => by
    cases h with
    | @cons k' v _ kvs _ h1 h2 =>
      by_cases e : k' = k
      · rw [valV_pos (p := (k', v)) e]
        have : dGet ((.tup (k'.map dK), d) :: ds) (.tup (k.map dK)) = some d := by simp [dGet, keq_tup, e]
        rw [this]; exact h1
      · rw [valV_neg (p := (k', v)) e]
        have : dGet ((.tup (k'.map dK), d) :: ds) (.tup (k.map dK)) = dGet ds (.tup (k.map dK)) := by simp [dGet, keq_tup, e]
        rw [this]; exact RpT.val k h2
theorem RpK.any (k : Key) : ∀ {ds : List (D × D)} {kvs : List (Key × V)}, RpK K F kvs ds → (kvs.any fun kv => decide (kv.1 = k)) = ds.any fun p => keq p.1 (dK k)
  | [], _, h => by cases h; rfl
  | (_, d) :: ds, _, h => by cases h with | cons h1 h2 => simp only [List.any_cons, keq_dK, RpK.any k h2]
theorem RpT.any (k : List Key) : ∀ {ds : List (D × D)} {kvs : List (List Key × V)}, RpT K F kvs ds → (kvs.any fun kv => decide (kv.1 = k)) = ds.any fun p => keq p.1 (.tup (k.map dK))
  | [], _, h => by cases h; rfl
  | (_, d) :: ds, _, h => by cases h with | cons h1 h2 => simp only [List.any_cons, keq_tup, RpT.any k h2]
theorem RpK.snoc {k : Key} {v : V} {d : D} (r : Rp K F v d) : ∀ {ds : List (D × D)} {kvs : List (Key × V)}, RpK K F kvs ds → RpK K F (kvs ++ [(k, v)]) (ds ++ [(dK k, d)])
  | [], _, h => by cases h; exact .cons r .nil
  | (_, _) :: ds, _, h => by cases h with | cons h1 h2 => exact .cons h1 (RpK.snoc r h2)
theorem RpT.snoc {k : List Key} {v : V} {d : D} (r : Rp K F v d) : ∀ {ds : List (D × D)} {kvs : List (List Key × V)}, RpT K F kvs ds → RpT K F (kvs ++ [(k, v)]) (ds ++ [(.tup (k.map dK), d)])
  | [], _, h => by cases h; exact .cons r .nil
  | (_, _) :: ds, _, h => by cases h with | cons h1 h2 => exact .cons h1 (RpT.snoc r h2)
theorem RpK.repl {k : Key} {v : V} {d : D} (r : Rp K F v d) : ∀ {ds : List (D × D)} {kvs : List (Key × V)}, RpK K F kvs ds → RpK K F (kvs.map fun kv => if kv.1 = k then (kv.1, v) else kv) (ds.map fun p => if keq p.1 (dK k) then (p.1, d) else p)
  | [], _, h => by cases h; exact .nil
  | (_, _) :: ds, _, h => by
    cases h with
    | @cons k' v' _ kvs _ h1 h2 =>
      simp only [List.map_cons, keq_dK]
      by_cases e : k' = k
      · simp only [e, if_true, decide_true]; exact .cons r (RpK.repl r h2)
      · simp only [e, if_false, decide_false, Bool.false_eq_true]; exact .cons h1 (RpK.repl r h2)
theorem RpT.repl {k : List Key} {v : V} {d : D} (r : Rp K F v d) : ∀ {ds : List (D × D)} {kvs : List (List Key × V)}, RpT K F kvs ds → RpT K F (kvs.map fun kv => if kv.1 = k then (kv.1, v) else kv) (ds.map fun p => if keq p.1 (.tup (k.map dK)) then (p.1, d) else p)
  | [], _, h => by cases h; exact .nil
  | (_, _) :: ds, _, h => by
    cases h with
    | @cons k' v' _ kvs _ h1 h2 =>
      simp only [List.map_cons, keq_tup]
      by_cases e : k' = k
      · simp only [e, if_true, decide_true]; exact .cons r (RpT.repl r h2)
      · simp only [e, if_false, decide_false, Bool.false_eq_true]; exact .cons h1 (RpT.repl r h2)
theorem RpK.put {k : Key} {v : V} {d : D} {ds : List (D × D)} {kvs : List (Key × V)} (h : RpK K F kvs ds) (r : Rp K F v d) : RpK K F (putK kvs k v) (dPut ds (dK k) d) := by
  unfold putK dPut
  rw [h.any k]
  split
  · exact h.repl r
  · exact h.snoc r
theorem RpT.put {k : List Key} {v : V} {d : D} {ds : List (D × D)} {kvs : List (List Key × V)} (h : RpT K F kvs ds) (r : Rp K F v d) : RpT K F (putK kvs k v) (dPut ds (.tup (k.map dK)) d) := by
  unfold putK dPut
  rw [h.any k]
  split
  · exact h.repl r
  · exact h.snoc r
/-- what a dict holds at a key -/
theorem dget_of {H : Hp} (s : Sb F H) {x y : V} {t : Bool} {ds : List (D × D)} {k : D} (hx : Rp K F x (.dic t ds)) (hy : Rp K F y k) (ok : okKey t k = true) : ∃ a o, x = .ref a ∧ DGet H a y o ∧ RpO K F o (dGet ds k) := by
  cases hx with
  | dicK h r =>
    simp only [okKey, Bool.false_eq_true, if_false] at ok
    obtain ⟨k', e⟩ := Option.isSome_iff_exists.mp ok
    have := key1_eq e
    subst this
    rw [rp_key hy]
    exact ⟨_, _, rfl, .inl ⟨_, k', rd_mono s h, rfl, rfl⟩, r.val k'⟩
  | dicT h r =>
    simp only [okKey, if_true] at ok
    cases k with
    | tup xs =>
      obtain ⟨ks, e⟩ := Option.isSome_iff_exists.mp ok
      have := keyL_eq e
      subst this
      cases hy with
      | tup h1 h2 =>
        rw [rpl_keys h2] at h1
        exact ⟨_, _, rfl, .inr ⟨_, ks, _, rd_mono s h, rfl, s _ _ h1, rfl⟩, r.val ks⟩
    | _ => cases ok
end

/-! ### equality -/
mutual
def eqv : D → D → Bool
  | .non, d => match d with | .non => true | _ => false
  | .bl a, d => match d with | .bl b => a == b | .int j => decide ((if a then 1 else 0) = j) | _ => false
  | .int i, d => match d with | .int j => decide (i = j) | .bl b => decide (i = (if b then 1 else 0)) | _ => false
  | .str s, d => match d with | .str t => strEq s t | _ => false
  | .tup xs, d => match d with | .tup ys => eqvL xs ys | _ => false
  | .lst xs, d => match d with | .lst ys => eqvL xs ys | _ => false
  | .dic _ _, _ => false | .scr _, _ => false | .kin _ _ _, _ => false
def eqvL : List D → List D → Bool
  | [], ys => match ys with | [] => true | _ :: _ => false
  | x :: xs, ys => match ys with | [] => false | y :: ys => eqv x y && eqvL xs ys
end
mutual
def py : D → PyData
  | .non => .none | .bl b => .bool b | .int i => .int i | .str s => .str s
  | .tup xs => .tuple (pyL xs) | .lst xs => .list (pyL xs)
  | .dic _ _ => .dict [] | .scr _ => .dict [] | .kin _ _ _ => .dict []
def pyL : List D → List PyData
  | [] => [] | x :: xs => py x :: pyL xs
end
/-- data that == tells, of a depth below n -/
def okN : Nat → D → Bool
  | _, .non => true | _, .bl _ => true | _, .int _ => true | _, .str s => okS s
  | n + 1, .tup xs => xs.all (okN n) | n + 1, .lst xs => xs.all (okN n)
  | _, _ => false
theorem pyL_map : ∀ xs : List D, pyL xs = xs.map py
  | [] => rfl
  | x :: xs => by simp [pyL, pyL_map xs]
theorem okN_lay : ∀ (n : Nat) (d : D), okN n d = true → (py d).canLay0 = true ∧ (py d).depth ≤ n
  | n, .non, _ => by cases n <;> simp [py, PyData.canLay0, PyData.depth]
  | n, .bl _, _ => by cases n <;> simp [py, PyData.canLay0, PyData.depth]
  | n, .int _, _ => by cases n <;> simp [py, PyData.canLay0, PyData.depth]
  | n, .str s, h => by cases n <;> (simp only [okN, okS_eq] at h; simp [py, PyData.canLay0, PyData.depth, h])
  | 0, .tup _, h => by simp [okN] at h
  | 0, .lst _, h => by simp [okN] at h
  | n + 1, .tup xs, h => by
    simp only [okN] at h
    have : ∀ l : List D, l.all (okN n) = true → PyData.canLayAll0 (pyL l) = true ∧ PyData.depthAll (pyL l) ≤ n := by
      intro l
      induction l with
      | nil => intro _; simp [pyL, PyData.canLayAll0, PyData.depthAll]
      | cons x l ih =>
        intro h
        simp only [List.all_cons, Bool.and_eq_true] at h
        obtain ⟨h1, h2⟩ := okN_lay n x h.1
        obtain ⟨h3, h4⟩ := ih h.2
        simp only [pyL, PyData.canLayAll0, PyData.depthAll, h1, h3, Bool.and_self, true_and]
        exact Nat.max_le.mpr ⟨h2, h4⟩
    obtain ⟨h1, h2⟩ := this xs h
    simp only [py, PyData.canLay0, PyData.depth, h1, true_and]
    omega
  | n + 1, .lst xs, h => by
    simp only [okN] at h
    have : ∀ l : List D, l.all (okN n) = true → PyData.canLayAll0 (pyL l) = true ∧ PyData.depthAll (pyL l) ≤ n := by
      intro l
      induction l with
      | nil => intro _; simp [pyL, PyData.canLayAll0, PyData.depthAll]
      | cons x l ih =>
        intro h
        simp only [List.all_cons, Bool.and_eq_true] at h
        obtain ⟨h1, h2⟩ := okN_lay n x h.1
        obtain ⟨h3, h4⟩ := ih h.2
        simp only [pyL, PyData.canLayAll0, PyData.depthAll, h1, h3, Bool.and_self, true_and]
        exact Nat.max_le.mpr ⟨h2, h4⟩
    obtain ⟨h1, h2⟩ := this xs h
    simp only [py, PyData.canLay0, PyData.depth, h1, true_and]
    omega
  | n, .dic _ _, h => by cases n <;> simp [okN] at h
  | n, .scr _, h => by cases n <;> simp [okN] at h
  | n, .kin _ _ _, h => by cases n <;> simp [okN] at h
theorem okN_shaped {d : D} (h : okN 64 d = true) : SeqAt.shaped (py d) = true := by
  obtain ⟨h1, h2⟩ := okN_lay 64 d h
  unfold SeqAt.shaped
  rw [h1, decide_eq_true h2]
  rfl
mutual
theorem eqv_py : ∀ (n : Nat) (a b : D), okN n a = true → okN n b = true → PyData.eqv (py a) (py b) = eqv a b
  | n, .non, b, _, hb => by cases b <;> first | (simp [py, PyData.eqv, eqv]; done) | (cases n <;> simp [okN] at hb)
  | n, .bl _, b, _, hb => by cases b <;> first | (simp [py, PyData.eqv, eqv, Bool.beq_eq_decide_eq]; done) | (cases n <;> simp [okN] at hb)
  | n, .int _, b, _, hb => by cases b <;> first | (simp [py, PyData.eqv, eqv, Bool.beq_eq_decide_eq]; done) | (cases n <;> simp [okN] at hb)
  | n, .str _, b, _, hb => by cases b <;> first | (simp [py, PyData.eqv, eqv, strEq_dec, Bool.beq_eq_decide_eq]; done) | (cases n <;> simp [okN] at hb)
  | 0, .tup _, b, h, _ => by simp [okN] at h
  | 0, .lst _, b, h, _ => by simp [okN] at h
  | n + 1, .tup xs, b, h, hb => by
    cases b with
    | tup ys => simp only [py, PyData.eqv, eqv]; simp only [okN] at h hb; exact eqvL_py n xs ys h hb
    | dic _ _ => simp [okN] at hb
    | scr _ => simp [okN] at hb
    | kin _ _ _ => simp [okN] at hb
    | _ => simp [py, PyData.eqv, eqv]
  | n + 1, .lst xs, b, h, hb => by
    cases b with
    | lst ys => simp only [py, PyData.eqv, eqv]; simp only [okN] at h hb; exact eqvL_py n xs ys h hb
    | dic _ _ => simp [okN] at hb
    | scr _ => simp [okN] at hb
    | kin _ _ _ => simp [okN] at hb
    | _ => simp [py, PyData.eqv, eqv]
  | n, .dic _ _, _, h, _ => by cases n <;> simp [okN] at h
  | n, .scr _, _, h, _ => by cases n <;> simp [okN] at h
  | n, .kin _ _ _, _, h, _ => by cases n <;> simp [okN] at h
theorem eqvL_py : ∀ (n : Nat) (a b : List D), a.all (okN n) = true → b.all (okN n) = true → PyData.eqvAll (pyL a) (pyL b) = eqvL a b
  | n, [], [], _, _ => by simp [pyL, PyData.eqvAll, eqvL]
  | n, [], _ :: _, _, _ => by simp [pyL, PyData.eqvAll, eqvL]
  | n, _ :: _, [], _, _ => by simp [pyL, PyData.eqvAll, eqvL]
  | n, x :: xs, y :: ys, h, hb => by
    simp only [List.all_cons, Bool.and_eq_true] at h hb
    simp only [pyL, PyData.eqvAll, eqvL, eqv_py n x y h.1 hb.1, eqvL_py n xs ys h.2 hb.2]
end
section
variable {K : PySem.W.Frag} {F : Hp}
mutual
theorem rp_dp : ∀ (n : Nat) (d : D) (v : V), okN n d = true → Rp K F v d → Dp K F v (py d)
  | n, .non, _, _, h => by cases h; simp only [py]; exact .non
  | n, .bl _, _, _, h => by cases h; simp only [py]; exact .bl _
  | n, .int _, _, _, h => by cases h; simp only [py]; exact .int _
  | n, .str _, _, _, h => by cases h; simp only [py]; exact .str _
  | 0, .tup _, _, o, _ => by simp [okN] at o
  | 0, .lst _, _, o, _ => by simp [okN] at o
  | n + 1, .tup xs, _, o, h => by
    simp only [okN] at o
    simp only [py]
    cases h with | tup h1 h2 => exact .tup (.of h1) (rpL_dp n xs _ o h2)
  | n + 1, .lst xs, _, o, h => by
    simp only [okN] at o
    simp only [py]
    cases h with | lst h1 h2 => exact .lst (.of h1) (rpL_dp n xs _ o h2)
  | n, .dic _ _, _, o, _ => by cases n <;> simp [okN] at o
  | n, .scr _, _, o, _ => by cases n <;> simp [okN] at o
  | n, .kin _ _ _, _, o, _ => by cases n <;> simp [okN] at o
theorem rpL_dp : ∀ (n : Nat) (ds : List D) (vs : List V), ds.all (okN n) = true → RpL K F vs ds → DpAll K F vs (pyL ds)
  | n, [], _, _, h => by cases h; simp only [pyL]; exact .nil
  | n, d :: ds, _, o, h => by
    simp only [List.all_cons, Bool.and_eq_true] at o
    simp only [pyL]
    cases h with | cons h1 h2 => exact .cons (rp_dp n d _ o.1 h1) (rpL_dp n ds _ o.2 h2)
end
end
def gEq : D → D → R (D × Bool) := fun x y => if okN 64 x && okN 64 y then .ok (.bl (eqv x y), false) else .st
def gNe : D → D → R (D × Bool) := fun x y => if okN 64 x && okN 64 y then .ok (.bl (!eqv x y), false) else .st
theorem od_eq {K : PySem.W.Frag} : OpD K (rEqD K) gEq := fun E F H x y dx dy Q s rx ry h => by
  unfold gEq at h
  split at h
  · rename_i o
    simp only [Bool.and_eq_true] at o
    refine ⟨py dx, py dy, rp_dp 64 dx x o.1 (rx.mono s), rp_dp 64 dy y o.2 (ry.mono s), okN_shaped o.1, okN_shaped o.2, ?_⟩
    rw [eqv_py 64 dx dy o.1 o.2]
    exact h.here s (.bl _)
  · exact h.elim
theorem od_ne {K : PySem.W.Frag} : OpD K (rNeD K) gNe := fun E F H x y dx dy Q s rx ry h => by
  unfold gNe at h
  split at h
  · rename_i o
    simp only [Bool.and_eq_true] at o
    refine ⟨py dx, py dy, rp_dp 64 dx x o.1 (rx.mono s), rp_dp 64 dy y o.2 (ry.mono s), okN_shaped o.1, okN_shaped o.2, ?_⟩
    rw [eqv_py 64 dx dy o.1 o.2]
    exact h.here s (.bl _)
  · exact h.elim

/-! ### arithmetic -/
def gAdd : D → D → R (D × Bool)
  | .int i, y => match y with | .int j => .ok (.int (i + j), false) | _ => .st
  | .str a, y => match y with | .str b => if a.length + b.length ≤ CAP then .ok (.str (sCat a b), false) else .st | _ => .st
  | .lst xs, y => match y with | .lst ys => if xs.length + ys.length ≤ CAP then .ok (.lst (xs ++ ys), true) else .st | _ => .st
  | .tup xs, y => match y with | .tup ys => if xs.length + ys.length ≤ CAP then .ok (.tup (xs ++ ys), false) else .st | _ => .st
  | _, _ => .st
def rAddD (K : PySem.W.Frag) : R2 := fun x y H Q => rI0 (fun i j => .int (i + j)) x y H Q ∨ (∃ i j, x = .str i ∧ y = .str j ∧ i.length + j.length ≤ sizeLine ∧ Q (.str (i ++ j)) H) ∨ rCat x y H Q ∨ rCatA K x y H Q
theorem or_add {X : Cx} : OpR X (binaryOp .Add) (rAddD X.K) := op_add.or (op_add_str.or (op_cat.or op_catA))
theorem od_add {K : PySem.W.Frag} : OpD K (rAddD K) gAdd := fun E F H x y dx dy Q s rx ry h => by
  cases dx with
  | int i =>
    cases dy with
    | int j => cases rx; cases ry; exact .inl ⟨i, j, rfl, rfl, h.here s (.int _)⟩
    | _ => exact h.elim
  | str a =>
    cases dy with
    | str b =>
      cases rx; cases ry
      simp only [gAdd, sCat_eq] at h
      split at h
      · rename_i c; exact .inr (.inl ⟨a, b, rfl, rfl, cap_line c, h.here s (.str _)⟩)
      · exact h.elim
    | _ => exact h.elim
  | lst xs =>
    cases dy with
    | lst ys =>
      simp only [gAdd] at h
      split at h
      · rename_i c
        cases rx with
        | lst h1 r1 =>
          cases ry with
          | lst h2 r2 =>
            have l1 := r1.length
            have l2 := r2.length
            refine .inr (.inr (.inl ⟨_, _, _, _, rfl, rfl, s _ _ h1, s _ _ h2, by rw [l1, l2]; exact cap_line c, fun p hp => ?_⟩))
            exact h.fresh s hp (.lst upd_same (r1.append r2))
      · exact h.elim
    | _ => exact h.elim
  | tup xs =>
    cases dy with
    | tup ys =>
      simp only [gAdd] at h
      split at h
      · rename_i c
        cases rx with
        | tup h1 r1 =>
          cases ry with
          | tup h2 r2 =>
            have l1 := r1.length
            have l2 := r2.length
            refine .inr (.inr (.inr ⟨_, _, _, _, rfl, rfl, .of (s _ _ h1), .of (s _ _ h2), by rw [l1, l2]; exact cap_line c, fun e => ?_, fun _ e => ?_, fun _ _ p hp => ?_⟩))
            · subst e
              cases r1
              exact h.here s (.tup h2 r2)
            · subst e
              cases r2
              rw [List.append_nil] at h
              exact h.here s (.tup h1 r1)
            · exact h.laid s hp (.tup upd_same ((r1.append r2).mono (sb_upd (none_of_sb s hp))))
      · exact h.elim
    | _ => exact h.elim
  | _ => exact h.elim
def gSub : D → D → R (D × Bool)
  | .int i, y => match y with | .int j => .ok (.int (i - j), false) | _ => .st
  | _, _ => .st
theorem od_sub {K : PySem.W.Frag} : OpD K (rI0 fun i j => .int (i - j)) gSub := fun E F H x y dx dy Q s rx ry h => by
  cases dx with
  | int i =>
    cases dy with
    | int j => cases rx; cases ry; exact ⟨i, j, rfl, rfl, h.here s (.int _)⟩
    | _ => exact h.elim
  | _ => exact h.elim
/-- x * n of a text -/
def strRep (x : Str) (n : Int) : Str := if n < 1 then Str.empty else if (n == 1 || x.length == 0) = true then x else ⟨⟨repL n.toNat x.cps.toList⟩⟩
def rMulS : R2 := fun x y H Q => ∃ z n, x = .str z ∧ y = .int n ∧ -1000 ≤ n ∧ n ≤ 1000 ∧ z.length ≤ 1000 ∧ (strRep z n).length ≤ sizeLine ∧ Q (.str (strRep z n)) H
theorem op_mulS {X : Cx} : OpR X (binaryOp .Mult) rMulS := by
  intro pins s σ H x y v u Q I rx ry h
  obtain ⟨z, n, rfl, rfl, h1, h2, h3, h4, q⟩ := h
  obtain ⟨t, rfl⟩ := rx
  obtain ⟨t', rfl⟩ := ry
  have hz : (sizeLine : Nat) = 16777216 := sizeLine_eq
  refine PySem.P.mul_str ?_ (fun hn _ => ?_) (fun hn _ => ?_) ?_
  · have a1 : ¬ n < -(2 ^ 63 : Int) := by omega
    have a2 : ¬ n ≥ 2 ^ 63 := by omega
    rw [decide_eq_false a1, decide_eq_false a2]; rfl
  · have : (1000 : Int) ≤ (2 ^ 63 - 1) / n := (Int.le_ediv_iff_mul_le (by omega)).mpr (by omega)
    omega
  · unfold Builtin.Str.tooLong
    have : z.length * n.toNat ≤ 1000 * 1000 := Nat.mul_le_mul h3 (by omega)
    exact decide_eq_false (by omega)
  · have er : (⟨⟨repL n.toNat z.cps.toList⟩⟩ : Str) = ⟨(List.replicate n.toNat z.cps).foldl (· ++ ·) #[]⟩ := str_ext (by rw [repL_eq]; simp)
    unfold strRep at q h4
    rw [er] at q h4
    split
    · rename_i c
      rw [if_pos c] at q
      exact ⟨by decide, ⟨.str Str.empty, H, I.tok _, ⟨_, rfl⟩, q⟩⟩
    · rename_i c
      rw [if_neg c] at q h4
      split
      · rename_i c2
        rw [if_pos c2] at q
        exact ⟨.str z, H, I, ⟨_, rfl⟩, q⟩
      · rename_i c2
        rw [if_neg c2] at q h4
        exact ⟨by simpa [Builtin.Str.tooLong] using h4, ⟨.str _, H, I.tok _, ⟨_, rfl⟩, q⟩⟩
def gMul : D → D → R (D × Bool)
  | .int i, y => match y with | .int j => if i.natAbs.log2 + j.natAbs.log2 < 1000000 then .ok (.int (i * j), false) else .st | _ => .st
  | .str z, y => match y with | .int n => if -1000 ≤ n ∧ n ≤ 1000 ∧ z.length ≤ 1000 ∧ (strRep z n).length ≤ CAP then .ok (.str (strRep z n), false) else .st | _ => .st
  | .lst xs, y => match y with | .int n => if -1000 ≤ n ∧ n ≤ 1000 ∧ xs.length ≤ 1000 then .ok (.lst (List.replicate n.toNat xs).flatten, true) else .st | _ => .st
  | .tup xs, y => match y with | .int n => if 2 ≤ n ∧ n ≤ 1000 ∧ xs.length ≤ 1000 ∧ 1 ≤ xs.length then .ok (.tup (List.replicate n.toNat xs).flatten, false) else .st | _ => .st
  | _, _ => .st
def rMulD (K : PySem.W.Frag) : R2 := fun x y H Q => rI CMulW (fun i j => .int (i * j)) x y H Q ∨ rMulS x y H Q ∨ rRep x y H Q ∨ rRepT K x y H Q
theorem or_mul {X : Cx} : OpR X (binaryOp .Mult) (rMulD X.K) := op_mulW.or (op_mulS.or (op_rep.or op_repT))
theorem od_mul {K : PySem.W.Frag} : OpD K (rMulD K) gMul := fun E F H x y dx dy Q s rx ry h => by
  cases dx with
  | int i =>
    cases dy with
    | int j =>
      cases rx; cases ry
      simp only [gMul] at h
      split at h
      · rename_i c; exact .inl ⟨i, j, rfl, rfl, c, h.here s (.int _)⟩
      · exact h.elim
    | _ => exact h.elim
  | str z =>
    cases dy with
    | int n =>
      cases rx; cases ry
      simp only [gMul] at h
      split at h
      · rename_i c; exact .inr (.inl ⟨z, n, rfl, rfl, c.1, c.2.1, c.2.2.1, cap_line c.2.2.2, h.here s (.str _)⟩)
      · exact h.elim
    | _ => exact h.elim
  | lst xs =>
    cases dy with
    | int n =>
      cases ry
      simp only [gMul] at h
      split at h
      · rename_i c
        cases rx with
        | lst h1 r1 =>
          have l1 := r1.length
          refine .inr (.inr (.inl ⟨_, n, _, rfl, rfl, s _ _ h1, by omega, by omega, ?_, fun p hp => h.fresh s hp (.lst upd_same (r1.rep _))⟩))
          have : xs.length * n.toNat ≤ 1000 * 1000 := Nat.mul_le_mul c.2.2 (by omega)
          rw [l1]; exact cap_line this
      · exact h.elim
    | _ => exact h.elim
  | tup xs =>
    cases dy with
    | int n =>
      cases ry
      simp only [gMul] at h
      split at h
      · rename_i c
        cases rx with
        | tup h1 r1 =>
          have l1 := r1.length
          refine .inr (.inr (.inr ⟨_, n, _, rfl, rfl, .of (s _ _ h1), ?_, c.1, c.2.1, by rw [l1]; exact c.2.2.1, fun p hp => h.laid s hp (.tup upd_same ((r1.rep _).mono (sb_upd (none_of_sb s hp))))⟩))
          intro e
          rw [e] at l1
          simp at l1
          omega
      · exact h.elim
    | _ => exact h.elim
  | _ => exact h.elim
def gDiv : D → D → R (D × Bool)
  | .int i, y => match y with | .int j => if 0 < j ∧ j.natAbs.log2 < 9000 then .ok (.int (i / j), false) else .st | _ => .st
  | _, _ => .st
theorem od_div {K : PySem.W.Frag} : OpD K (rI CDivW fun i j => .int (i / j)) gDiv := fun E F H x y dx dy Q s rx ry h => by
  cases dx with
  | int i =>
    cases dy with
    | int j =>
      cases rx; cases ry
      simp only [gDiv] at h
      split at h
      · rename_i c; exact ⟨i, j, rfl, rfl, c, h.here s (.int _)⟩
      · exact h.elim
    | _ => exact h.elim
  | _ => exact h.elim
def gMod : D → D → R (D × Bool)
  | .int i, y => match y with | .int j => if 0 < j then .ok (.int (i % j), false) else .st | _ => .st
  | _, _ => .st
theorem od_mod {K : PySem.W.Frag} : OpD K (rI (fun _ j => 0 < j) fun i j => .int (i % j)) gMod := fun E F H x y dx dy Q s rx ry h => by
  cases dx with
  | int i =>
    cases dy with
    | int j =>
      cases rx; cases ry
      simp only [gMod] at h
      split at h
      · rename_i c; exact ⟨i, j, rfl, rfl, c, h.here s (.int _)⟩
      · exact h.elim
    | _ => exact h.elim
  | _ => exact h.elim
def gPow : D → D → R (D × Bool)
  | .int i, y => match y with | .int j => if 0 ≤ j ∧ j ≤ 1000 ∧ i.natAbs < 1000 then .ok (.int (i ^ j.toNat), false) else .st | _ => .st
  | _, _ => .st
theorem od_pow {K : PySem.W.Frag} : OpD K (rI CPow fun i j => .int (i ^ j.toNat)) gPow := fun E F H x y dx dy Q s rx ry h => by
  cases dx with
  | int i =>
    cases dy with
    | int j =>
      cases rx; cases ry
      simp only [gPow] at h
      split at h
      · rename_i c; exact ⟨i, j, rfl, rfl, ⟨c.1, by omega, Nat.lt_trans c.2.2 (by decide)⟩, h.here s (.int _)⟩
      · exact h.elim
    | _ => exact h.elim
  | _ => exact h.elim
/-- -a of an int -/
def fNeg (f : EF) : EF := fun ρ => (f ρ).bind fun x => match x.1 with | .int i => .ok (.int (-i), false) | _ => .st
theorem px_neg {X : Cx} {E : XE} {pos : Pos} {a : Expr} {fa : EF} (ha : PX X E a fa) : PX X E (.UnaryOp .USub a pos) (fNeg fa) := by
  refine ⟨fun pins s σ H Q I h => (pe_un un_neg ha).run pins s σ H Q I ?_⟩
  obtain ⟨F0, H0, F, ρ, S, h⟩ := h
  refine tE_bind S h fun d f x F1 H1 x1 S1 r1 h1 => ?_
  cases d with
  | int i => cases r1; exact ⟨i, rfl, h1.here S1.sub (.int _)⟩
  | _ => exact h1.elim

/-! ### order -/
def ltL : List Nat → List Nat → Bool
  | [], [] => false | [], _ :: _ => true | _ :: _, [] => false
  | x :: xs, y :: ys => if x < y then true else if x = y then ltL xs ys else false
theorem ltL_eq : ∀ a b : List Nat, decide (a < b) = ltL a b
  | [], [] => by simp [ltL]
  | [], _ :: _ => by simp [ltL]
  | _ :: _, [] => by simp [ltL]
  | x :: xs, y :: ys => by
    simp only [ltL, List.cons_lt_cons_iff, ← ltL_eq xs ys]
    by_cases h1 : x < y
    · simp [h1]
    · by_cases h2 : x = y <;> simp [h1, h2]
def strLt (a b : Str) : Bool := ltL a.cps.toList b.cps.toList
def gLt : D → D → R (D × Bool)
  | .int i, y => match y with | .int j => .ok (.bl (decide (i < j)), false) | _ => .st
  | .str a, y => match y with | .str b => .ok (.bl (strLt a b), false) | _ => .st
  | _, _ => .st
def gGt : D → D → R (D × Bool) := fun x y => gLt y x
def gLe : D → D → R (D × Bool)
  | .int i, y => match y with | .int j => .ok (.bl (decide (i ≤ j)), false) | _ => .st
  | .str a, y => match y with | .str b => .ok (.bl (!strLt b a), false) | _ => .st
  | _, _ => .st
def gGe : D → D → R (D × Bool) := fun x y => gLe y x
def rLtD : R2 := fun x y H Q => rI0 (fun i j => .bl (decide (i < j))) x y H Q ∨ ∃ i j, x = .str i ∧ y = .str j ∧ Q (.bl (decide (i.cps.toList < j.cps.toList))) H
def rGtD : R2 := fun x y H Q => rI0 (fun i j => .bl (decide (j < i))) x y H Q ∨ ∃ i j, x = .str i ∧ y = .str j ∧ Q (.bl (decide (j.cps.toList < i.cps.toList))) H
def rLeD : R2 := fun x y H Q => rI0 (fun i j => .bl (decide (i ≤ j))) x y H Q ∨ ∃ i j, x = .str i ∧ y = .str j ∧ Q (.bl (!decide (j.cps.toList < i.cps.toList))) H
def rGeD : R2 := fun x y H Q => rI0 (fun i j => .bl (decide (j ≤ i))) x y H Q ∨ ∃ i j, x = .str i ∧ y = .str j ∧ Q (.bl (!decide (i.cps.toList < j.cps.toList))) H
theorem or_lt {X : Cx} : OpR X (compareOp .Lt) rLtD := op_lt.or op_lt_str
theorem or_gt {X : Cx} : OpR X (compareOp .Gt) rGtD := op_gt.or op_gt_str
theorem or_le {X : Cx} : OpR X (compareOp .LtE) rLeD := op_le.or op_le_str
theorem or_ge {X : Cx} : OpR X (compareOp .GtE) rGeD := op_ge.or op_ge_str
theorem od_lt {K : PySem.W.Frag} : OpD K rLtD gLt := fun E F H x y dx dy Q s rx ry h => by
  cases dx with
  | int i =>
    cases dy with
    | int j => cases rx; cases ry; exact .inl ⟨i, j, rfl, rfl, h.here s (.bl _)⟩
    | _ => exact h.elim
  | str i =>
    cases dy with
    | str j => cases rx; cases ry; exact .inr ⟨i, j, rfl, rfl, by rw [ltL_eq]; exact h.here s (.bl _)⟩
    | _ => exact h.elim
  | _ => exact h.elim
theorem od_gt {K : PySem.W.Frag} : OpD K rGtD gGt := fun E F H x y dx dy Q s rx ry h => by
  unfold gGt at h
  cases dy with
  | int i =>
    cases dx with
    | int j => cases rx; cases ry; exact .inl ⟨j, i, rfl, rfl, h.here s (.bl _)⟩
    | _ => exact h.elim
  | str i =>
    cases dx with
    | str j => cases rx; cases ry; exact .inr ⟨j, i, rfl, rfl, by rw [ltL_eq]; exact h.here s (.bl _)⟩
    | _ => exact h.elim
  | _ => exact h.elim
theorem od_le {K : PySem.W.Frag} : OpD K rLeD gLe := fun E F H x y dx dy Q s rx ry h => by
  cases dx with
  | int i =>
    cases dy with
    | int j => cases rx; cases ry; exact .inl ⟨i, j, rfl, rfl, h.here s (.bl _)⟩
    | _ => exact h.elim
  | str i =>
    cases dy with
    | str j => cases rx; cases ry; exact .inr ⟨i, j, rfl, rfl, by rw [ltL_eq]; exact h.here s (.bl _)⟩
    | _ => exact h.elim
  | _ => exact h.elim
theorem od_ge {K : PySem.W.Frag} : OpD K rGeD gGe := fun E F H x y dx dy Q s rx ry h => by
  unfold gGe at h
  cases dy with
  | int i =>
    cases dx with
    | int j => cases rx; cases ry; exact .inl ⟨j, i, rfl, rfl, h.here s (.bl _)⟩
    | _ => exact h.elim
  | str i =>
    cases dx with
    | str j => cases rx; cases ry; exact .inr ⟨j, i, rfl, rfl, by rw [ltL_eq]; exact h.here s (.bl _)⟩
    | _ => exact h.elim
  | _ => exact h.elim
theorem q_lt : ∀ x y d f, gLt x y = .ok (d, f) → f = false := fun x y d f e => by
  cases x <;> simp only [gLt] at e <;> first | (cases e; done) | (cases y <;> simp only at e <;> first | (cases e; rfl) | cases e)
theorem q_le : ∀ x y d f, gLe x y = .ok (d, f) → f = false := fun x y d f e => by
  cases x <;> simp only [gLe] at e <;> first | (cases e; done) | (cases y <;> simp only at e <;> first | (cases e; rfl) | cases e)
theorem q_gt : ∀ x y d f, gGt x y = .ok (d, f) → f = false := fun x y d f e => q_lt y x d f e
theorem q_ge : ∀ x y d f, gGe x y = .ok (d, f) → f = false := fun x y d f e => q_le y x d f e
theorem q_eq : ∀ x y d f, gEq x y = .ok (d, f) → f = false := fun x y d f e => by
  unfold gEq at e
  split at e
  · cases e; rfl
  · cases e

/-! ### is, in -/
def isNon : D → Bool
  | .non => true
  | _ => false
def gIs : D → D → R (D × Bool) := fun x y => match y with
  | .non => .ok (.bl (isNon x), false)
  | .bl b => (match x with | .bl a => .ok (.bl (decide (a = b)), false) | _ => .st)
  | _ => .st
def gIsN : D → D → R (D × Bool) := fun x y => match y with
  | .non => .ok (.bl (!isNon x), false)
  | .bl b => (match x with | .bl a => .ok (.bl (!decide (a = b)), false) | _ => .st)
  | _ => .st
def rIsD : R2 := fun x y H Q => (y = .non ∧ Q (.bl (decide (x = .non))) H) ∨ rIsB x y H Q
def rIsND : R2 := fun x y H Q => (y = .non ∧ Q (.bl (!decide (x = .non))) H) ∨ rNotB x y H Q
theorem or_is {X : Cx} : OpR X (compareOp .Is) rIsD := op_isN.or op_isBl
theorem or_isN {X : Cx} : OpR X (compareOp .IsNot) rIsND := op_notN.or op_notBl
theorem non_iff {K : PySem.W.Frag} {F : Hp} {x : V} {d : D} (r : Rp K F x d) : decide (x = .non) = isNon d := by
  cases r <;> simp [isNon]
theorem od_is {K : PySem.W.Frag} : OpD K rIsD gIs := fun E F H x y dx dy Q s rx ry h => by
  cases dy with
  | non => cases ry; exact .inl ⟨rfl, by rw [non_iff rx]; exact h.here s (.bl _)⟩
  | bl b =>
    cases dx with
    | bl a => cases rx; cases ry; exact .inr ⟨a, b, rfl, rfl, h.here s (.bl _)⟩
    | _ => exact h.elim
  | _ => exact h.elim
theorem od_isN {K : PySem.W.Frag} : OpD K rIsND gIsN := fun E F H x y dx dy Q s rx ry h => by
  cases dy with
  | non => cases ry; exact .inl ⟨rfl, by rw [non_iff rx]; exact h.here s (.bl _)⟩
  | bl b =>
    cases dx with
    | bl a => cases rx; cases ry; exact .inr ⟨a, b, rfl, rfl, h.here s (.bl _)⟩
    | _ => exact h.elim
  | _ => exact h.elim
/-- is x in y -/
def inD (x y : D) : R Bool := match y with
  | .lst ys => if okN 64 x && okN 64 y then .ok (ys.any fun z => eqv z x) else .st
  | .tup ys => if okN 64 x && okN 64 y then .ok (ys.any fun z => eqv z x) else .st
  | .dic t kvs => if okKey t x then .ok (dGet kvs x).isSome else .st
  | .str b => (match x with | .str a => (match a.cps.toList with | [c] => .ok (b.cps.toList.any fun z => z == c) | _ => .ok (!(Builtin.Str.occurrences b a 0 b.length 1).isEmpty)) | _ => .st)
  | _ => .st
def gIn : D → D → R (D × Bool) := fun x y => (inD x y).bind fun b => .ok (.bl b, false)
def gNotIn : D → D → R (D × Bool) := fun x y => (inD x y).bind fun b => .ok (.bl (!b), false)
def rInT (K : PySem.W.Frag) (n : Bool) : R2 := fun x y H Q => ∃ d ds, Dp K H x d ∧ Dp K H y (.tuple ds) ∧ SeqAt.shaped d = true ∧ SeqAt.shaped (.tuple ds) = true ∧ Q (.bl (xor n (ds.any fun z => PyData.eqv z d))) H
theorem op_inT {X : Cx} (hu : X.A.units + 65 < cLine) : OpR X (compareOp .In) (rInT X.K false) := by
  intro pins s σ H x y v u Q I rx ry h
  obtain ⟨d, ds, hd, he, sd, se, q⟩ := h
  obtain ⟨as, r1⟩ := Dp.reads I d x v hd rx
  obtain ⟨bs, r2⟩ := Dp.reads I (.tuple ds) y u he ry
  exact SeqAt.in_tuple_reads r2 r1 (by have := SeqAt.canLay_of_shaped se; simpa [PyData.canLay0] using this) (SeqAt.canLay_of_shaped sd) (by have := SeqAt.depth_of_shaped sd; omega) ⟨.bl _, H, I, rfl, by simpa using q⟩
theorem op_notInT {X : Cx} (hu : X.A.units + 65 < cLine) : OpR X (compareOp .NotIn) (rInT X.K true) := by
  intro pins s σ H x y v u Q I rx ry h
  obtain ⟨d, ds, hd, he, sd, se, q⟩ := h
  obtain ⟨as, r1⟩ := Dp.reads I d x v hd rx
  obtain ⟨bs, r2⟩ := Dp.reads I (.tuple ds) y u he ry
  exact SeqAt.notIn_tuple_reads r2 r1 (by have := SeqAt.canLay_of_shaped se; simpa [PyData.canLay0] using this) (SeqAt.canLay_of_shaped sd) (by have := SeqAt.depth_of_shaped sd; omega) ⟨.bl _, H, I, rfl, by simpa using q⟩
def rInDic (n : Bool) : R2 := fun x y H Q => ∃ a o, y = .ref a ∧ DGet H a x o ∧ Q (.bl (xor n o.isSome)) H
theorem op_inDic {X : Cx} (hu : X.A.units + 1 < cLine) : OpR X (compareOp .In) (rInDic false) := by
  intro pins s σ H x y v u Q I rx ry h
  obtain ⟨a, o, rfl, g, q⟩ := h
  cases ry
  exact d_in hu I g rx fun s' I' => ⟨.bl o.isSome, H, I', rfl, by simpa using q⟩
theorem op_notInDic {X : Cx} (hu : X.A.units + 1 < cLine) : OpR X (compareOp .NotIn) (rInDic true) := by
  intro pins s σ H x y v u Q I rx ry h
  obtain ⟨a, o, rfl, g, q⟩ := h
  cases ry
  exact d_notIn hu I g rx fun s' I' => ⟨.bl (!o.isSome), H, I', rfl, by simpa using q⟩
def rInS : R2 := fun x y H Q => ∃ i j, x = .str i ∧ y = .str j ∧ Q (.bl (!(Builtin.Str.occurrences j i 0 j.length 1).isEmpty)) H
def rNotInS : R2 := fun x y H Q => ∃ i j, x = .str i ∧ y = .str j ∧ Q (.bl (!(!(Builtin.Str.occurrences j i 0 j.length 1).isEmpty))) H
def rInAll (K : PySem.W.Frag) : R2 := fun x y H Q => rInD K x y H Q ∨ rInT K false x y H Q ∨ rInDic false x y H Q ∨ rInS x y H Q
def rNotInAll (K : PySem.W.Frag) : R2 := fun x y H Q => rNotInD K x y H Q ∨ rInT K true x y H Q ∨ rInDic true x y H Q ∨ rNotInS x y H Q
theorem or_in {X : Cx} (hu : X.A.units + 65 < cLine) : OpR X (compareOp .In) (rInAll X.K) := (op_inD hu).or ((op_inT hu).or ((op_inDic (by omega)).or op_in_str))
theorem or_notIn {X : Cx} (hu : X.A.units + 65 < cLine) : OpR X (compareOp .NotIn) (rNotInAll X.K) := (op_notInD hu).or ((op_notInT hu).or ((op_notInDic (by omega)).or op_notIn_str))
theorem any_py {n : Nat} {x : D} (hx : okN n x = true) : ∀ {ys : List D}, ys.all (okN n) = true → ((pyL ys).any fun z => PyData.eqv z (py x)) = ys.any fun z => eqv z x
  | [], _ => rfl
  | y :: ys, h => by
    simp only [List.all_cons, Bool.and_eq_true] at h
    simp only [pyL, List.any_cons, eqv_py n y x h.1 hx, any_py hx h.2]
theorem okN_up : ∀ (n : Nat) (d : D), okN n d = true → okN (n + 1) d = true
  | n, .non, _ => by simp [okN]
  | n, .bl _, _ => by simp [okN]
  | n, .int _, _ => by simp [okN]
  | n, .str s, h => by cases n <;> simpa [okN] using h
  | 0, .tup _, h => by simp [okN] at h
  | 0, .lst _, h => by simp [okN] at h
  | n + 1, .tup xs, h => by
    simp only [okN, List.all_eq_true] at h ⊢
    exact fun x hx => okN_up n x (h x hx)
  | n + 1, .lst xs, h => by
    simp only [okN, List.all_eq_true] at h ⊢
    exact fun x hx => okN_up n x (h x hx)
  | n, .dic _ _, h => by cases n <;> simp [okN] at h
  | n, .scr _, h => by cases n <;> simp [okN] at h
  | n, .kin _ _ _, h => by cases n <;> simp [okN] at h
theorem any64 {x : D} {ys : List D} (hx : okN 64 x = true) (hy : ys.all (okN 63) = true) : ((pyL ys).any fun z => PyData.eqv z (py x)) = ys.any fun z => eqv z x :=
  any_py hx (by rw [List.all_eq_true] at hy ⊢; exact fun y h => okN_up 63 y (hy y h))
theorem one_sign {a : Str} {c : Nat} (e : a.cps.toList = [c]) : a = ⟨#[c]⟩ := by
  obtain ⟨⟨l⟩⟩ := a
  have e' : l = [c] := e
  subst e'
  rfl
theorem any_mem (c : Nat) : ∀ l : List Nat, (l.any fun z => z == c) = decide (c ∈ l)
  | [] => by simp
  | x :: l => by
    simp only [List.any_cons, any_mem c l]
    by_cases h : x = c
    · simp [h]
    · have h' : ¬ c = x := fun e => h e.symm
      simp [h, h']
theorem od_in_aux {K : PySem.W.Frag} {F H : Hp} {x y : V} {dx dy : D} {b : Bool} (n : Bool) (s : Sb F H) (rx : Rp K F x dx) (ry : Rp K F y dy) (e : inD dx dy = .ok b) {Q : VK} (h : Q (.bl (xor n b)) H) :
    (∃ d ds, Dp K H x d ∧ Dp K H y (.list ds) ∧ SeqAt.shaped d = true ∧ SeqAt.shaped (.list ds) = true ∧ Q (.bl (xor n (ds.any fun z => PyData.eqv z d))) H) ∨ rInT K n x y H Q ∨ rInDic n x y H Q ∨
      ∃ i j, x = .str i ∧ y = .str j ∧ Q (.bl (xor n (!(Builtin.Str.occurrences j i 0 j.length 1).isEmpty))) H := by
  cases dy with
  | lst ys =>
    simp only [inD] at e
    split at e
    · rename_i o
      simp only [Bool.and_eq_true] at o
      cases e
      have d1 := rp_dp 64 dx x o.1 (rx.mono s)
      have d2 := rp_dp 64 _ y o.2 (ry.mono s)
      have o2 := okN_shaped o.2
      simp only [py] at d2 o2
      refine .inl ⟨_, _, d1, d2, okN_shaped o.1, o2, ?_⟩
      rw [any64 o.1 (by have := o.2; simpa [okN] using this)]
      exact h
    · cases e
  | tup ys =>
    simp only [inD] at e
    split at e
    · rename_i o
      simp only [Bool.and_eq_true] at o
      cases e
      have d1 := rp_dp 64 dx x o.1 (rx.mono s)
      have d2 := rp_dp 64 _ y o.2 (ry.mono s)
      have o2 := okN_shaped o.2
      simp only [py] at d2 o2
      refine .inr (.inl ⟨_, _, d1, d2, okN_shaped o.1, o2, ?_⟩)
      rw [any64 o.1 (by have := o.2; simpa [okN] using this)]
      exact h
    · cases e
  | dic t kvs =>
    simp only [inD] at e
    split at e
    · rename_i o
      cases e
      obtain ⟨a, p, rfl, g, q⟩ := dget_of s ry rx o
      exact .inr (.inr (.inl ⟨a, p, rfl, g, by rw [q.isSome]; exact h⟩))
    · cases e
  | str b =>
    cases dx with
    | str a =>
      cases rx; cases ry
      refine .inr (.inr (.inr ⟨a, b, rfl, rfl, ?_⟩))
      simp only [inD] at e
      split at e
      · rename_i c q
        cases e
        rw [one_sign q, PySem.StrLaws.found_one b c, ← any_mem]
        exact h
      · cases e; exact h
    | _ => simp [inD] at e
  | _ => simp [inD] at e
theorem od_in {K : PySem.W.Frag} : OpD K (rInAll K) gIn := fun E F H x y dx dy Q s rx ry h => by
  unfold gIn at h
  cases e : inD dx dy with
  | ok b =>
    rw [e] at h
    have := od_in_aux (Q := Q) false s rx ry e (by simpa using h.here s (.bl _))
    simpa [rInAll, rInD, rInS] using this
  | ex c => rw [e] at h; exfalso; cases dy <;> simp only [inD] at e <;> (try cases e) <;> (try (split at e <;> cases e)) <;> (try (cases dx <;> simp only at e <;> (try cases e) <;> (split at e <;> cases e)))
  | st => rw [e] at h; exact h.elim
theorem od_notIn {K : PySem.W.Frag} : OpD K (rNotInAll K) gNotIn := fun E F H x y dx dy Q s rx ry h => by
  unfold gNotIn at h
  cases e : inD dx dy with
  | ok b =>
    rw [e] at h
    have := od_in_aux (Q := Q) true s rx ry e (by simpa using h.here s (.bl _))
    simpa [rNotInAll, rNotInD, rNotInS] using this
  | ex c => rw [e] at h; exfalso; cases dy <;> simp only [inD] at e <;> (try cases e) <;> (try (split at e <;> cases e)) <;> (try (cases dx <;> simp only at e <;> (try cases e) <;> (split at e <;> cases e)))
  | st => rw [e] at h; exact h.elim
end Pd

/-! Pd4: subscripts, slices, displays, calls of built-ins, methods. -/
namespace Pd
open PySem PySem.Spec PyProof.Rows L2

/-! ### a[b] -/
def gIx : D → D → R (D × Bool)
  | .lst xs, y => match y with | .int i => (match atI xs i with | some d => .ok (d, false) | none => .st) | _ => .st
  | .tup xs, y => match y with | .int i => (match atI xs i with | some d => .ok (d, false) | none => .st) | _ => .st
  | .scr ns, y => match y with | .int i => (match atI ns i with | some n => .ok (.int n, false) | none => .st) | _ => .st
  | .str z, y => match y with | .int i => if z.length ≤ CAP then (match atI z.cps.toList i with | some c => .ok (.str ⟨#[c]⟩, false) | none => .st) else .st | _ => .st
  | .dic t kvs, k => if okKey t k then (match dGet kvs k with | some d => .ok (d, false) | none => .st) else .st
  | _, _ => .st
theorem RpL.atI {K : PySem.W.Frag} {F : Hp} {vs : List V} {ds : List D} {i : Int} {d : D} (h : RpL K F vs ds) (e : L2.atI ds i = some d) : ∃ v, L2.atI vs i = some v ∧ Rp K F v d := by
  unfold L2.atI at e ⊢
  rw [h.length]
  cases q : ixN ds.length i with
  | none => rw [q] at e; cases e
  | some j => rw [q] at e; exact h.get e
theorem atI_map {α β : Type} (f : α → β) (l : List α) (i : Int) : L2.atI (l.map f) i = (L2.atI l i).map f := by
  unfold L2.atI
  rw [List.length_map]
  cases ixN l.length i with
  | none => rfl
  | some j => simp
def rIxDic : R2 := fun x y H Q => ∃ a v, x = .ref a ∧ DGet H a y (some v) ∧ Q v H
theorem ix_dic {X : Cx} (hu : X.A.units + 1 < cLine) : IxR X rIxDic := by
  intro value slice pins s σ H x y v u Q I rx ry h hs
  obtain ⟨a, z, rfl, g, q⟩ := h
  cases rx
  exact tail_any (dict_typeIs I g) PySem.F.slot_dict_getitem.lookup (d_getItem hu I g ry fun w' s' I' r' => ⟨z, H, I', r', q⟩) hs
def rIxD (K : PySem.W.Frag) : R2 := fun x y H Q => rIx K x y H Q ∨ rIxDic x y H Q
theorem ixr {X : Cx} (hu : X.A.units + 1 < cLine) : IxR X (rIxD X.K) := ix_seq.or (ix_dic hu)
theorem od_ix {K : PySem.W.Frag} : OpD K (rIxD K) gIx := fun E F H x y dx dy Q s rx ry h => by
  cases dx with
  | lst xs =>
    cases dy with
    | int i =>
      cases ry
      simp only [gIx] at h
      split at h
      · rename_i d e
        cases rx with
        | lst h1 r1 =>
          obtain ⟨v, ev, rv⟩ := r1.atI e
          exact .inl (.inl ⟨_, _, i, v, rfl, rfl, .of (s _ _ h1), ev, h.here s rv⟩)
      · exact h.elim
    | _ => exact h.elim
  | tup xs =>
    cases dy with
    | int i =>
      cases ry
      simp only [gIx] at h
      split at h
      · rename_i d e
        cases rx with
        | tup h1 r1 =>
          obtain ⟨v, ev, rv⟩ := r1.atI e
          exact .inl (.inr (.inl ⟨_, _, i, v, rfl, rfl, .of (s _ _ h1), ev, h.here s rv⟩))
      · exact h.elim
    | _ => exact h.elim
  | scr ns =>
    cases dy with
    | int i =>
      cases ry
      simp only [gIx] at h
      split at h
      · rename_i n e
        cases rx with
        | scr h1 => exact .inl (.inl ⟨_, _, i, .int n, rfl, rfl, sqL_mono s h1, by rw [atI_map, e]; rfl, h.here s (.int n)⟩)
      · exact h.elim
    | _ => exact h.elim
  | str z =>
    cases dy with
    | int i =>
      cases ry; cases rx
      simp only [gIx] at h
      split at h
      · rename_i c
        split at h
        · rename_i n e
          exact .inl (.inr (.inr ⟨z, i, n, rfl, rfl, cap_line c, e, h.here s (.str _)⟩))
        · exact h.elim
      · exact h.elim
    | _ => exact h.elim
  | dic t kvs =>
    simp only [gIx] at h
    split at h
    · rename_i o
      split at h
      · rename_i d e
        obtain ⟨a, p, rfl, g, q⟩ := dget_of s rx ry o
        rw [e] at q
        cases p with
        | none => exact q.elim
        | some v => exact .inr ⟨a, v, rfl, g, h.here s q⟩
      · exact h.elim
    · exact h.elim
  | _ => exact h.elim
section
variable {X : Cx} {E : XE} {pos p2 : Pos} {a b e : Expr} {fa fb : EF}
theorem px_ix (hu : X.A.units + 1 < cLine) (ha : PX X E a fa) (hb : PX X E b fb) (hs : PlainIx b := by exact fun _ _ => rfl) : PX X E (.Subscript a b pos) (fOp gIx fa fb) :=
  ⟨fun pins s σ H Q I h => (pe_ix (ixr hu) ha hb hs).run pins s σ H Q I (op_data od_ix h)⟩

/-! ### slices -/
def fPart : Option EF → Env → R (Option Int)
  | none, _ => .ok none
  | some f, ρ => (f ρ).bind fun x => match x.1 with | .int i => .ok (some i) | _ => .st
structure PPt (X : Cx) (E : XE) (e : Option Expr) (f : Option EF) : Prop where
  t : ∃ to, PO X e to ∧ ∀ (σ : L2.St) (H : Hp) (F0 H0 F : Hp) (ρ : Env) (k : Option Int → R (D × Bool)) (Q : VK) (Q' : Option Int → Hp → Prop), StOk X.K F0 H0 F H σ ρ → Post X.K F H E ((fPart f ρ).bind k) Q →
    (∀ i F1 H1, Fr F H F1 H1 → StOk X.K F0 H0 F1 H1 σ ρ → Post X.K F1 H1 E (k i) Q → Q' i H1) → to σ H Q'
theorem pp_none : PPt X E none none := ⟨_, po_none, fun σ H F0 H0 F ρ k Q Q' S h hk => hk none F H (.refl S.sub) S h⟩
theorem pp_some (h : PX X E e fa) : PPt X E (some e) (some fa) := by
  refine ⟨_, po_some h, fun σ H F0 H0 F ρ k Q Q' S h hk => ?_⟩
  have h' : Post X.K F H E ((fa ρ).bind fun x => match x.1 with | .int i => k (some i) | _ => .st) Q := by
    simp only [fPart] at h
    cases e1 : fa ρ with
    | ok x =>
      rw [e1] at h
      obtain ⟨d, f⟩ := x
      cases d <;> first | exact h | exact h.elim
    | ex c => rw [e1] at h; exact h
    | st => rw [e1] at h; exact h
  refine tE_bind S h' fun d f x F1 H1 x1 S1 r1 h1 => ?_
  cases d with
  | int i => cases r1; exact ⟨i, rfl, hk (some i) F1 H1 x1 S1 h1⟩
  | _ => exact h1.elim
def cutD (xs : List D) (lo hi : Option Int) : List D := (xs.drop (HT.sIx xs.length 0 lo)).take (HT.sIx xs.length xs.length hi - HT.sIx xs.length 0 lo)
def gSl : D → Option Int → Option Int → R (D × Bool)
  | .lst xs, lo, hi => .ok (.lst (cutD xs lo hi), true)
  | .tup xs, lo, hi => .ok (.tup (cutD xs lo hi), false)
  | .str z, lo, hi => if z.length ≤ CAP then .ok (.str (cutS z lo hi), false) else .st
  | _, _, _ => .st
def fSl (f : EF) (lo hi : Option EF) : EF := fun ρ => (f ρ).bind fun x => (fPart lo ρ).bind fun l => (fPart hi ρ).bind fun u => gSl x.1 l u
def rSlD (K : PySem.W.Frag) : V → Option Int → Option Int → Hp → VK → Prop := fun x lo hi H Q => rSlL K x lo hi H Q ∨ rSlA K x lo hi H Q ∨ rSlS x lo hi H Q
theorem slr {X : Cx} : SlR X (rSlD X.K) := sl_list.or (sl_tupA.or sl_str)
theorem px_slice {lo hi : Option Expr} {fl fu : Option EF} (he : PX X E e fa) (hl : PPt X E lo fl) (hh : PPt X E hi fu) : PX X E (.Subscript e (.Slice lo hi none p2) pos) (fSl fa fl fu) := by
  obtain ⟨tl, pl, kl⟩ := hl
  obtain ⟨tu, pu, ku⟩ := hh
  refine ⟨fun pins s σ H Q I h => (pe_slice slr he pl pu).run pins s σ H Q I ?_⟩
  obtain ⟨F0, H0, F, ρ, S, h⟩ := h
  refine tE_bind S h fun d f x F1 H1 x1 S1 r1 h1 => ?_
  refine kl σ H1 F0 H0 F1 ρ _ Q _ S1 h1 fun l F2 H2 x2 S2 h2 => ?_
  refine ku σ H2 F0 H0 F2 ρ _ Q _ S2 h2 fun u F3 H3 x3 S3 h3 => ?_
  have r3 := (r1.mono x2.sF).mono x3.sF
  have s3 := S3.sub
  cases d with
  | lst xs =>
    cases r3 with
    | lst g1 q1 =>
      refine .inl ⟨_, _, rfl, .of (s3 _ _ g1), fun p hp => h3.fresh s3 hp (.lst upd_same ?_)⟩
      unfold cutV
      rw [q1.length]
      exact (q1.drop _).take _
  | tup xs =>
    cases r3 with
    | @tup a vs _ g1 q1 =>
      refine .inr (.inl ⟨_, _, rfl, .of (s3 _ _ g1), fun hw => ?_, fun _ p hp => h3.laid s3 hp (.tup upd_same (RpL.mono (sb_upd (none_of_sb s3 hp)) ?_))⟩)
      · refine h3.here s3 (.tup g1 ?_)
        rw [q1.length] at hw
        unfold cutD
        rw [hw.1, hw.2]
        simpa using q1
      · unfold cutV
        rw [q1.length]
        exact (q1.drop _).take _
  | str z =>
    cases r3
    simp only [gSl] at h3
    split at h3
    · rename_i c
      exact .inr (.inr ⟨z, rfl, cap_line c, h3.here s3 (.str _)⟩)
    · exact h3.elim
  | _ => exact h3.elim
/-- xs[::-1] of a list -/
def fRev (f : EF) : EF := fun ρ => (f ρ).bind fun x => match x.1 with | .lst xs => .ok (.lst xs.reverse, true) | _ => .st
theorem px_revL {k : Nat} {p1 p2 p3 : Pos} (he : PX X E e fa) : PX X E (.Subscript e (.Slice none none (some (.UnaryOp .USub (.Constant (.int 1) k p1) p2)) p3) pos) (fRev fa) := by
  refine ⟨fun pins s σ H Q I h => (pe_revL he).run pins s σ H Q I ?_⟩
  obtain ⟨F0, H0, F, ρ, S, h⟩ := h
  refine tE_bind S h fun d f x F1 H1 x1 S1 r1 h1 => ?_
  cases d with
  | lst xs => cases r1 with | lst g1 q1 => exact ⟨_, _, rfl, .of (S1.sub _ _ g1), fun p hp => h1.fresh S1.sub hp (.lst upd_same q1.reverse)⟩
  | _ => exact h1.elim

/-! ### displays -/
variable {es : List Expr} {n : Nat} {g : Env → R (List D)}
def fTup (g : Env → R (List D)) : EF := fun ρ => (g ρ).bind fun ds => if ds.length ≤ CAP then .ok (.tup ds, false) else .st
def fLst (g : Env → R (List D)) : EF := fun ρ => (g ρ).bind fun ds => if ds.length ≤ CAP then .ok (.lst ds, true) else .st
theorem px_tup {k : Nat} (h : PLs X E es n g) : PX X E (.Tuple es k pos) (fTup g) := by
  refine ⟨fun pins s σ H Q I hw => (pe_tup h.run).run pins s σ H Q I ?_⟩
  obtain ⟨F0, H0, F, ρ, S, hw⟩ := hw
  refine tA_bind S hw fun ds xs F1 H1 e1 x1 S1 r1 h1 => ?_
  split at h1
  · rename_i c
    exact ⟨by rw [r1.length]; exact cap_line c, fun p hp => h1.laid S1.sub hp (.tup upd_same (r1.mono (sb_upd (none_of_sb S1.sub hp))))⟩
  · exact h1.elim
theorem px_lst (h : PLs X E es n g) : PX X E (.List es pos) (fLst g) := by
  refine ⟨fun pins s σ H Q I hw => (pe_lst h.run).run pins s σ H Q I ?_⟩
  obtain ⟨F0, H0, F, ρ, S, hw⟩ := hw
  refine tA_bind S hw fun ds xs F1 H1 e1 x1 S1 r1 h1 => ?_
  split at h1
  · rename_i c
    exact ⟨by rw [r1.length]; exact cap_line c, fun p hp => h1.fresh S1.sub hp (.lst upd_same r1)⟩
  · exact h1.elim
/-- {} -/
def fDic (t : Bool) : EF := fun _ => .ok (.dic t [], true)
theorem px_dicK : PX X E (.Dict [] [] pos) (fDic false) :=
  ⟨fun pins s σ H Q I ⟨F0, H0, F, ρ, S, h⟩ => pe_dnewK.run pins s σ H Q I fun p hp => h.fresh S.sub hp (.dicK upd_same .nil)⟩
theorem px_dicT : PX X E (.Dict [] [] pos) (fDic true) :=
  ⟨fun pins s σ H Q I ⟨F0, H0, F, ρ, S, h⟩ => pe_dnewT.run pins s σ H Q I fun p hp => h.fresh S.sub hp (.dicT upd_same .nil)⟩

/-! ### calls of built-ins -/
def CallD (K : PySem.W.Frag) (r : List V → Hp → VK → Prop) (g : List D → R (D × Bool)) : Prop :=
  ∀ (E : XE) (F H : Hp) (xs : List V) (ds : List D) (Q : VK), Sb F H → RpL K F xs ds → Post K F H E (g ds) Q → r xs H Q
variable {x : Str} {p : Pos} {id T : String} {r : List V → Hp → VK → Prop} {gd : List D → R (D × Bool)}
theorem px_callB (hc : CallR X (.builtin id) r) (hd : CallD X.K r gd) (hm : X.mg x = none) (hv : bootBuiltins x = some (.builtin id)) (ha : PLs X E (e :: es) n g) (hg : Gl X x := by rfl) (hn : x ≠ "__name__" := by decide) (hdb : (x == ("__debug__" : Str)) = false := by decide)
    (he : starEach (e :: es) X.env = (false, eval e X.env) :: starEach es X.env := by rfl) (hpl : (backTo pos (starEach es X.env)).any (·.1) = false := by rfl) : PX X E (.Call (.Name x p) (e :: es) [] pos) (fCall gd g) := by
  refine ⟨fun pins s σ H Q I h => (pe_callB hc hg hm hv ha.run hn hdb he hpl).run pins s σ H Q I ?_⟩
  obtain ⟨F0, H0, F, ρ, S, h⟩ := h
  exact tA_bind S h fun ds xs F1 H1 e1 x1 S1 r1 h1 => hd E F1 H1 xs ds Q S1.sub r1 h1
theorem px_callTy (hc : CallR X (.type T) r) (hd : CallD X.K r gd) (hm : X.mg x = none) (hv : bootBuiltins x = some (.type T)) (ha : PLs X E (e :: es) n g) (hg : Gl X x := by rfl) (hn : x ≠ "__name__" := by decide) (hdb : (x == ("__debug__" : Str)) = false := by decide)
    (he : starEach (e :: es) X.env = (false, eval e X.env) :: starEach es X.env := by rfl) (hpl : (backTo pos (starEach es X.env)).any (·.1) = false := by rfl) : PX X E (.Call (.Name x p) (e :: es) [] pos) (fCall gd g) := by
  refine ⟨fun pins s σ H Q I h => (pe_callTy hc hg hm hv ha.run hn hdb he hpl).run pins s σ H Q I ?_⟩
  obtain ⟨F0, H0, F, ρ, S, h⟩ := h
  exact tA_bind S h fun ds xs F1 H1 e1 x1 S1 r1 h1 => hd E F1 H1 xs ds Q S1.sub r1 h1
end
theorem rpl1 {K : PySem.W.Frag} {F : Hp} {xs : List V} {d : D} (h : RpL K F xs [d]) : ∃ x, xs = [x] ∧ Rp K F x d := by
  cases h with
  | cons h1 h2 => cases h2; exact ⟨_, rfl, h1⟩
theorem rpl2 {K : PySem.W.Frag} {F : Hp} {xs : List V} {d e : D} (h : RpL K F xs [d, e]) : ∃ x y, xs = [x, y] ∧ Rp K F x d ∧ Rp K F y e := by
  cases h with
  | cons h1 h2 => obtain ⟨y, rfl, h3⟩ := rpl1 h2; exact ⟨_, y, rfl, h1, h3⟩

def gLen : List D → R (D × Bool)
  | [.lst xs] => .ok (.int xs.length, false)
  | [.tup xs] => .ok (.int xs.length, false)
  | [.scr xs] => .ok (.int xs.length, false)
  | [.str z] => if z.length ≤ CAP then .ok (.int z.length, false) else .st
  | [.dic false kvs] => .ok (.int kvs.length, false)
  | _ => .st
def rLenD (K : PySem.W.Frag) : List V → Hp → VK → Prop := fun xs H Q => (∃ x n, xs = [x] ∧ LenV K x H n ∧ Q (.int n) H) ∨ ∃ a kvs, xs = [V.ref a] ∧ Rd H a (.dK kvs) ∧ Q (.int (kvs : List (Key × V)).length) H
theorem cr_lenDic {X : Cx} : CallR X (.builtin "len") (fun xs H Q => ∃ a kvs, xs = [V.ref a] ∧ Rd H a (.dK kvs) ∧ Q (.int (kvs : List (Key × V)).length) H) := by
  intro pins s σ H xs us Q I r h
  obtain ⟨a, kvs, rfl, ha, q⟩ := h
  obtain ⟨u, rfl, ru⟩ := vals1 r
  cases ru
  exact d_len I ha fun t s' I' => ⟨.int kvs.length, H, I', ⟨t, rfl⟩, q⟩
theorem cr_len {X : Cx} : CallR X (.builtin "len") (rLenD X.K) := call_len.or cr_lenDic
theorem cd_len {K : PySem.W.Frag} : CallD K (rLenD K) gLen := fun E F H xs ds Q s r h => by
  unfold gLen at h
  split at h
  · rename_i ys
    obtain ⟨x, rfl, rx⟩ := rpl1 r
    cases rx with | lst h1 r1 => exact .inl ⟨_, _, rfl, .inl ⟨_, .of (s _ _ h1), rfl⟩, by rw [r1.length]; exact h.here s (.int _)⟩
  · rename_i ys
    obtain ⟨x, rfl, rx⟩ := rpl1 r
    cases rx with | tup h1 r1 => exact .inl ⟨_, _, rfl, .inr ⟨_, .of (s _ _ h1), rfl⟩, by rw [r1.length]; exact h.here s (.int _)⟩
  · rename_i ys
    obtain ⟨x, rfl, rx⟩ := rpl1 r
    cases rx with | scr h1 => exact .inl ⟨_, _, rfl, .inl ⟨_, sqL_mono s h1, rfl⟩, by rw [List.length_map]; exact h.here s (.int _)⟩
  · rename_i z
    obtain ⟨x, rfl, rx⟩ := rpl1 r
    cases rx
    split at h
    · rename_i c
      exact .inl ⟨_, _, rfl, ⟨cap_line c, rfl⟩, h.here s (.int _)⟩
    · exact h.elim
  · rename_i kvs
    obtain ⟨x, rfl, rx⟩ := rpl1 r
    cases rx with | dicK h1 r1 => exact .inr ⟨_, _, rfl, rd_mono s h1, by rw [r1.length]; exact h.here s (.int _)⟩
  · exact h.elim
/-- the ints of a list -/
def intsD : List D → Option (List Int)
  | [] => some []
  | .int i :: r => (match intsD r with | some l => some (i :: l) | none => none)
  | _ :: _ => none
theorem intsD_eq : ∀ {ds : List D} {ns : List Int}, intsD ds = some ns → ds = ns.map D.int
  | [], ns, h => by simp [intsD] at h; subst h; rfl
  | .int i :: r, ns, h => by
    simp only [intsD] at h
    split at h
    · rename_i l e
      cases h
      rw [intsD_eq e]; rfl
    · cases h
  | .non :: _, _, h => by simp [intsD] at h
  | .bl _ :: _, _, h => by simp [intsD] at h
  | .str _ :: _, _, h => by simp [intsD] at h
  | .tup _ :: _, _, h => by simp [intsD] at h
  | .lst _ :: _, _, h => by simp [intsD] at h
  | .dic _ _ :: _, _, h => by simp [intsD] at h
  | .scr _ :: _, _, h => by simp [intsD] at h
  | .kin _ _ _ :: _, _, h => by simp [intsD] at h
theorem rpl_ints {K : PySem.W.Frag} {F : Hp} : ∀ {ns : List Int} {vs : List V}, RpL K F vs (ns.map D.int) → vs = ns.map V.int
  | [], _, h => by cases h; rfl
  | n :: ns, _, h => by cases h with | cons h1 h2 => rw [int_of h1, rpl_ints h2]; rfl
def blsD : List D → Option (List Bool)
  | [] => some []
  | .bl i :: r => (match blsD r with | some l => some (i :: l) | none => none)
  | _ :: _ => none
theorem blsD_eq : ∀ {ds : List D} {ns : List Bool}, blsD ds = some ns → ds = ns.map D.bl
  | [], ns, h => by simp [blsD] at h; subst h; rfl
  | .bl i :: r, ns, h => by
    simp only [blsD] at h
    split at h
    · rename_i l e
      cases h
      rw [blsD_eq e]; rfl
    · cases h
  | .non :: _, _, h => by simp [blsD] at h
  | .int _ :: _, _, h => by simp [blsD] at h
  | .str _ :: _, _, h => by simp [blsD] at h
  | .tup _ :: _, _, h => by simp [blsD] at h
  | .lst _ :: _, _, h => by simp [blsD] at h
  | .dic _ _ :: _, _, h => by simp [blsD] at h
  | .scr _ :: _, _, h => by simp [blsD] at h
  | .kin _ _ _ :: _, _, h => by simp [blsD] at h
theorem rpl_bls {K : PySem.W.Frag} {F : Hp} : ∀ {ns : List Bool} {vs : List V}, RpL K F vs (ns.map D.bl) → vs = ns.map V.bl
  | [], _, h => by cases h; rfl
  | n :: ns, _, h => by cases h with | cons h1 h2 => rw [bl_of h1, rpl_bls h2]; rfl
def maxL : Int → List Int → Int
  | m, [] => m
  | m, x :: r => maxL (if x > m then x else m) r
def minL : Int → List Int → Int
  | m, [] => m
  | m, x :: r => minL (if x < m then x else m) r
theorem maxL_mem : ∀ (m : Int) (l : List Int), maxL m l ∈ m :: l ∧ ∀ y ∈ m :: l, y ≤ maxL m l
  | m, [] => by simp [maxL]
  | m, x :: r => by
    have h := maxL_mem (if x > m then x else m) r
    simp only [maxL]
    obtain ⟨h1, h2⟩ := h
    by_cases c : x > m
    · rw [if_pos c] at h1 h2 ⊢
      refine ⟨by simp only [List.mem_cons] at h1 ⊢; exact .inr h1, fun y hy => ?_⟩
      rcases List.mem_cons.mp hy with e | e
      · subst e
        have := h2 x List.mem_cons_self
        omega
      · exact h2 y e
    · rw [if_neg c] at h1 h2 ⊢
      refine ⟨by simp only [List.mem_cons] at h1 ⊢; rcases h1 with e | e; exact .inl e; exact .inr (.inr e), fun y hy => ?_⟩
      rcases List.mem_cons.mp hy with e | e
      · subst e; exact h2 _ List.mem_cons_self
      · rcases List.mem_cons.mp e with e | e
        · subst e
          have := h2 m List.mem_cons_self
          omega
        · exact h2 y (List.mem_cons_of_mem _ e)
theorem minL_mem : ∀ (m : Int) (l : List Int), minL m l ∈ m :: l ∧ ∀ y ∈ m :: l, minL m l ≤ y
  | m, [] => by simp [minL]
  | m, x :: r => by
    have h := minL_mem (if x < m then x else m) r
    simp only [minL]
    obtain ⟨h1, h2⟩ := h
    by_cases c : x < m
    · rw [if_pos c] at h1 h2 ⊢
      refine ⟨by simp only [List.mem_cons] at h1 ⊢; exact .inr h1, fun y hy => ?_⟩
      rcases List.mem_cons.mp hy with e | e
      · subst e
        have := h2 x List.mem_cons_self
        omega
      · exact h2 y e
    · rw [if_neg c] at h1 h2 ⊢
      refine ⟨by simp only [List.mem_cons] at h1 ⊢; rcases h1 with e | e; exact .inl e; exact .inr (.inr e), fun y hy => ?_⟩
      rcases List.mem_cons.mp hy with e | e
      · subst e; exact h2 _ List.mem_cons_self
      · rcases List.mem_cons.mp e with e | e
        · subst e
          have := h2 m List.mem_cons_self
          omega
        · exact h2 y (List.mem_cons_of_mem _ e)
def gMax : List D → R (D × Bool)
  | [.int i, .int j] => .ok (.int (if j > i then j else i), false)
  | [.lst xs] => (match intsD xs with | some (m :: r) => .ok (.int (maxL m r), false) | _ => .st)
  | _ => .st
def gMin : List D → R (D × Bool)
  | [.int i, .int j] => .ok (.int (if j < i then j else i), false)
  | [.lst xs] => (match intsD xs with | some (m :: r) => .ok (.int (minL m r), false) | _ => .st)
  | _ => .st
def rMaxD (K : PySem.W.Frag) : List V → Hp → VK → Prop := fun xs H Q => (∃ i j, xs = [V.int i, V.int j] ∧ Q (.int (if j > i then j else i)) H) ∨ rMax K xs H Q
def rMinD (K : PySem.W.Frag) : List V → Hp → VK → Prop := fun xs H Q => (∃ i j, xs = [V.int i, V.int j] ∧ Q (.int (if j < i then j else i)) H) ∨ rMin K xs H Q
theorem cr_maxD {X : Cx} (hc : X.calm = true) : CallR X (.builtin "max") (rMaxD X.K) := (call_max2 hc).or (cr_max hc)
theorem cr_minD {X : Cx} (hc : X.calm = true) : CallR X (.builtin "min") (rMinD X.K) := (call_min2 hc).or (cr_min hc)
theorem cd_max {K : PySem.W.Frag} : CallD K (rMaxD K) gMax := fun E F H xs ds Q s r h => by
  unfold gMax at h
  split at h
  · obtain ⟨x, y, rfl, rx, ry⟩ := rpl2 r
    rw [int_of rx, int_of ry]
    exact .inl ⟨_, _, rfl, h.here s (.int _)⟩
  · obtain ⟨x, rfl, rx⟩ := rpl1 r
    split at h
    · rename_i m l e
      cases rx with
      | lst h1 r1 =>
        rw [intsD_eq e] at r1
        have e2 := rpl_ints r1
        subst e2
        refine .inr ⟨_, _, rfl, .of (s _ _ h1), by simp, fun k hk hb => ?_⟩
        obtain ⟨q1, q2⟩ := maxL_mem m l
        have : k = maxL m l := Int.le_antisymm (q2 k hk) (hb _ q1)
        rw [this]
        exact h.here s (.int _)
    · exact h.elim
  · exact h.elim
theorem cd_min {K : PySem.W.Frag} : CallD K (rMinD K) gMin := fun E F H xs ds Q s r h => by
  unfold gMin at h
  split at h
  · obtain ⟨x, y, rfl, rx, ry⟩ := rpl2 r
    rw [int_of rx, int_of ry]
    exact .inl ⟨_, _, rfl, h.here s (.int _)⟩
  · obtain ⟨x, rfl, rx⟩ := rpl1 r
    split at h
    · rename_i m l e
      cases rx with
      | lst h1 r1 =>
        rw [intsD_eq e] at r1
        have e2 := rpl_ints r1
        subst e2
        refine .inr ⟨_, _, rfl, .of (s _ _ h1), by simp, fun k hk hb => ?_⟩
        obtain ⟨q1, q2⟩ := minL_mem m l
        have : k = minL m l := Int.le_antisymm (hb _ q1) (q2 k hk)
        rw [this]
        exact h.here s (.int _)
    · exact h.elim
  · exact h.elim
def gSum : List D → R (D × Bool)
  | [.lst xs] => (match intsD xs with | some ns => .ok (.int ns.sum, false) | _ => .st)
  | _ => .st
theorem cd_sum {K : PySem.W.Frag} : CallD K (rSum K) gSum := fun E F H xs ds Q s r h => by
  unfold gSum at h
  split at h
  · obtain ⟨x, rfl, rx⟩ := rpl1 r
    split at h
    · rename_i ns e
      cases rx with
      | lst h1 r1 =>
        rw [intsD_eq e] at r1
        have e2 := rpl_ints r1
        subst e2
        exact ⟨_, _, rfl, .of (s _ _ h1), h.here s (.int _)⟩
    · exact h.elim
  · exact h.elim
def gAll : List D → R (D × Bool)
  | [.lst xs] => (match blsD xs with | some ns => .ok (.bl (ns.all id), false) | _ => .st)
  | _ => .st
def gAny : List D → R (D × Bool)
  | [.lst xs] => (match blsD xs with | some ns => .ok (.bl (ns.any id), false) | _ => .st)
  | _ => .st
theorem cd_all {K : PySem.W.Frag} : CallD K (rAll K) gAll := fun E F H xs ds Q s r h => by
  unfold gAll at h
  split at h
  · obtain ⟨x, rfl, rx⟩ := rpl1 r
    split at h
    · rename_i ns e
      cases rx with
      | lst h1 r1 =>
        rw [blsD_eq e] at r1
        have e2 := rpl_bls r1
        subst e2
        exact ⟨_, _, rfl, .of (s _ _ h1), h.here s (.bl _)⟩
    · exact h.elim
  · exact h.elim
theorem cd_any {K : PySem.W.Frag} : CallD K (rAny K) gAny := fun E F H xs ds Q s r h => by
  unfold gAny at h
  split at h
  · obtain ⟨x, rfl, rx⟩ := rpl1 r
    split at h
    · rename_i ns e
      cases rx with
      | lst h1 r1 =>
        rw [blsD_eq e] at r1
        have e2 := rpl_bls r1
        subst e2
        exact ⟨_, _, rfl, .of (s _ _ h1), h.here s (.bl _)⟩
    · exact h.elim
  · exact h.elim
def gAbs : List D → R (D × Bool)
  | [.int i] => .ok (.int (if i < 0 then -i else i), false)
  | _ => .st
theorem cd_abs {K : PySem.W.Frag} : CallD K (fun xs H Q => ∃ i, xs = [V.int i] ∧ Q (.int (if i < 0 then -i else i)) H) gAbs := fun E F H xs ds Q s r h => by
  unfold gAbs at h
  split at h
  · obtain ⟨x, rfl, rx⟩ := rpl1 r
    rw [int_of rx]
    exact ⟨_, rfl, h.here s (.int _)⟩
  · exact h.elim
def gInt : List D → R (D × Bool)
  | [.int i] => .ok (.int i, false)
  | [.bl b] => .ok (.int (if b then 1 else 0), false)
  | _ => .st
theorem cd_int {K : PySem.W.Frag} : CallD K (fun xs H Q => (∃ i, xs = [V.int i] ∧ Q (.int i) H) ∨ ∃ k, xs = [V.bl k] ∧ Q (.int (if k then 1 else 0)) H) gInt := fun E F H xs ds Q s r h => by
  unfold gInt at h
  split at h
  · obtain ⟨x, rfl, rx⟩ := rpl1 r
    rw [int_of rx]
    exact .inl ⟨_, rfl, h.here s (.int _)⟩
  · obtain ⟨x, rfl, rx⟩ := rpl1 r
    rw [bl_of rx]
    exact .inr ⟨_, rfl, h.here s (.int _)⟩
  · exact h.elim
def gBool : List D → R (D × Bool)
  | [.int i] => .ok (.bl (i != 0), false)
  | [.bl b] => .ok (.bl b, false)
  | _ => .st
theorem cd_bool {K : PySem.W.Frag} : CallD K (fun xs H Q => (∃ i, xs = [V.int i] ∧ Q (.bl (i != 0)) H) ∨ ∃ k, xs = [V.bl k] ∧ Q (.bl k) H) gBool := fun E F H xs ds Q s r h => by
  unfold gBool at h
  split at h
  · obtain ⟨x, rfl, rx⟩ := rpl1 r
    rw [int_of rx]
    exact .inl ⟨_, rfl, h.here s (.bl _)⟩
  · obtain ⟨x, rfl, rx⟩ := rpl1 r
    rw [bl_of rx]
    exact .inr ⟨_, rfl, h.here s (.bl _)⟩
  · exact h.elim
/-- a small number as a text -/
def digS : Nat → Str
  | n => if Nat.blt n 10 then ⟨⟨[48 + n]⟩⟩ else ⟨⟨[48 + n / 10, 48 + n % 10]⟩⟩
theorem digS_ok : ((List.range 100).all fun n => decide (digS n = Str.ofString (toString (n : Int)))) = true := by decide +kernel
theorem digS_eq {n : Nat} (h : n < 100) : digS n = Str.ofString (toString (n : Int)) := of_decide_eq_true (List.all_eq_true.mp digS_ok n (List.mem_range.mpr h))
def gStr : List D → R (D × Bool)
  | [.int (.ofNat n)] => if Nat.blt n 100 then .ok (.str (digS n), false) else .st
  | _ => .st
theorem cd_str {K : PySem.W.Frag} : CallD K (fun xs H Q => ∃ i : Int, xs = [V.int i] ∧ i.natAbs.log2 < 1920 ∧ Q (.str (toString i)) H) gStr := fun E F H xs ds Q s r h => by
  unfold gStr at h
  split at h
  · rename_i n
    obtain ⟨x, rfl, rx⟩ := rpl1 r
    rw [int_of rx]
    split at h
    · rename_i c
      have c := Nat.blt_eq.mp c
      rw [digS_eq c] at h
      refine ⟨_, rfl, ?_, h.here s (.str _)⟩
      show n.log2 < 1920
      have := Nat.log2_le_self n
      omega
    · exact h.elim
  · exact h.elim
def gList : List D → R (D × Bool)
  | [.lst xs] => .ok (.lst xs, true)
  | [.tup xs] => .ok (.lst xs, true)
  | _ => .st
def gTuple : List D → R (D × Bool)
  | [.lst xs] => .ok (.tup xs, false)
  | [.tup xs] => .ok (.tup xs, false)
  | _ => .st
theorem cd_list {K : PySem.W.Frag} : CallD K (fun xs H Q => ∃ p ys, xs = [V.ref p] ∧ (SqL K H p ys ∨ SqT K H p ys) ∧ ∀ l, H l = none → Q (.ref l) (upd H l (.lst ys))) gList := fun E F H xs ds Q s r h => by
  unfold gList at h
  split at h
  · obtain ⟨x, rfl, rx⟩ := rpl1 r
    cases rx with | lst h1 r1 => exact ⟨_, _, rfl, .inl (.of (s _ _ h1)), fun l hl => h.fresh s hl (.lst upd_same r1)⟩
  · obtain ⟨x, rfl, rx⟩ := rpl1 r
    cases rx with | tup h1 r1 => exact ⟨_, _, rfl, .inr (.of (s _ _ h1)), fun l hl => h.fresh s hl (.lst upd_same r1)⟩
  · exact h.elim
theorem cd_tuple {K : PySem.W.Frag} : CallD K (fun xs H Q => ∃ p ys, xs = [V.ref p] ∧ ((SqL K H p ys ∧ ∀ l, H l = none → Q (.ref l) (upd H l (.tup ys))) ∨ (SqT K H p ys ∧ Q (.ref p) H))) gTuple := fun E F H xs ds Q s r h => by
  unfold gTuple at h
  split at h
  · obtain ⟨x, rfl, rx⟩ := rpl1 r
    cases rx with | lst h1 r1 => exact ⟨_, _, rfl, .inl ⟨.of (s _ _ h1), fun l hl => h.laid s hl (.tup upd_same (r1.mono (sb_upd (none_of_sb s hl))))⟩⟩
  · obtain ⟨x, rfl, rx⟩ := rpl1 r
    cases rx with | tup h1 r1 => exact ⟨_, _, rfl, .inr ⟨.of (s _ _ h1), h.here s (.tup h1 r1)⟩⟩
  · exact h.elim

/-! ### isinstance -/
/-- the built-in type of a datum -/
def tyD : D → Option String
  | .non => some "NoneType" | .bl _ => some "bool" | .int _ => some "int" | .str _ => some "str"
  | .tup _ => some "tuple" | .lst _ => some "list" | .dic _ _ => none | .scr _ => some "list" | .kin _ _ _ => none
/-- isinstance(x, T) by the built-in types' names -/
def isi (a b : String) : Bool := a == b || (a == "bool" && b == "int")
def fIsi (T : String) (f : EF) : EF := fun ρ => (f ρ).bind fun x => match tyD x.1 with
  | some a => .ok (.bl (isi a T), false)
  | none => .st
def fIsi2 (T U : String) (f : EF) : EF := fun ρ => (f ρ).bind fun x => match tyD x.1 with
  | some a => .ok (.bl (isi a T || isi a U), false)
  | none => .st
theorem kit_all : (["NoneType", "bool", "int", "str", "tuple", "list", "dict"].all fun a => ["bool", "int", "str", "tuple", "list", "dict"].all fun b => decide (kitB a b = some (isi a b))) = true := by decide +kernel
theorem kit_isi {a b : String} (ha : a ∈ ["NoneType", "bool", "int", "str", "tuple", "list", "dict"]) (hb : b ∈ ["bool", "int", "str", "tuple", "list", "dict"]) : kitB a b = some (isi a b) := by
  have h := kit_all
  rw [List.all_eq_true] at h
  have h2 := h a ha
  rw [List.all_eq_true] at h2
  exact of_decide_eq_true (h2 b hb)
theorem tyD_mem {d : D} {a : String} (h : tyD d = some a) : a ∈ ["NoneType", "bool", "int", "str", "tuple", "list", "dict"] := by
  cases d <;> simp [tyD] at h <;> subst h <;> simp
theorem tyx_of {K : PySem.W.Frag} {F H : Hp} {x : V} {d : D} {a : String} (s : Sb F H) (r : Rp K F x d) (h : tyD d = some a) : TyX K H x (.type a) := by
  cases r with
  | non => cases h; exact .base .non
  | bl b => cases h; exact .base (.bl b)
  | int b => cases h; exact .base (.int b)
  | str b => cases h; exact .base (.str b)
  | tup h1 _ => cases h; exact .base (.tup (s _ _ h1))
  | lst h1 _ => cases h; exact .base (.lst (s _ _ h1))
  | dicK h1 _ => cases h
  | dicT h1 _ => cases h
  | kin hc h1 => cases h
  | scr h1 =>
    cases h
    rcases h1 with (h1 | ⟨o, h1⟩) | ⟨o, its, n, h1, h2, _⟩
    · exact .base (.lst (s _ _ h1))
    · exact .base (.frz (s _ _ h1))
    · exact .kList h1 h2
section
variable {X : Cx} {E : XE} {pos p q q2 : Pos} {a : Expr} {fa : EF} {T U : Str} {Ts Us : String}
theorem px_isi (Ts : String) (hm : X.mg "isinstance" = none) (hmT : X.mg T = none) (hT : bootBuiltins T = some (.type Ts)) (hb : Ts ∈ ["bool", "int", "str", "tuple", "list", "dict"]) (ha : PX X E a fa) (hg : Gl X "isinstance" := by rfl) (hgT : Gl X T := by rfl)
    (hnT : T ≠ "__name__" := by decide) (hdT : (T == ("__debug__" : Str)) = false := by decide)
    (h1 : starEach [a, .Name T q] X.env = (false, eval a X.env) :: starEach [.Name T q] X.env := by rfl) (h2 : starEach [.Name T q] X.env = (false, eval (.Name T q) X.env) :: starEach [] X.env := by rfl) (hpl : (backTo pos (starEach [.Name T q] X.env)).any (·.1) = false := by rfl) :
    PX X E (.Call (.Name "isinstance" p) [a, .Name T q] [] pos) (fIsi Ts fa) := by
  refine ⟨fun pins s σ H Q I h => (pe_callB call_isi hg hm (by decide +kernel) (pa_cons ha (pa_cons (pe_bltn (v := .ty Ts) hgT hmT hT rfl hnT hdT) pa_nil h2) h1) (by decide) (by decide) h1 hpl).run pins s σ H Q I ?_⟩
  obtain ⟨F0, H0, F, ρ, S, h⟩ := h
  refine tE_bind S h fun d f x F1 H1 x1 S1 r1 h1 => ?_
  split at h1
  · rename_i b e
    exact ⟨x, .ty Ts, .type b, .type Ts, _, rfl, .ty Ts, tyx_of S1.sub r1 e, kit_ty (kit_isi (tyD_mem e) hb), h1.here S1.sub (.bl _)⟩
  · exact h1.elim
theorem px_isi2 (Ts Us : String) {k : Nat} {pt : Pos} (hm : X.mg "isinstance" = none) (hmT : X.mg T = none) (hmU : X.mg U = none) (hT : bootBuiltins T = some (.type Ts)) (hU : bootBuiltins U = some (.type Us)) (hb : Ts ∈ ["bool", "int", "str", "tuple", "list", "dict"]) (hb2 : Us ∈ ["bool", "int", "str", "tuple", "list", "dict"]) (ha : PX X E a fa)
    (hg : Gl X "isinstance" := by rfl) (hgT : Gl X T := by rfl) (hgU : Gl X U := by rfl) (hnT : T ≠ "__name__" := by decide) (hdT : (T == ("__debug__" : Str)) = false := by decide) (hnU : U ≠ "__name__" := by decide) (hdU : (U == ("__debug__" : Str)) = false := by decide)
    (h1 : starEach [a, .Tuple [.Name T q, .Name U q2] k pt] X.env = (false, eval a X.env) :: starEach [.Tuple [.Name T q, .Name U q2] k pt] X.env := by rfl)
    (h2 : starEach [.Tuple [.Name T q, .Name U q2] k pt] X.env = (false, eval (.Tuple [.Name T q, .Name U q2] k pt) X.env) :: starEach [] X.env := by rfl)
    (h3 : starEach [.Name T q, .Name U q2] X.env = (false, eval (.Name T q) X.env) :: starEach [.Name U q2] X.env := by rfl) (h4 : starEach [.Name U q2] X.env = (false, eval (.Name U q2) X.env) :: starEach [] X.env := by rfl)
    (hpl : (backTo pos (starEach [.Tuple [.Name T q, .Name U q2] k pt] X.env)).any (·.1) = false := by rfl) :
    PX X E (.Call (.Name "isinstance" p) [a, .Tuple [.Name T q, .Name U q2] k pt] [] pos) (fIsi2 Ts Us fa) := by
  refine ⟨fun pins s σ H Q I h => (pe_callB call_isiT hg hm (by decide +kernel) (pa_cons ha (pa_cons (pe_tup (pa_cons (pe_bltn (v := .ty Ts) hgT hmT hT rfl hnT hdT) (pa_cons (pe_bltn (v := .ty Us) hgU hmU hU rfl hnU hdU) pa_nil h4) h3)) pa_nil h2) h1) (by decide) (by decide) h1 hpl).run pins s σ H Q I ?_⟩
  obtain ⟨F0, H0, F, ρ, S, h⟩ := h
  refine tE_bind S h fun d f x F1 H1 x1 S1 r1 h1 => ?_
  split at h1
  · rename_i b e
    refine ⟨by show 2 ≤ sizeLine; decide, fun tp htp => ?_⟩
    have s2 : Sb F1 (upd H1 tp (.tup [.ty Ts, .ty Us])) := fun b o q => by rw [upd_ne (ne_of_none (S1.sub b o q) htp)]; exact S1.sub b o q
    refine ⟨x, tp, _, .type b, [.type Ts, .type Us], isi b Ts || isi b Us, rfl, upd_same, .cons (.ty Ts) (.cons (.ty Us) .nil), tyx_of s2 r1 e, ?_, ?_⟩
    · refine kitAny_cons (kit_ty (kit_isi (tyD_mem e) hb)) (fun q => ?_) fun q => by rw [q]; rfl
      refine kitAny_cons (kit_ty (kit_isi (tyD_mem e) hb2)) (fun q2 => ?_) fun q2 => by rw [q2, Bool.or_true]
      rw [q, q2]
      exact kitAny_nil
    · exact h1 (.bl _) F1 _ (.upd S1.sub htp) (.bl _)
  · exact h1.elim
end
end Pd

/-! Pd5: what loops and comprehensions walk; comprehensions. -/
namespace Pd
open PySem PySem.Spec PyProof.Rows L2

section
variable {K : PySem.W.Frag} {F1 : Hp}
theorem wd_list {a : Addr} {vs : List V} {ds : List D} (h : F1 a = some (.lst vs)) (r : RpL K F1 vs ds) : WalkD K (Itl K a) ds F1 where
  go := fun i F H s1 s2 hi => by
    have hl := r.length
    exact ⟨vs, vs[i]'(by omega), .of (s2 _ _ (s1 _ _ h)), by simp⟩
  yld := fun i F H x H' s1 s2 hi y => by
    obtain ⟨rfl, y⟩ := y
    have e := y vs (.of (s2 _ _ (s1 _ _ h)))
    obtain ⟨d, e2, r2⟩ := r.getV e
    exact ⟨d, F, e2, .refl s2, r2.mono s1⟩
  stop := fun i F H s1 s2 hi => ⟨vs, .of (s2 _ _ (s1 _ _ h)), by rw [r.length]; exact hi⟩
theorem wd_tup {a : Addr} {vs : List V} {ds : List D} (h : F1 a = some (.tup vs)) (r : RpL K F1 vs ds) : WalkD K (Itt K a) ds F1 where
  go := fun i F H s1 s2 hi => by
    have hl := r.length
    exact ⟨vs, vs[i]'(by omega), .of (s2 _ _ (s1 _ _ h)), by simp⟩
  yld := fun i F H x H' s1 s2 hi y => by
    obtain ⟨rfl, y⟩ := y
    have e := y vs (.of (s2 _ _ (s1 _ _ h)))
    obtain ⟨d, e2, r2⟩ := r.getV e
    exact ⟨d, F, e2, .refl s2, r2.mono s1⟩
  stop := fun i F H s1 s2 hi => ⟨vs, .of (s2 _ _ (s1 _ _ h)), by rw [r.length]; exact hi⟩
/-- lo, lo + c, .. -/
def rngD (lo c : Int) (n : Nat) : List D := (List.range n).map fun i => .int (lo + (i : Nat) * c)
theorem wd_range {lo : Int} {n : Nat} : WalkD K (Itr lo n) (rngD lo 1 n) F1 where
  go := fun i F H _ _ hi => by show i < n; simpa [rngD] using hi
  yld := fun i F H x H' _ s2 hi y => by
    obtain ⟨rfl, rfl⟩ := y
    have hi' : i < n := by simpa [rngD] using hi
    exact ⟨.int (lo + i), F, by simp [rngD, hi', List.getElem?_range], .refl s2, .int _⟩
  stop := fun i F H _ _ hi => by show n ≤ i; simpa [rngD] using hi
theorem wd_rangeC {lo c : Int} {n : Nat} : WalkD K (Itc lo c n) (rngD lo c n) F1 where
  go := fun i F H _ _ hi => by show i < n; simpa [rngD] using hi
  yld := fun i F H x H' _ s2 hi y => by
    obtain ⟨rfl, rfl⟩ := y
    have hi' : i < n := by simpa [rngD] using hi
    exact ⟨.int (lo + i * c), F, by simp [rngD, hi', List.getElem?_range], .refl s2, .int _⟩
  stop := fun i F H _ _ hi => by show n ≤ i; simpa [rngD] using hi
/-- the signs of a text -/
def sgnD (z : Str) : List D := z.cps.toList.map fun c => .str ⟨#[c]⟩
theorem wd_str {z : Str} : WalkD K (Its z) (sgnD z) F1 where
  go := fun i F H _ _ hi => by show i < z.cps.size; simpa [sgnD] using hi
  yld := fun i F H x H' _ s2 hi y => by
    obtain ⟨rfl, c, e, rfl⟩ := y
    refine ⟨.str ⟨#[c]⟩, F, ?_, .refl s2, .str _⟩
    unfold sgnD
    rw [List.getElem?_map, Array.getElem?_toList, e]
    rfl
  stop := fun i F H _ _ hi => by show z.cps.size ≤ i; simpa [sgnD] using hi
/-- a new pair at T -/
theorem fr_pair {F H : Hp} {T : Addr} {o : HO} (s : Sb F H) (hT : H T = none) : Fr F H (upd F T o) (upd H T o) := by
  have hF := none_of_sb s hT
  refine ⟨sb_upd hF, fun a u e => ?_, fun a u e => by rw [upd_ne (ne_of_none e hT)]; exact e, fun a u e => ?_⟩
  · by_cases ha : a = T
    · subst ha; rw [upd_same] at e ⊢; exact e
    · rw [upd_ne ha] at e ⊢; exact s a u e
  · by_cases ha : a = T
    · subst ha; exact .inr (.inl hT)
    · rw [upd_ne ha] at e; exact .inl e
/-- (0, x), (1, y), .. -/
def enumD : Nat → List D → List D
  | _, [] => []
  | i, d :: ds => .tup [.int i, d] :: enumD (i + 1) ds
theorem enumD_len : ∀ (i : Nat) (ds : List D), (enumD i ds).length = ds.length
  | _, [] => rfl
  | i, _ :: ds => by simp [enumD, enumD_len (i + 1) ds]
theorem enumD_get : ∀ (k i : Nat) (ds : List D), (enumD k ds)[i]? = ds[i]?.map fun d => .tup [.int ((k + i : Nat) : Int), d]
  | _, _, [] => by simp [enumD]
  | k, 0, d :: ds => by simp [enumD]
  | k, i + 1, d :: ds => by
    simp only [enumD, List.getElem?_cons_succ]
    rw [enumD_get (k + 1) i ds]
    have : k + 1 + i = k + (i + 1) := by omega
    rw [this]
theorem wd_enum {a : Addr} {vs : List V} {ds : List D} (h : F1 a = some (.lst vs)) (r : RpL K F1 vs ds) : WalkD K (Ite K a) (enumD 0 ds) F1 where
  go := fun i F H s1 s2 hi => by
    have hl := r.length
    rw [enumD_len] at hi
    exact ⟨vs, vs[i]'(by omega), .of (s2 _ _ (s1 _ _ h)), by simp⟩
  yld := fun i F H x H' s1 s2 hi y => by
    obtain ⟨T, v, rfl, hT, rfl, y⟩ := y
    have e := y vs (.of (s2 _ _ (s1 _ _ h)))
    obtain ⟨d, e2, r2⟩ := r.getV e
    have hF := none_of_sb s2 hT
    refine ⟨.tup [.int i, d], upd F T (.tup [.int (i : Nat), v]), ?_, fr_pair s2 hT, .tup upd_same (.cons (.int _) (.cons ((r2.mono s1).mono (sb_upd hF)) .nil))⟩
    rw [enumD_get, e2]
    simp
  stop := fun i F H s1 s2 hi => ⟨vs, .of (s2 _ _ (s1 _ _ h)), by rw [r.length]; rw [enumD_len] at hi; exact hi⟩
def zipD : List D → List D → List D
  | x :: xs, y :: ys => .tup [x, y] :: zipD xs ys
  | _, _ => []
theorem zipD_len : ∀ (xs ys : List D), (zipD xs ys).length = min xs.length ys.length
  | [], _ => by simp [zipD]
  | _ :: _, [] => by simp [zipD]
  | x :: xs, y :: ys => by simp only [zipD, List.length_cons, zipD_len xs ys]; omega
theorem zipD_get : ∀ (i : Nat) (xs ys : List D) (x y : D), xs[i]? = some x → ys[i]? = some y → (zipD xs ys)[i]? = some (.tup [x, y])
  | _, [], _, _, _, h, _ => by simp at h
  | _, _ :: _, [], _, _, _, h => by simp at h
  | 0, x :: xs, y :: ys, _, _, h, h' => by simp at h h'; subst h h'; rfl
  | i + 1, x :: xs, y :: ys, _, _, h, h' => by simpa [zipD] using zipD_get i xs ys _ _ (by simpa using h) (by simpa using h')
theorem wd_zip {a b : Addr} {vs ws : List V} {ds es : List D} (h : F1 a = some (.lst vs)) (r : RpL K F1 vs ds) (h' : F1 b = some (.lst ws)) (r' : RpL K F1 ws es) : WalkD K (Itz K a b) (zipD ds es) F1 where
  go := fun i F H s1 s2 hi => by
    have hl := r.length
    have hl' := r'.length
    rw [zipD_len] at hi
    exact ⟨vs, ws, vs[i]'(by omega), ws[i]'(by omega), .of (s2 _ _ (s1 _ _ h)), .of (s2 _ _ (s1 _ _ h')), by simp, by simp⟩
  yld := fun i F H x H' s1 s2 hi y => by
    obtain ⟨T, v, w, rfl, hT, rfl, y, y'⟩ := y
    obtain ⟨d, e2, r2⟩ := r.getV (y vs (.of (s2 _ _ (s1 _ _ h))))
    obtain ⟨d', e2', r2'⟩ := r'.getV (y' ws (.of (s2 _ _ (s1 _ _ h'))))
    have hF := none_of_sb s2 hT
    exact ⟨_, upd F T (.tup [v, w]), zipD_get i _ _ _ _ e2 e2', fr_pair s2 hT, .tup upd_same (.cons ((r2.mono s1).mono (sb_upd hF)) (.cons ((r2'.mono s1).mono (sb_upd hF)) .nil))⟩
  stop := fun i F H s1 s2 hi => ⟨vs, ws, .of (s2 _ _ (s1 _ _ h)), .of (s2 _ _ (s1 _ _ h')), by rw [r.length, r'.length]; rw [zipD_len] at hi; omega⟩
theorem wd_zipT {a b : Addr} {vs ws : List V} {ds es : List D} (h : F1 a = some (.tup vs)) (r : RpL K F1 vs ds) (h' : F1 b = some (.tup ws)) (r' : RpL K F1 ws es) : WalkD K (RZ.ItzT K a b) (zipD ds es) F1 where
  go := fun i F H s1 s2 hi => by
    have hl := r.length
    have hl' := r'.length
    rw [zipD_len] at hi
    exact ⟨vs, ws, vs[i]'(by omega), ws[i]'(by omega), .of (s2 _ _ (s1 _ _ h)), .of (s2 _ _ (s1 _ _ h')), by simp, by simp⟩
  yld := fun i F H x H' s1 s2 hi y => by
    obtain ⟨T, v, w, rfl, hT, rfl, y, y'⟩ := y
    obtain ⟨d, e2, r2⟩ := r.getV (y vs (.of (s2 _ _ (s1 _ _ h))))
    obtain ⟨d', e2', r2'⟩ := r'.getV (y' ws (.of (s2 _ _ (s1 _ _ h'))))
    have hF := none_of_sb s2 hT
    exact ⟨_, upd F T (.tup [v, w]), zipD_get i _ _ _ _ e2 e2', fr_pair s2 hT, .tup upd_same (.cons ((r2.mono s1).mono (sb_upd hF)) (.cons ((r2'.mono s1).mono (sb_upd hF)) .nil))⟩
  stop := fun i F H s1 s2 hi => ⟨vs, ws, .of (s2 _ _ (s1 _ _ h)), .of (s2 _ _ (s1 _ _ h')), by rw [r.length, r'.length]; rw [zipD_len] at hi; omega⟩
end

/-! ### what is walked, as a function -/
def seqL : D → R (List D)
  | .lst xs => .ok xs
  | _ => .st
def seqT : D → R (List D)
  | .tup xs => .ok xs
  | _ => .st
def seqS : D → R (List D)
  | .str z => .ok (sgnD z)
  | _ => .st
def fIt (k : D → R (List D)) (f : EF) : Env → R (List D) := fun ρ => (f ρ).bind fun x => k x.1
section
variable {K : PySem.W.Frag} {F0 H0 F H : Hp} {σ : L2.St} {ρ : Env} {E : XE}
def PostI (K : PySem.W.Frag) (F H : Hp) (E : XE) (r : R (List D)) (Q : It → Hp → Prop) : Prop := match r with
  | .ok ds => ∀ J F1 H1, Fr F H F1 H1 → WalkD K J ds F1 → Q J H1
  | .ex c => ∀ H', Sb H H' → E c H'
  | .st => False
theorem PostI.step {F' H' : Hp} {r : R (List D)} {Q : It → Hp → Prop} (h : PostI K F H E r Q) (x : Fr F H F' H') : PostI K F' H' E r Q := by
  cases r with
  | ok ds => exact fun J F1 H1 y w => h J F1 H1 (x.trans y) w
  | ex c => exact fun H2 y => h H2 (x.kp.trans y)
  | st => exact h
theorem tE_bindI {fa : EF} {k : D × Bool → R (List D)} {Q : It → Hp → Prop} {Q' : VK} (S : StOk K F0 H0 F H σ ρ) (h : PostI K F H E ((fa ρ).bind k) Q)
    (hk : ∀ d f x F1 H1, Fr F H F1 H1 → StOk K F0 H0 F1 H1 σ ρ → Rp K F1 x d → PostI K F1 H1 E (k (d, f)) Q → Q' x H1) : tE K E fa σ H Q' := by
  refine ⟨F0, H0, F, ρ, S, ?_⟩
  cases e : fa ρ with
  | ok a =>
    rw [e] at h
    obtain ⟨d, f⟩ := a
    intro v F1 H1 x1 hh
    obtain ⟨F2, x2, r⟩ := held_share x1 hh
    exact hk d f v F2 H1 x2 (S.step x2) r (PostI.step h x2)
  | ex c => rw [e] at h; exact h
  | st => rw [e] at h; exact h
theorem tA_bindI {fa : Env → R (List D)} {k : List D → R (List D)} {Q : It → Hp → Prop} {Q' : List V → Hp → Prop} (S : StOk K F0 H0 F H σ ρ) (h : PostI K F H E ((fa ρ).bind k) Q)
    (hk : ∀ ds xs F1 H1, Fr F H F1 H1 → StOk K F0 H0 F1 H1 σ ρ → RpL K F1 xs ds → PostI K F1 H1 E (k ds) Q → Q' xs H1) : tA K E fa σ H Q' := by
  refine ⟨F0, H0, F, ρ, S, ?_⟩
  cases e : fa ρ with
  | ok a => rw [e] at h; exact fun v F1 H1 x1 r => hk a v F1 H1 x1 (S.step x1) r (PostI.step h x1)
  | ex c => rw [e] at h; exact h
  | st => rw [e] at h; exact h
end
section
variable {X : Cx} {E : XE} {tg e : Expr} {fe : EF} {p pos tpos : Pos} {es elts : List Expr} {n kk : Nat} {fa : Env → R (List D)}
theorem pi_tE {wi : TI} {fi : Env → R (List D)} (h : PI X tg e wi) (k : ∀ σ H Q, tI X.K E fi σ H Q → wi σ H Q) : PIx X E tg e fi := ⟨fun pins s σ H R I hw => h.run pins s σ H R I (k σ H R hw)⟩
theorem pix_list (he : PX X E e fe) : PIx X E tg e (fIt seqL fe) := pi_tE (pi_list he) fun σ H Q ⟨F0, H0, F, ρ, S, h⟩ => by
  have h : PostI X.K F H E ((fe ρ).bind fun x => seqL x.1) Q := h
  refine tE_bindI S h fun d f x F1 H1 x1 S1 r1 h1 => ?_
  cases d with
  | lst ds => cases r1 with | lst g1 q1 => exact ⟨_, rfl, ⟨_, .of (S1.sub _ _ g1)⟩, h1 _ F1 H1 (.refl S1.sub) (wd_list g1 q1)⟩
  | _ => exact h1.elim
theorem pix_tup (he : PX X E e fe) : PIx X E tg e (fIt seqT fe) := pi_tE (pi_tup he) fun σ H Q ⟨F0, H0, F, ρ, S, h⟩ => by
  have h : PostI X.K F H E ((fe ρ).bind fun x => seqT x.1) Q := h
  refine tE_bindI S h fun d f x F1 H1 x1 S1 r1 h1 => ?_
  cases d with
  | tup ds => cases r1 with | tup g1 q1 => exact ⟨_, rfl, ⟨_, .of (S1.sub _ _ g1)⟩, h1 _ F1 H1 (.refl S1.sub) (wd_tup g1 q1)⟩
  | _ => exact h1.elim
theorem pix_str (he : PX X E e fe) : PIx X E tg e (fIt seqS fe) := pi_tE (pi_str he) fun σ H Q ⟨F0, H0, F, ρ, S, h⟩ => by
  have h : PostI X.K F H E ((fe ρ).bind fun x => seqS x.1) Q := h
  refine tE_bindI S h fun d f x F1 H1 x1 S1 r1 h1 => ?_
  cases d with
  | str z => cases r1; exact ⟨z, rfl, h1 _ F1 H1 (.refl S1.sub) wd_str⟩
  | _ => exact h1.elim
def RB : Int := 4611686018427387904
theorem RB_eq : RB = 2 ^ 62 := by decide
def gR1 : List D → R (List D)
  | [.int j] => if -RB ≤ j ∧ j < RB then .ok (rngD 0 1 j.toNat) else .st
  | _ => .st
def gR2 : List D → R (List D)
  | [.int i, .int j] => if (-RB ≤ i ∧ i < RB) ∧ -RB ≤ j ∧ j < RB then .ok (rngD i 1 (j - i).toNat) else .st
  | _ => .st
/-- range(i, j, -1) -/
def gR3 : List D → R (List D)
  | [.int i, .int j, .int c] => if (-RB ≤ i ∧ i < RB) ∧ (-RB ≤ j ∧ j < RB) ∧ c = -1 then .ok (rngD i (-1) (i - j).toNat) else .st
  | _ => .st
theorem pix_range1 {a : Expr} (hm : X.mg "range" = none) (ha : PLs X E [a] n fa) (hg : Gl X "range" := by rfl) (hs : starEach [a] X.env = [(false, eval a X.env)] := by rfl) : PIx X E tg (.Call (.Name "range" p) [a] [] pos) (fun ρ => (fa ρ).bind gR1) :=
  pi_tE (pi_range1 hg hm ha.run hs) fun σ H Q ⟨F0, H0, F, ρ, S, h⟩ => by
  have h : PostI X.K F H E ((fa ρ).bind gR1) Q := h
  refine tA_bindI S h fun ds xs F1 H1 x1 S1 r1 h1 => ?_
  unfold gR1 at h1
  split at h1
  · obtain ⟨x, rfl, rx⟩ := rpl1 r1
    rw [int_of rx]
    split at h1
    · rename_i c
      rw [RB_eq] at c
      exact ⟨_, rfl, c.1, c.2, h1 _ F1 H1 (.refl S1.sub) wd_range⟩
    · exact h1.elim
  · exact h1.elim
theorem pix_range2 {a b : Expr} (hm : X.mg "range" = none) (ha : PLs X E [a, b] n fa) (hg : Gl X "range" := by rfl) (hs : starEach [a, b] X.env = [(false, eval a X.env), (false, eval b X.env)] := by rfl) (hs2 : starEach [b] X.env = [(false, eval b X.env)] := by rfl) :
    PIx X E tg (.Call (.Name "range" p) [a, b] [] pos) (fun ρ => (fa ρ).bind gR2) := pi_tE (pi_range2 hg hm ha.run hs hs2) fun σ H Q ⟨F0, H0, F, ρ, S, h⟩ => by
  have h : PostI X.K F H E ((fa ρ).bind gR2) Q := h
  refine tA_bindI S h fun ds xs F1 H1 x1 S1 r1 h1 => ?_
  unfold gR2 at h1
  split at h1
  · obtain ⟨x, y, rfl, rx, ry⟩ := rpl2 r1
    rw [int_of rx, int_of ry]
    split at h1
    · rename_i c
      rw [RB_eq] at c
      exact ⟨_, _, rfl, ⟨c.1.1, c.1.2, c.2.1, c.2.2⟩, h1 _ F1 H1 (.refl S1.sub) wd_range⟩
    · exact h1.elim
  · exact h1.elim
theorem pix_range3 {a b c : Expr} (hm : X.mg "range" = none) (ha : PLs X E [a, b, c] n fa) (hg : Gl X "range" := by rfl)
    (hs : starEach [a, b, c] X.env = (false, eval a X.env) :: starEach [b, c] X.env := by rfl) (hpl : (backTo pos (starEach [b, c] X.env)).any (·.1) = false := by rfl) :
    PIx X E tg (.Call (.Name "range" p) [a, b, c] [] pos) (fun ρ => (fa ρ).bind gR3) := pi_tE (pi_range3 hg hm ha.run hs hpl) fun σ H Q ⟨F0, H0, F, ρ, S, h⟩ => by
  have h : PostI X.K F H E ((fa ρ).bind gR3) Q := h
  refine tA_bindI S h fun ds xs F1 H1 x1 S1 r1 h1 => ?_
  unfold gR3 at h1
  split at h1
  · cases r1 with
    | cons rx r1 =>
      obtain ⟨y, z, rfl, ry, rz⟩ := rpl2 r1
      rw [int_of rx, int_of ry, int_of rz]
      split at h1
      · rename_i c
        rw [RB_eq] at c
        obtain ⟨c1, c2, rfl⟩ := c
        exact ⟨_, _, _, _, rfl, RgC.neg c1.1 c1.2 c2.1 c2.2, h1 _ F1 H1 (.refl S1.sub) wd_rangeC⟩
      · exact h1.elim
  · exact h1.elim
def gEnum : List D → R (List D)
  | [.lst xs] => .ok (enumD 0 xs)
  | _ => .st
theorem pix_enum (hm : X.mg "enumerate" = none) (ha : PLs X E [e] n fa) (hg : Gl X "enumerate" := by rfl) (hs : starEach [e] X.env = [(false, eval e X.env)] := by rfl) :
    PIx X E (.Tuple elts kk tpos) (.Call (.Name "enumerate" p) [e] [] pos) (fun ρ => (fa ρ).bind gEnum) := pi_tE (pi_enum hg hm ha.run hs) fun σ H Q ⟨F0, H0, F, ρ, S, h⟩ => by
  have h : PostI X.K F H E ((fa ρ).bind gEnum) Q := h
  refine tA_bindI S h fun ds xs F1 H1 x1 S1 r1 h1 => ?_
  unfold gEnum at h1
  split at h1
  · obtain ⟨x, rfl, rx⟩ := rpl1 r1
    cases rx with | lst g1 q1 => exact ⟨_, _, rfl, .of (S1.sub _ _ g1), h1 _ F1 H1 (.refl S1.sub) (wd_enum g1 q1)⟩
  · exact h1.elim
def gZip : List D → R (List D)
  | [.lst xs, .lst ys] => .ok (zipD xs ys)
  | [.tup xs, .tup ys] => .ok (zipD xs ys)
  | _ => .st
theorem pix_zip {e2 : Expr} (hm : X.mg "zip" = none) (ha : PLs X E [e, e2] n fa) (hg : Gl X "zip" := by rfl) (hs : starEach [e, e2] X.env = (false, eval e X.env) :: starEach [e2] X.env := by rfl) (hpl : (backTo pos (starEach [e2] X.env)).any (·.1) = false := by rfl) :
    PIx X E (.Tuple elts kk tpos) (.Call (.Name "zip" p) [e, e2] [] pos) (fun ρ => (fa ρ).bind gZip) := pi_tE (RZ.pi_zipA hg hm ha.run hs hpl) fun σ H Q ⟨F0, H0, F, ρ, S, h⟩ => by
  have h : PostI X.K F H E ((fa ρ).bind gZip) Q := h
  refine tA_bindI S h fun ds xs F1 H1 x1 S1 r1 h1 => ?_
  unfold gZip at h1
  split at h1
  · obtain ⟨x, y, rfl, rx, ry⟩ := rpl2 r1
    cases rx with | lst g1 q1 => cases ry with | lst g2 q2 => exact ⟨_, _, _, _, rfl, .inl ⟨.of (S1.sub _ _ g1), .of (S1.sub _ _ g2), h1 _ F1 H1 (.refl S1.sub) (wd_zip g1 q1 g2 q2)⟩⟩
  · obtain ⟨x, y, rfl, rx, ry⟩ := rpl2 r1
    cases rx with | tup g1 q1 => cases ry with | tup g2 q2 => exact ⟨_, _, _, _, rfl, .inr ⟨.of (S1.sub _ _ g1), .of (S1.sub _ _ g2), h1 _ F1 H1 (.refl S1.sub) (wd_zipT g1 q1 g2 q2)⟩⟩
  · exact h1.elim
/-- a list, a tuple or a text, whichever it is -/
def iAny (K : PySem.W.Frag) (te : TE) : TI := fun σ H R => te σ H fun x H1 => (∃ a xs, x = .ref a ∧ SqL K H1 a xs ∧ R (Itl K a) H1) ∨ (∃ a xs, x = .ref a ∧ SqT K H1 a xs ∧ R (Itt K a) H1) ∨ ∃ z, x = .str z ∧ R (Its z) H1
theorem pi_any {te : TE} (he : PE X e te) : PI X tg e (iAny X.K te) := by
  refine ⟨fun pins s σ H R I h => thn (he.run pins s σ H _ I h) fun v s1 ⟨x, H1, I1, r1, q1⟩ => ?_⟩
  rcases q1 with ⟨a, xs, rfl, hq, q⟩ | ⟨a, xs, rfl, hq, q⟩ | ⟨z, rfl, q⟩
  · cases r1
    obtain ⟨its, rv, pl, _⟩ := I1.list hq
    exact wpAny_pyIter_list pl.isList (pi_one (tk := s1.toks) I1 _ (turn_list a _) ⟨_, Heap.get?_push_size _ rfl, rfl, rfl⟩ q)
  · cases r1
    obtain ⟨its, rv, pl, _⟩ := I1.tuple hq
    exact wpAny_pyIter_tuple (show s1.heap.IsTuple a its.toArray from pl) (pi_one (tk := s1.toks) I1 _ (turn_tuple a _) ⟨_, Heap.get?_push_size _ rfl, rfl, rfl⟩ q)
  · obtain ⟨t, rfl⟩ := r1
    by_cases hw : z.cps.all (· < 128) = true
    · exact wpAny_pyIter_ascii hw (pi_one (tk := s1.toks) I1 _ (turn_str _ z t _ (.inl rfl)) ⟨_, Heap.get?_push_size _ rfl, rfl, rfl⟩ q)
    · exact wpAny_pyIter_wide (by simpa using hw) (pi_one (tk := s1.toks) I1 _ (turn_str _ z t _ (.inr rfl)) ⟨_, Heap.get?_push_size _ rfl, rfl, rfl⟩ q)
def seqA : D → R (List D)
  | .lst xs => .ok xs
  | .tup xs => .ok xs
  | .str z => .ok (sgnD z)
  | _ => .st
theorem pix_any (he : PX X E e fe) : PIx X E tg e (fIt seqA fe) := pi_tE (pi_any he) fun σ H Q ⟨F0, H0, F, ρ, S, h⟩ => by
  have h : PostI X.K F H E ((fe ρ).bind fun x => seqA x.1) Q := h
  refine tE_bindI S h fun d f x F1 H1 x1 S1 r1 h1 => ?_
  cases d with
  | lst ds => cases r1 with | lst g1 q1 => exact .inl ⟨_, _, rfl, .of (S1.sub _ _ g1), h1 _ F1 H1 (.refl S1.sub) (wd_list g1 q1)⟩
  | tup ds => cases r1 with | tup g1 q1 => exact .inr (.inl ⟨_, _, rfl, .of (S1.sub _ _ g1), h1 _ F1 H1 (.refl S1.sub) (wd_tup g1 q1)⟩)
  | str z => cases r1; exact .inr (.inr ⟨z, rfl, h1 _ F1 H1 (.refl S1.sub) wd_str⟩)
  | _ => exact h1.elim
end

/-! ### comprehensions -/
def wipeE (ρ : Env) : List Nat → Env
  | [] => ρ
  | v :: vs => (wipeE ρ vs).set v none
/-- the items that are made -/
def lcL (g : D → Env → Option Env) (ft : Env → R Bool) (fe : EF) (ρ : Env) : List D → R (List D)
  | [] => .ok []
  | d :: ds => match g d ρ with
    | some ρ1 => (match ft ρ1 with
      | .ok true => (match fe ρ1 with
        | .ok x => (match lcL g ft fe ρ ds with
          | .ok l => .ok (x.1 :: l)
          | .ex _ => .st
          | .st => .st)
        | .ex _ => .st
        | .st => .st)
      | .ok false => lcL g ft fe ρ ds
      | .ex _ => .st
      | .st => .st)
    | none => .st
def fLc (fi : Env → R (List D)) (g : D → Env → Option Env) (ft : Env → R Bool) (fe : EF) (vs : List Nat) : EF := fun ρ => match fi ρ with
  | .ok ds => (match lcL g ft fe (wipeE ρ vs) ds with
    | .ok l => if l.length ≤ CAP then .ok (.lst l, true) else .st
    | .ex _ => .st
    | .st => .st)
  | .ex c => .ex c
  | .st => .st
/-- two clauses -/
def lc2L (g : D → Env → Option Env) (ft : Env → R Bool) (fi1 : Env → R (List D)) (g1 : D → Env → Option Env) (ft1 : Env → R Bool) (fe : EF) (vs1 : List Nat) (ρ : Env) : List D → R (List D)
  | [] => .ok []
  | d :: ds => match g d ρ with
    | some ρ1 => (match ft ρ1 with
      | .ok true => (match fi1 ρ1 with
        | .ok es => (match lcL g1 ft1 fe (wipeE ρ1 vs1) es with
          | .ok l1 => (match lc2L g ft fi1 g1 ft1 fe vs1 ρ ds with
            | .ok l => .ok (l1 ++ l)
            | .ex _ => .st
            | .st => .st)
          | .ex _ => .st
          | .st => .st)
        | .ex _ => .st
        | .st => .st)
      | .ok false => lc2L g ft fi1 g1 ft1 fe vs1 ρ ds
      | .ex _ => .st
      | .st => .st)
    | none => .st
def fLc2 (fi : Env → R (List D)) (g : D → Env → Option Env) (ft : Env → R Bool) (fi1 : Env → R (List D)) (g1 : D → Env → Option Env) (ft1 : Env → R Bool) (fe : EF) (vs vs1 : List Nat) : EF := fun ρ => match fi ρ with
  | .ok ds => (match lc2L g ft fi1 g1 ft1 fe vs1 (wipeE ρ vs) ds with
    | .ok l => if l.length ≤ CAP then .ok (.lst l, true) else .st
    | .ex _ => .st
    | .st => .st)
  | .ex c => .ex c
  | .st => .st
abbrev noE : XE := fun _ _ => False
/-- a comprehension's tests -/
def TtD (K : PySem.W.Frag) (tt : TT) (ft : Env → R Bool) : Prop := ∀ (F0 H0 F H : Hp) (σ : L2.St) (ρ : Env) (Q : Bool → Hp → Prop), StOk K F0 H0 F H σ ρ → PostB F H noE (ft ρ) Q → tt σ H Q
def fYes : Env → R Bool := fun _ => .ok true
theorem tt_yes {K : PySem.W.Frag} : TtD K tYes fYes := fun F0 H0 F H σ ρ Q S h => h F H (.refl S.sub)
theorem tt_one {K : PySem.W.Frag} {ft : Env → R Bool} : TtD K (tT K noE ft) ft := fun F0 H0 F H σ ρ Q S h => ⟨F0, H0, F, ρ, S, h⟩
/-- a target keeps to its own slots -/
def TgW (g : D → Env → Option Env) (t : TG) (vs : List Nat) : Prop := ∀ (v : V) (σ : L2.St) (H : Hp) (Q : L2.St → Hp → Prop), t v (wipe σ vs) H Q → t v (wipe σ vs) H fun σ2 H2 => wipe σ2 vs = wipe σ vs ∧ Q σ2 H2
theorem wipe_set_out {i : Nat} {x : Option V} : ∀ {vs : List Nat} {σ : L2.St}, i ∈ vs → wipe (σ.set i x) vs = wipe σ vs
  | v :: vs, σ, h => by
    simp only [wipe]
    by_cases e : i ∈ vs
    · rw [wipe_set_out e]
    · have hv : i = v := by rcases List.mem_cons.mp h with q | q; exact q; exact absurd q e
      subst hv
      have : ∀ (ws : List Nat), i ∉ ws → wipe (σ.set i x) ws = (wipe σ ws).set i x := by
        intro ws
        induction ws with
        | nil => intro _; rfl
        | cons w ws ih =>
          intro hn
          simp only [wipe]
          rw [ih (fun q => hn (List.mem_cons_of_mem _ q)), List.set_comm _ _ (fun q => hn (by rw [q]; exact List.mem_cons_self))]
      rw [this vs e, List.set_set]
theorem wipe_wipe : ∀ (vs ws : List Nat) (σ : L2.St), (∀ v ∈ vs, v ∈ ws) → wipe (wipe σ vs) ws = wipe σ ws
  | [], _, _, _ => rfl
  | v :: vs, ws, σ, h => by
    simp only [wipe]
    rw [wipe_set_out (h v List.mem_cons_self), wipe_wipe vs ws σ fun x hx => h x (List.mem_cons_of_mem _ hx)]
theorem tw_name {i : Nat} {vs : List Nat} (h : i ∈ vs) : TgW (gN i) (gName i) vs := fun v σ H Q q => ⟨by rw [wipe_set_out h, wipe_wipe _ _ _ fun _ x => x], q⟩
theorem tws_names {vs : List Nat} : ∀ (is : List Nat), (∀ i ∈ is, i ∈ vs) → ∀ (xs : List V) (σ : L2.St) (τ : L2.St) (H : Hp) (Q : L2.St → Hp → Prop), wipe τ vs = σ → gNT is xs τ H Q → gNT is xs τ H fun σ2 H2 => wipe σ2 vs = σ ∧ Q σ2 H2
  | [], _, xs, σ, τ, H, Q, e, q => ⟨q.1, e, q.2⟩
  | i :: is, h, xs, σ, τ, H, Q, e, q => by
    obtain ⟨v, r, ex, q⟩ := q
    exact ⟨v, r, ex, tws_names is (fun j hj => h j (List.mem_cons_of_mem _ hj)) r σ _ H Q (by rw [wipe_set_out (h i List.mem_cons_self)]; exact e) q⟩
theorem tw_tup {K : PySem.W.Frag} {is vs : List Nat} (h : ∀ i ∈ is, i ∈ vs) : TgW (gT is) (gTup K is.length (gNT is)) vs := fun v σ H Q q => by
  obtain ⟨a, xs, ev, hq, hl, q⟩ := q
  exact ⟨a, xs, ev, hq, hl, tws_names is h xs _ _ H Q (wipe_wipe _ _ _ fun _ x => x) q⟩
section
variable {K : PySem.W.Frag} {F0 H0 F H : Hp} {σ : L2.St} {ρ : Env}
theorem StOk.clear (S : StOk K F0 H0 F H σ ρ) (i : Nat) : StOk K F0 H0 F H (σ.set i none) (ρ.set i none) := by
  have q : ∀ {j : Nat} {x : D × Bool}, (ρ.set i none)[j]? = some (some x) → i ≠ j ∧ ρ[j]? = some (some x) := fun {j x} h => by
    by_cases hj : i = j
    · subst hj
      rcases Nat.lt_or_ge i ρ.length with c | c
      · rw [List.getElem?_set_self c] at h; cases h
      · rw [List.getElem?_eq_none (by simpa using c)] at h; cases h
    · rw [List.getElem?_set_ne hj] at h; exact ⟨hj, h⟩
  refine ⟨S.fr, by simpa using S.len, fun j d f h => ?_, fun j k d e a hjk h1 h2 h3 => ?_⟩
  · obtain ⟨n, h⟩ := q h
    obtain ⟨v, h1, h2⟩ := S.sl j d f h
    exact ⟨v, by rw [List.getElem?_set_ne n]; exact h1, h2⟩
  · obtain ⟨n1, h1⟩ := q h1
    obtain ⟨n2, h2⟩ := q h2
    rw [List.getElem?_set_ne n1] at h3
    rw [List.getElem?_set_ne n2]
    exact S.dj j k d e a hjk h1 h2 h3
theorem StOk.wipe (S : StOk K F0 H0 F H σ ρ) : ∀ vs : List Nat, StOk K F0 H0 F H (L2.wipe σ vs) (wipeE ρ vs)
  | [] => S
  | v :: vs => (StOk.wipe S vs).clear v
/-- an object that nobody holds is changed -/
theorem Fr.poke {F1 H1 : Hp} (x : Fr F H F1 H1) {p : Addr} {o : HO} (h1 : H p = none) (h2 : F1 p = none) : Fr F H F1 (L2.upd H1 p o) :=
  ⟨x.sF, fun a u e => by rw [upd_ne (ne_of_none e h2)]; exact x.sH a u e, fun a u e => by rw [upd_ne (ne_of_none e h1)]; exact x.kp a u e, x.nw⟩
/-- the heap without p -/
def less (H : Hp) (p : Addr) : Hp := fun a => if a = p then none else H a
theorem less_at {p : Addr} : less H p p = none := by unfold less; rw [if_pos rfl]
theorem less_fr {p : Addr} (s : Sb F H) (h : F p = none) : Sb F (less H p) ∧ Fr F (less H p) F H := by
  have s1 : Sb F (less H p) := fun a u e => by unfold less; rw [if_neg (ne_of_none e h)]; exact s a u e
  exact ⟨s1, .refl F, s, fun a u e => by unfold less at e; split at e; cases e; exact e, fun _ _ e => .inl e⟩
theorem StOk.less {p : Addr} {Fb Hb : Hp} (S : StOk K F0 H0 Fb Hb σ ρ) (x : Fr Fb Hb F H) (h1 : Hb p = none) (h2 : F p = none) : StOk K F0 H0 F (Pd.less H p) σ ρ := by
  refine S.step ⟨x.sF, (less_fr x.sH h2).1, fun a u e => ?_, x.nw⟩
  unfold Pd.less
  rw [if_neg (ne_of_none e h1)]
  exact x.kp a u e
/-- one loop of a comprehension: the items go to the list at p -/
theorem lc_loop {J : It} {ds out : List D} {g : D → Env → Option Env} {t : TG} {tt : TT} {ft : Env → R Bool} {fe : EF} {vs : List Nat} {te : TE} {Fb Hb F1 H1 : Hp} {p : Addr} {acc0 : List V} {accD0 : List D} {Fin : Hp → Prop} (hd : TgD K t g) (ho : TgW g t vs) (ht : TtD K tt ft)
    (he : ∀ σ H Q, tE K noE fe σ H Q → te σ H Q) (S : StOk K F0 H0 Fb Hb σ ρ) (hp : Hb p = none) (x1 : Fr Fb Hb F1 H1) (hF1 : F1 p = none) (hl1 : H1 p = some (.lst acc0)) (r1 : RpL K F1 acc0 accD0) (w : WalkD K J ds F1)
    (e : lcL g ft fe (wipeE ρ vs) ds = .ok out) (hn : accD0.length + out.length ≤ CAP) (fin : ∀ F H acc, Fr Fb Hb F H → Sb F1 F → F p = none → H p = some (.lst acc) → RpL K F acc (accD0 ++ out) → Fin H) :
    ∃ W : Nat → Nat → Hp → Prop, (∃ m, W 0 m H1) ∧ ∀ i m H, W i m H → (J.stop i H ∧ Fin H) ∨ (J.go i H ∧ ∃ Nx : Hp → Prop, (∀ H', Nx H' → ∃ m', m' < m ∧ W (i + 1) m' H') ∧
      ∀ x H', J.yld i H x H' → t x (L2.wipe σ vs) H' fun σ2 H2 => L2.wipe σ2 vs = L2.wipe σ vs ∧ tt σ2 H2 fun b H3 => if b = true then te σ2 H3 fun y H4 => ∃ acc, H4 p = some (.lst acc) ∧ acc.length < sizeLine ∧ Nx (upd H4 p (.lst (acc ++ [y]))) else Nx H3) := by
  refine ⟨fun i m H => m = ds.length - i ∧ i ≤ ds.length ∧ ∃ F acc accD tail, Fr Fb Hb F H ∧ Sb F1 F ∧ F p = none ∧ H p = some (.lst acc) ∧ RpL K F acc accD ∧ lcL g ft fe (wipeE ρ vs) (ds.drop i) = .ok tail ∧ accD0 ++ out = accD ++ tail,
    ⟨_, rfl, Nat.zero_le _, F1, acc0, accD0, out, x1, .refl _, hF1, hl1, r1, e, rfl⟩, ?_⟩
  rintro i m H2 ⟨rfl, hi2, F2, acc, accD, tail, x2, sF2, hD2, hl2, r2, e3, eo⟩
  have sH2 : Sb F2 H2 := x2.sH
  by_cases hlt : i < ds.length
  · refine .inr ⟨w.go i F2 H2 sF2 sH2 hlt, fun H' => ∃ F acc accD tail, Fr Fb Hb F H' ∧ Sb F1 F ∧ F p = none ∧ H' p = some (.lst acc) ∧ RpL K F acc accD ∧ lcL g ft fe (wipeE ρ vs) (ds.drop (i + 1)) = .ok tail ∧ accD0 ++ out = accD ++ tail,
      fun H' n => ⟨ds.length - (i + 1), by omega, rfl, hlt, n⟩, fun x H3 y => ?_⟩
    obtain ⟨d, F3, ed, x3, r3⟩ := w.yld i F2 H2 x H3 sF2 sH2 hlt y
    have edr : ds.drop i = d :: ds.drop (i + 1) := by
      obtain ⟨hl, rfl⟩ := List.getElem?_eq_some_iff.mp ed
      exact List.drop_eq_getElem_cons hl
    rw [edr, lcL] at e3
    have x13 := x2.trans x3
    have hD3 : F3 p = none := x3.free hD2 hl2 fun _ z => by cases z
    have hl3 : H3 p = some (.lst acc) := x3.kp _ _ hl2
    have S3 := (S.step x13).wipe vs
    cases e4 : g d (wipeE ρ vs) with
    | none => simp only [e4] at e3; cases e3
    | some ρ3 =>
      simp only [e4] at e3
      refine ho x σ H3 _ (hd F0 H0 F3 H3 _ _ ρ3 x d _ S3 r3 e4 fun σ4 k4 => ?_)
      have S4 := k4 H3 S3
      refine ht F0 H0 F3 H3 σ4 ρ3 _ S4 ?_
      cases e5 : ft ρ3 with
      | ok b =>
        simp only [e5] at e3
        intro F5 H5 x5
        have hD5 : F5 p = none := x5.free hD3 hl3 fun _ z => by cases z
        have hl5 : H5 p = some (.lst acc) := x5.kp _ _ hl3
        have r5 : RpL K F5 acc accD := (r2.mono x3.sF).mono x5.sF
        cases b with
        | true =>
          simp only [if_true] at e3 ⊢
          refine he _ _ _ ⟨F0, H0, F5, ρ3, S4.step x5, ?_⟩
          cases e6 : fe ρ3 with
          | ok z =>
            simp only [e6] at e3
            obtain ⟨dz, fz⟩ := z
            intro v F6 H6 x6 hh
            obtain ⟨F7, x7, r7⟩ := held_share x6 hh
            cases e7 : lcL g ft fe (wipeE ρ vs) (ds.drop (i + 1)) with
            | ok l =>
              simp only [e7, R.ok.injEq] at e3
              have hD7 : F7 p = none := x7.free hD5 hl5 fun _ z => by cases z
              have eo2 : accD0 ++ out = (accD ++ [dz]) ++ l := by rw [eo, ← e3]; simp
              refine ⟨acc, x7.kp _ _ hl5, ?_, F7, acc ++ [v], accD ++ [dz], l, ((x13.trans x5).trans x7).poke hp hD7, ((sF2.trans x3.sF).trans x5.sF).trans x7.sF, hD7, upd_same, (r5.mono x7.sF).append (.cons r7 .nil), rfl, eo2⟩
              have el := congrArg List.length eo2
              simp only [List.length_append, List.length_cons, List.length_nil] at el
              rw [r5.length]
              exact cap_line' (by omega)
            | ex c => simp only [e7] at e3; cases e3
            | st => simp only [e7] at e3; cases e3
          | ex c => simp only [e6] at e3; cases e3
          | st => simp only [e6] at e3; cases e3
        | false =>
          simp only [Bool.false_eq_true, if_false] at e3 ⊢
          exact ⟨F5, acc, accD, tail, x13.trans x5, (sF2.trans x3.sF).trans x5.sF, hD5, hl5, r5, e3, eo⟩
      | ex c => simp only [e5] at e3; cases e3
      | st => simp only [e5] at e3; cases e3
  · have ei : i = ds.length := by omega
    subst ei
    rw [List.drop_length, lcL, R.ok.injEq] at e3
    subst e3
    rw [List.append_nil] at eo
    subst eo
    exact .inl ⟨w.stop _ F2 H2 sF2 sH2 (Nat.le_refl _), fin F2 H2 acc x2 sF2 hD2 hl2 r2⟩
theorem lc_data {E : XE} {wi : TI} {fi : Env → R (List D)} {g : D → Env → Option Env} {t : TG} {tt : TT} {ft : Env → R Bool} {fe : EF} {vs : List Nat} {te : TE} (hw : ∀ σ H Q, tI K E fi σ H Q → wi σ H Q) (hd : TgD K t g) (ho : TgW g t vs) (ht : TtD K tt ft) (he : ∀ σ H Q, tE K noE fe σ H Q → te σ H Q) {Q : VK}
    (h : tE K E (fLc fi g ft fe vs) σ H Q) : tLc wi t tt te vs σ H Q := by
  obtain ⟨F0, H0, F, ρ, S, h⟩ := h
  refine hw _ _ _ ⟨F0, H0, F, ρ, S, ?_⟩
  unfold fLc at h
  cases e : fi ρ with
  | ex c => rw [e] at h; exact h
  | st => rw [e] at h; exact h
  | ok ds =>
    rw [e] at h
    simp only at h
    cases e2 : lcL g ft fe (wipeE ρ vs) ds with
    | ex c => rw [e2] at h; exact h.elim
    | st => rw [e2] at h; exact h.elim
    | ok out =>
      rw [e2] at h
      simp only at h
      by_cases hc : out.length ≤ CAP
      case neg => rw [if_neg hc] at h; exact h.elim
      rw [if_pos hc] at h
      intro J F1 H1 x1 w D hD
      have S1 := S.step x1
      have hF1 := none_of_sb S1.sub hD
      have hH : H D = none := by
        cases q : H D with
        | none => rfl
        | some u => rw [x1.kp D u q] at hD; cases hD
      exact lc_loop hd ho ht he S1 hD ((Fr.refl S1.sub).poke hD hF1) hF1 upd_same .nil w e2 (by simpa using hc) fun F2 H2 acc x2 _ hD2 hl2 r2 => h _ F2 H2 (x1.trans x2) ⟨D, rfl, hD2, hH, .lst hl2 r2⟩
theorem lc2_data {E : XE} {wi wi1 : TI} {fi fi1 : Env → R (List D)} {g g1 : D → Env → Option Env} {t t1 : TG} {tt tt1 : TT} {ft ft1 : Env → R Bool} {fe : EF} {vs vs1 : List Nat} {te : TE} (hw : ∀ σ H Q, tI K E fi σ H Q → wi σ H Q) (hd : TgD K t g) (ho : TgW g t vs) (ht : TtD K tt ft)
    (hw1 : ∀ σ H Q, tI K noE fi1 σ H Q → wi1 σ H Q) (hd1 : TgD K t1 g1) (ho1 : TgW g1 t1 vs1) (ht1 : TtD K tt1 ft1) (he : ∀ σ H Q, tE K noE fe σ H Q → te σ H Q) {Q : VK}
    (h : tE K E (fLc2 fi g ft fi1 g1 ft1 fe vs vs1) σ H Q) : tLc2 wi t tt wi1 t1 tt1 te vs vs1 σ H Q := by
  obtain ⟨F0, H0, F, ρ, S, h⟩ := h
  refine hw _ _ _ ⟨F0, H0, F, ρ, S, ?_⟩
  unfold fLc2 at h
  cases e : fi ρ with
  | ex c => rw [e] at h; exact h
  | st => rw [e] at h; exact h
  | ok ds =>
    rw [e] at h
    simp only at h
    cases e2 : lc2L g ft fi1 g1 ft1 fe vs1 (wipeE ρ vs) ds with
    | ex c => rw [e2] at h; exact h.elim
    | st => rw [e2] at h; exact h.elim
    | ok out =>
      rw [e2] at h
      simp only at h
      by_cases hc : out.length ≤ CAP
      case neg => rw [if_neg hc] at h; exact h.elim
      rw [if_pos hc] at h
      intro J F1 H1 x1 w p hp
      have S1 := S.step x1
      have hF1 := none_of_sb S1.sub hp
      have hH : H p = none := by
        cases q : H p with
        | none => rfl
        | some u => rw [x1.kp p u q] at hp; cases hp
      refine ⟨fun i m H => m = ds.length - i ∧ i ≤ ds.length ∧ ∃ F acc accD tail, Fr F1 H1 F H ∧ F p = none ∧ H p = some (.lst acc) ∧ RpL K F acc accD ∧ lc2L g ft fi1 g1 ft1 fe vs1 (wipeE ρ vs) (ds.drop i) = .ok tail ∧ out = accD ++ tail,
        ⟨_, rfl, Nat.zero_le _, F1, [], [], out, (Fr.refl S1.sub).poke hp hF1, hF1, upd_same, .nil, e2, rfl⟩, ?_⟩
      rintro i m H2 ⟨rfl, hi2, F2, acc, accD, tail, x2, hD2, hl2, r2, e3, eo⟩
      have sF2 : Sb F1 F2 := x2.sF
      have sH2 : Sb F2 H2 := x2.sH
      by_cases hlt : i < ds.length
      · refine .inr ⟨w.go i F2 H2 sF2 sH2 hlt, fun H' => ∃ F acc accD tail, Fr F1 H1 F H' ∧ F p = none ∧ H' p = some (.lst acc) ∧ RpL K F acc accD ∧ lc2L g ft fi1 g1 ft1 fe vs1 (wipeE ρ vs) (ds.drop (i + 1)) = .ok tail ∧ out = accD ++ tail,
          fun H' n => ⟨ds.length - (i + 1), by omega, rfl, hlt, n⟩, fun x H3 y => ?_⟩
        obtain ⟨d, F3, ed, x3, r3⟩ := w.yld i F2 H2 x H3 sF2 sH2 hlt y
        have edr : ds.drop i = d :: ds.drop (i + 1) := by
          obtain ⟨hl, rfl⟩ := List.getElem?_eq_some_iff.mp ed
          exact List.drop_eq_getElem_cons hl
        rw [edr, lc2L] at e3
        have x13 := x2.trans x3
        have hD3 : F3 p = none := x3.free hD2 hl2 fun _ z => by cases z
        have hl3 : H3 p = some (.lst acc) := x3.kp _ _ hl2
        have S3 := (S1.step x13).wipe vs
        have S3' := (S1.less x13 hp hD3).wipe vs
        cases e4 : g d (wipeE ρ vs) with
        | none => simp only [e4] at e3; cases e3
        | some ρ3 =>
          simp only [e4] at e3
          refine ho x σ H3 _ (hd F0 H0 F3 H3 _ _ ρ3 x d _ S3 r3 e4 fun σ4 k4 => ?_)
          have S4 := k4 H3 S3
          have S4' := k4 _ S3'
          refine ht F0 H0 F3 H3 σ4 ρ3 _ S4 ?_
          cases e5 : ft ρ3 with
          | ok b =>
            simp only [e5] at e3
            intro F5 H5 x5
            have hD5 : F5 p = none := x5.free hD3 hl3 fun _ z => by cases z
            have hl5 : H5 p = some (.lst acc) := x5.kp _ _ hl3
            have r5 : RpL K F5 acc accD := (r2.mono x3.sF).mono x5.sF
            cases b with
            | true =>
              simp only [if_true] at e3 ⊢
              refine hw1 _ _ _ ⟨F0, H0, F5, ρ3, S4.step x5, ?_⟩
              cases e6 : fi1 ρ3 with
              | ok es =>
                simp only [e6] at e3
                intro J1 F6 H6 x6 w1
                have hD6 : F6 p = none := x6.free hD5 hl5 fun _ z => by cases z
                have hl6 : H6 p = some (.lst acc) := x6.kp _ _ hl5
                cases e7 : lcL g1 ft1 fe (wipeE ρ3 vs1) es with
                | ok l1 =>
                  simp only [e7] at e3
                  cases e8 : lc2L g ft fi1 g1 ft1 fe vs1 (wipeE ρ vs) (ds.drop (i + 1)) with
                  | ok l =>
                    simp only [e8, R.ok.injEq] at e3
                    have eo2 : out = (accD ++ l1) ++ l := by rw [eo, ← e3]; simp
                    have el := congrArg List.length eo2
                    simp only [List.length_append] at el
                    have xa : Fr F3 (less H3 p) F6 H6 := ((less_fr x13.sH hD3).2.trans x5).trans x6
                    refine lc_loop hd1 ho1 ht1 he S4' less_at xa hD6 hl6 (r5.mono x6.sF) w1 e7 (by omega) fun F7 H7 acc7 x7 s7 hD7 hl7 r7 => ?_
                    refine ⟨F7, acc7, accD ++ l1, l, ?_, hD7, hl7, r7, rfl, eo2⟩
                    have y : Fr F1 H1 F3 (less H3 p) := ⟨x13.sF, (less_fr x13.sH hD3).1, fun a u q => by unfold less; rw [if_neg (ne_of_none q hp)]; exact x13.kp a u q, x13.nw⟩
                    exact y.trans x7
                  | ex c => simp only [e8] at e3; cases e3
                  | st => simp only [e8] at e3; cases e3
                | ex c => simp only [e7] at e3; cases e3
                | st => simp only [e7] at e3; cases e3
              | ex c => simp only [e6] at e3; cases e3
              | st => simp only [e6] at e3; cases e3
            | false =>
              simp only [Bool.false_eq_true, if_false] at e3 ⊢
              exact ⟨F5, acc, accD, tail, x13.trans x5, hD5, hl5, r5, e3, eo⟩
          | ex c => simp only [e5] at e3; cases e3
          | st => simp only [e5] at e3; cases e3
      · have ei : i = ds.length := by omega
        subst ei
        rw [List.drop_length, lc2L, R.ok.injEq] at e3
        subst e3
        rw [List.append_nil] at eo
        subst eo
        exact .inl ⟨w.stop _ F2 H2 sF2 sH2 (Nat.le_refl _), h _ F2 H2 (x1.trans x2) ⟨p, rfl, hD2, hH, .lst hl2 r2⟩⟩
end
section
variable {X : Cx} {E : XE} {tg iter elt tg1 iter1 : Expr} {ifs ifs1 : List Expr} {scope : Scope} {pos spos py : Pos} {fi fi1 : Env → R (List D)} {g g1 : D → Env → Option Env} {t t1 : TG} {tt tt1 : TT} {ft ft1 : Env → R Bool} {fe : EF} {y : Str}
/-- the contexts of a comprehension's block -/
abbrev InBlk (X : Cx) (scope : Scope) (P : Cx → Prop) : Prop := ∀ (s : Shared) (H : Hp) (C : Addr) (cl : List (Str × Addr)) (fp : List Addr), P (X.blk s H scope (compEnvC scope cl C X.env) fp)
theorem px_lc (own : List (Str × Nat)) (hc : X.calm = true) (hN : X.N.Nodup) (hi : PIx X E tg iter fi) (ok : blkC X.N X.env.scope scope own = true) (hg : InBlk X scope fun Y => PG Y tg t) (hd : TgD X.K t g) (ho : TgW g t (own.map (·.2)))
    (ht : InBlk X scope fun Y => PTs Y ifs tt) (htd : TtD X.K tt ft) (he : InBlk X scope fun Y => PX Y noE elt fe) (hs : ∀ x, foldedSetIterable iter X.env x = pure x := by intro _; rfl) : PX X E (.ListComp elt [⟨tg, iter, ifs, 0⟩] scope pos) (fLc fi g ft fe (own.map (·.2))) :=
  ⟨fun pins s σ H Q I h => (pe_lc hc hN hi (blkOk_by ok) hg ht he hs).run pins s σ H Q I (lc_data (fun _ _ _ h => h) hd ho htd (fun _ _ _ h => h) h)⟩
theorem pz_setLc (i : Nat) (own : List (Str × Nat)) (hc : X.calm = true) (hN : X.N.Nodup) (hi : PIx X E tg iter fi) (ok : blkC X.N X.env.scope scope own = true) (hg : InBlk X scope fun Y => PG Y tg t) (hd : TgD X.K t g) (ho : TgW g t (own.map (·.2)))
    (ht : InBlk X scope fun Y => PTs Y ifs tt) (htd : TtD X.K tt ft) (he : InBlk X scope fun Y => PX Y noE elt fe) (hy : X.N[i]? = some y := by rfl) (hyl : X.env.scope.names.lookup y = some .local := by rfl)
    (hsw : swapsWith (.ListComp elt [⟨tg, iter, ifs, 0⟩] scope pos) (some (.Name y py)) spos.line X.env = pure true := by exact sw_true rfl rfl rfl (by decide +kernel))
    (hs : ∀ x, foldedSetIterable iter X.env x = pure x := by intro _; rfl) : PZ X E (.Assign [.Name y py] (.ListComp elt [⟨tg, iter, ifs, 0⟩] scope pos) spos) (sSet i (fLc fi g ft fe (own.map (·.2)))) := fun F0 H0 =>
  ⟨fun pins s σ H D I h => (ps_setLc hc hN hy hyl hsw hi (blkOk_by ok) hg ht he hs).run pins s σ H D I (lc_data (fun _ _ _ h => h) hd ho htd (fun _ _ _ h => h) (set_data h))⟩
theorem pz_ownLc (i : Nat) (own : List (Str × Nat)) (hc : X.calm = true) (hN : X.N.Nodup) (hi : PIx X E tg iter fi) (ok : blkC X.N X.env.scope scope own = true) (hg : InBlk X scope fun Y => PG Y tg t) (hd : TgD X.K t g) (ho : TgW g t (own.map (·.2)))
    (ht : InBlk X scope fun Y => PTs Y ifs tt) (htd : TtD X.K tt ft) (he : InBlk X scope fun Y => PX Y noE elt fe) (hy : X.N[i]? = some y := by rfl) (hyl : X.env.scope.names.lookup y = some .local := by rfl)
    (hsw : swapsWith (.ListComp elt [⟨tg, iter, ifs, 0⟩] scope pos) (some (.Name y py)) spos.line X.env = pure true := by exact sw_true rfl rfl rfl (by decide +kernel))
    (hs : ∀ x, foldedSetIterable iter X.env x = pure x := by intro _; rfl) : PZ X E (.Assign [.Name y py] (.ListComp elt [⟨tg, iter, ifs, 0⟩] scope pos) spos) (sOwn i (fLc fi g ft fe (own.map (·.2)))) := fun F0 H0 =>
  ⟨fun pins s σ H D I h => (ps_setLc hc hN hy hyl hsw hi (blkOk_by ok) hg ht he hs).run pins s σ H D I (lc_data (fun _ _ _ h => h) hd ho htd (fun _ _ _ h => h) (own_data h))⟩
theorem px_lc2 (own : List (Str × Nat)) (vs1 : List Nat) (hc : X.calm = true) (hN : X.N.Nodup) (hi : PIx X E tg iter fi) (ok : blkC X.N X.env.scope scope own = true) (hv : ∀ i ∈ vs1, i ∈ own.map (·.2)) (hg : InBlk X scope fun Y => PG Y tg t) (hd : TgD X.K t g) (ho : TgW g t (own.map (·.2)))
    (ht : InBlk X scope fun Y => PTs Y ifs tt) (htd : TtD X.K tt ft) (hi1 : InBlk X scope fun Y => PIx Y noE tg1 iter1 fi1) (hg1 : InBlk X scope fun Y => PG Y tg1 t1) (hd1 : TgD X.K t1 g1) (ho1 : TgW g1 t1 vs1) (ht1 : InBlk X scope fun Y => PTs Y ifs1 tt1) (htd1 : TtD X.K tt1 ft1)
    (he : InBlk X scope fun Y => PX Y noE elt fe) (hs : ∀ x, foldedSetIterable iter X.env x = pure x := by intro _; rfl) (hs1 : ∀ env x, foldedSetIterable iter1 env x = pure x := by intro _ _; rfl) :
    PX X E (.ListComp elt [⟨tg, iter, ifs, 0⟩, ⟨tg1, iter1, ifs1, 0⟩] scope pos) (fLc2 fi g ft fi1 g1 ft1 fe (own.map (·.2)) vs1) :=
  ⟨fun pins s σ H Q I h => (pe_lc2 hc hN hi (blkOk_by ok) hv hg ht hi1 hg1 ht1 he hs hs1).run pins s σ H Q I (lc2_data (fun _ _ _ h => h) hd ho htd (fun _ _ _ h => h) hd1 ho1 htd1 (fun _ _ _ h => h) h)⟩
theorem pz_setLc2 (i : Nat) (own : List (Str × Nat)) (vs1 : List Nat) (hc : X.calm = true) (hN : X.N.Nodup) (hi : PIx X E tg iter fi) (ok : blkC X.N X.env.scope scope own = true) (hv : ∀ i ∈ vs1, i ∈ own.map (·.2)) (hg : InBlk X scope fun Y => PG Y tg t) (hd : TgD X.K t g) (ho : TgW g t (own.map (·.2)))
    (ht : InBlk X scope fun Y => PTs Y ifs tt) (htd : TtD X.K tt ft) (hi1 : InBlk X scope fun Y => PIx Y noE tg1 iter1 fi1) (hg1 : InBlk X scope fun Y => PG Y tg1 t1) (hd1 : TgD X.K t1 g1) (ho1 : TgW g1 t1 vs1) (ht1 : InBlk X scope fun Y => PTs Y ifs1 tt1) (htd1 : TtD X.K tt1 ft1)
    (he : InBlk X scope fun Y => PX Y noE elt fe) (hy : X.N[i]? = some y := by rfl) (hyl : X.env.scope.names.lookup y = some .local := by rfl)
    (hsw : swapsWith (.ListComp elt [⟨tg, iter, ifs, 0⟩, ⟨tg1, iter1, ifs1, 0⟩] scope pos) (some (.Name y py)) spos.line X.env = pure true := by exact sw_true rfl rfl rfl (by decide +kernel))
    (hs : ∀ x, foldedSetIterable iter X.env x = pure x := by intro _; rfl) (hs1 : ∀ env x, foldedSetIterable iter1 env x = pure x := by intro _ _; rfl) :
    PZ X E (.Assign [.Name y py] (.ListComp elt [⟨tg, iter, ifs, 0⟩, ⟨tg1, iter1, ifs1, 0⟩] scope pos) spos) (sSet i (fLc2 fi g ft fi1 g1 ft1 fe (own.map (·.2)) vs1)) := fun F0 H0 =>
  ⟨fun pins s σ H D I h => (ps_setLc2 hc hN hy hyl hsw hi (blkOk_by ok) hv hg ht hi1 hg1 ht1 he hs hs1).run pins s σ H D I (lc2_data (fun _ _ _ h => h) hd ho htd (fun _ _ _ h => h) hd1 ho1 htd1 (fun _ _ _ h => h) (set_data h))⟩
end
end Pd

/-! Pd6: what is owned is changed: append, stores; methods; f-strings; a dict walked while it is locked. -/
namespace Pd
open PySem PySem.Spec PyProof.Rows L2

section
variable {K : PySem.W.Frag} {F0 H0 F H : Hp} {σ : L2.St} {ρ : Env}
theorem StOk.mut {i : Nat} {a : Addr} {o : HO} {d d' : D} (S : StOk K F0 H0 F H σ ρ) (hi : ρ[i]? = some (some (d, true))) (hv : σ[i]? = some (some (.ref a))) (w : Own K F (upd H a o) a d') :
    StOk K F0 H0 F (upd H a o) σ (ρ.set i (some (d', true))) := by
  obtain ⟨v, hv', b, e, hF, hH0, _⟩ := S.sl i d true hi
  rw [hv] at hv'
  cases hv'
  cases e
  have hl : i < ρ.length := (List.getElem?_eq_some_iff.mp hi).1
  refine ⟨⟨S.fr.sF, fun b u e => by rw [upd_ne (ne_of_none e hF)]; exact S.fr.sH b u e, fun b u e => by rw [upd_ne (ne_of_none e hH0)]; exact S.fr.kp b u e, S.fr.nw⟩, by simpa using S.len, fun j e f h => ?_, fun j k e e' b hjk h1 h2 h3 => ?_⟩
  · by_cases hj : i = j
    · subst hj
      rw [List.getElem?_set_self hl] at h
      simp only [Option.some.injEq, Prod.mk.injEq] at h
      obtain ⟨rfl, rfl⟩ := h
      exact ⟨_, hv, a, rfl, hF, hH0, w⟩
    · rw [List.getElem?_set_ne hj] at h
      obtain ⟨w, h1, h2⟩ := S.sl j e f h
      refine ⟨w, h1, ?_⟩
      cases f with
      | false => exact h2
      | true =>
        obtain ⟨b, rfl, g1, g2, o⟩ := h2
        have hb : b ≠ a := fun q => S.dj i j d e a hj hi h hv (q ▸ h1)
        exact ⟨b, rfl, g1, g2, o.mono (.refl F) fun u hu => by rw [upd_ne hb]; exact hu⟩
  · have own : ∀ {m : Nat} {x : D}, (ρ.set i (some (d', true)))[m]? = some (some (x, true)) → ∃ y, ρ[m]? = some (some (y, true)) := fun {m x} h => by
      by_cases hm : i = m
      · subst hm; exact ⟨d, hi⟩
      · rw [List.getElem?_set_ne hm] at h; exact ⟨x, h⟩
    obtain ⟨y1, h1⟩ := own h1
    obtain ⟨y2, h2⟩ := own h2
    exact S.dj j k y1 y2 b hjk h1 h2 h3
end

section
variable {X : Cx} {E : XE} {pos pos' px pa pc : Pos} {e i1 : Expr} {f fi : EF} {x : Str}
/-- x.append(e) -/
def sApp (i : Nat) (f : EF) : SF := fun ρ => match ρ[i]? with
  | some (some (.lst ds, true)) => (match f ρ with
    | .ok y => if ds.length < CAP then .nx (ρ.set i (some (.lst (ds ++ [y.1]), true))) else .st
    | .ex c => .ex c
    | .st => .st)
  | _ => .st
theorem pz_append (i : Nat) (he : PX X E e f) (hN : X.N[i]? = some x := by rfl) (hv : Vis X.env.scope x := by first | exact Or.inl rfl | exact Or.inr (Or.inl rfl) | exact Or.inr (Or.inr rfl)) (hd : (x == ("__debug__" : Str)) = false := by decide)
    (hcd : (x == ("__classdict__" : Str)) = false := by decide) (hbase : attributeBase (.Name x px) "append" X.env (eval (.Name x px) X.env) = eval (.Name x px) X.env := by rfl)
    (hfew : ((backTo pc (starEach [e] X.env)).all (fun x => !x.1) && (backToKw pc (keywordEach [] X.env)).all (fun x => x.1.isSome)
      && decide ([e].length + ([] : List Keyword).length + (if ([] : List Keyword).isEmpty then 0 else 1) < 30)) = true := by rfl)
    (hline : (pa.endLine == pc.line) = true := by rfl) (hs1 : starEach [e] X.env = (false, eval e X.env) :: starEach [] X.env := by rfl) (hplain : (backTo pc (starEach [] X.env)).any (·.1) = false := by rfl)
    (hs : swapsWith (.Call (.Attribute (.Name x px) "append" pa) [e] [] pc) none pos.line X.env = pure false := by rfl) :
    PZ X E (.Expr (.Call (.Attribute (.Name x px) "append" pa) [e] [] pc) pos) (sApp i f) := fun F0 H0 => by
  refine ⟨fun pins s' σ H D I h => (ps_expr (pe_bm PySem.F.plainAttrs_list PySem.F.slot_list_append PySem.F.type_list_append mt_append (pe_var hN hv hd hcd) (pa_cons he pa_nil hs1) hbase hfew hline hs1 hplain) hs).run pins s' σ H D I ?_⟩
  obtain ⟨F, ρ, S, h⟩ := h
  unfold sApp at h
  split at h
  · rename_i ds ei
    obtain ⟨v, ev, a, rfl, hF, hH0, o⟩ := S.sl i (.lst ds) true ei
    cases o with
    | @lst vs _ ha ra =>
      refine ⟨_, ev, .inl ⟨rfl, vs, .inl (.inl ha)⟩, ?_⟩
      refine tE_bindS S h fun d g y F1 H1 x1 S1 r1 h1 => ?_
      simp only at h1
      by_cases hc : ds.length < CAP
      case neg => rw [if_neg hc] at h1; exact h1.elim
      rw [if_pos hc] at h1
      have hF1 : F1 a = none := x1.free hF ha fun _ z => by cases z
      have ra' := ra.mono x1.sF
      refine ⟨a, vs, y, rfl, rfl, x1.kp _ _ ha, by rw [ra.length]; exact cap_line' hc, h1 _ F1 _ (S1.mut ei ev (.lst upd_same (ra'.append (.cons r1 .nil))))⟩
  · exact h.elim
/-- x[k] = v, a dict -/
def sPut (i : Nat) (fk fv : EF) : SF := fun ρ => match fv ρ with
  | .ok v => (match ρ[i]? with
    | some (some (.dic t kvs, true)) => (match fk ρ with
      | .ok k => if okKey t k.1 && decide (kvs.length < CAP) then .nx (ρ.set i (some (.dic t (dPut kvs k.1 v.1), true))) else .st
      | .ex c => .ex c
      | .st => .st)
    | _ => .st)
  | .ex c => .ex c
  | .st => .st
theorem dput_of {K : PySem.W.Frag} {F H : Hp} (s : Sb F H) {a : Addr} {y v : V} {t : Bool} {kvs : List (D × D)} {k d : D} (o : Own K F H a (.dic t kvs)) (hF : F a = none) (hy : Rp K F y k) (hv : Rp K F v d) (ok : okKey t k = true) (hc : kvs.length < CAP) :
    ∃ u, DPut H a y v (upd H a u) ∧ Own K F (upd H a u) a (.dic t (dPut kvs k d)) := by
  cases o with
  | @dicK vs _ ha ra =>
    simp only [okKey, Bool.false_eq_true, if_false] at ok
    obtain ⟨k', e⟩ := Option.isSome_iff_exists.mp ok
    have := key1_eq e
    subst this
    rw [rp_key hy]
    exact ⟨_, .k ha (by rw [ra.length]; exact cap_line' hc), .dicK upd_same (ra.put hv)⟩
  | @dicT vs _ ha ra =>
    simp only [okKey, if_true] at ok
    cases k with
    | tup xs =>
      obtain ⟨ks, e⟩ := Option.isSome_iff_exists.mp ok
      have := keyL_eq e
      subst this
      cases hy with
      | tup h1 h2 =>
        rw [rpl_keys h2] at h1
        exact ⟨_, .t ha (s _ _ h1) (by rw [ra.length]; exact cap_line' hc), .dicT upd_same (ra.put hv)⟩
    | _ => cases ok
theorem pz_put (i : Nat) (hu : X.A.units + 1 < cLine) (hk : PX X E i1 fi) (he : PX X E e f) (hN : X.N[i]? = some x := by rfl) (hv : Vis X.env.scope x := by first | exact Or.inl rfl | exact Or.inr (Or.inl rfl) | exact Or.inr (Or.inr rfl)) (hd : (x == ("__debug__" : Str)) = false := by decide)
    (hcd : (x == ("__classdict__" : Str)) = false := by decide) (hs : swapsWith e (some (.Subscript (.Name x px) i1 pos')) pos.line X.env = pure false := by rfl) :
    PZ X E (.Assign [.Subscript (.Name x px) i1 pos'] e pos) (sPut i fi f) := fun F0 H0 => by
  refine ⟨fun pins s' σ H D I h => (ps_dput hu (pe_var hN hv hd hcd) hk he hs).run pins s' σ H D I ?_⟩
  obtain ⟨F, ρ, S, h⟩ := h
  refine tE_bindS S h fun d g v F1 H1 x1 S1 r1 h1 => ?_
  simp only at h1
  split at h1
  · rename_i t kvs ei
    obtain ⟨w, ev, a, rfl, hF, hH0, o⟩ := S1.sl i _ true ei
    refine ⟨_, ev, ?_⟩
    refine tE_bindS S1 h1 fun dk gk y F2 H2 x2 S2 r2 h2 => ?_
    simp only at h2
    by_cases hc : (okKey t dk && decide (kvs.length < CAP)) = true
    case neg => rw [if_neg hc] at h2; exact h2.elim
    rw [if_pos hc] at h2
    simp only [Bool.and_eq_true, decide_eq_true_eq] at hc
    obtain ⟨u0, hu0, ht⟩ := o.here
    have hF2 : F2 a = none := x2.free hF hu0 ht
    have o2 : Own X.K F2 H2 a (.dic t kvs) := o.mono x2.sF fun u e => x2.kp _ _ e
    obtain ⟨u, p1, p2⟩ := dput_of S2.sub o2 hF2 r2 (r1.mono x2.sF) hc.1 hc.2
    exact ⟨a, _, rfl, p1, h2 _ F2 _ (S2.mut ei ev p2)⟩
  · exact h1.elim
/-- x[k] = v, a list -/
def sPutL (i : Nat) (fk fv : EF) : SF := fun ρ => match fv ρ with
  | .ok v => (match ρ[i]? with
    | some (some (.lst ds, true)) => (match fk ρ with
      | .ok k => (match k.1 with
        | .int j => (match ixN ds.length j with
          | some n => .nx (ρ.set i (some (.lst (ds.set n v.1), true)))
          | none => .st)
        | _ => .st)
      | .ex c => .ex c
      | .st => .st)
    | _ => .st)
  | .ex c => .ex c
  | .st => .st
theorem pz_putL (i : Nat) (hk : PX X E i1 fi) (he : PX X E e f) (hN : X.N[i]? = some x := by rfl) (hv : Vis X.env.scope x := by first | exact Or.inl rfl | exact Or.inr (Or.inl rfl) | exact Or.inr (Or.inr rfl)) (hd : (x == ("__debug__" : Str)) = false := by decide)
    (hcd : (x == ("__classdict__" : Str)) = false := by decide)
    (ha : ∀ v, assign (.Subscript (.Name x px) i1 pos') X.env v = (do
      let ov ← holding [v] (eval (.Name x px) X.env)
      let iv ← holding [v, ov] (eval i1 X.env)
      standAt pos'
      holding [v, ov, iv] (setItem ov iv v)
      release [v, ov, iv] []) := by intro _; rfl)
    (hs : swapsWithSole [.Subscript (.Name x px) i1 pos'] e pos.line X.env = pure false := by rfl) (hw : swappedStores [.Subscript (.Name x px) i1 pos'] e X.env = pure none := by rfl)
    (h1 : (assignEach [.Subscript (.Name x px) i1 pos'] X.env).map (·.2) = [assign (.Subscript (.Name x px) i1 pos') X.env] := by rfl) :
    PZ X E (.Assign [.Subscript (.Name x px) i1 pos'] e pos) (sPutL i fi f) := fun F0 H0 => by
  refine ⟨fun pins s' σ H D I h => (ps_asg he (pg_sub (pe_var hN hv hd hcd) hk set_list ha) hs hw h1).run pins s' σ H D I ?_⟩
  obtain ⟨F, ρ, S, h⟩ := h
  refine tE_bindS S h fun d g v F1 H1 x1 S1 r1 h1 => ?_
  simp only at h1
  split at h1
  · rename_i ds ei
    obtain ⟨w, ev, a, rfl, hF, hH0, o⟩ := S1.sl i _ true ei
    refine ⟨_, ev, ?_⟩
    refine tE_bindS S1 h1 fun dk gk y F2 H2 x2 S2 r2 h2 => ?_
    simp only at h2
    cases dk with
    | int j =>
      simp only at h2
      split at h2
      · rename_i n en
        have ey := int_of r2
        cases o with
        | @lst vs _ ha ra =>
          have hF2 : F2 a = none := x2.free hF ha fun _ z => by cases z
          have ra' := ra.mono x2.sF
          refine ⟨a, vs, j, n, rfl, ey, x2.kp _ _ ha, by rw [ra.length]; exact en, h2 _ F2 _ (S2.mut ei ev (.lst upd_same (ra'.set n (r1.mono x2.sF))))⟩
      · exact h2.elim
    | _ => exact h2.elim
  · exact h1.elim
end
/-! ### {x:d} of small numbers -/
theorem gives_d0 (t u : Tok) : Meets (Builtin.«int.__format__» ⟨[.int 0 t, .str "d" u], []⟩) (fun _ R s => ∀ t' k, R (.ok (.ret (.str (toString (0 : Int)) t'))) { s with toks := k }) := by revert u; kxf_run_i
theorem gives_d1 (t u : Tok) : Meets (Builtin.«int.__format__» ⟨[.int 1 t, .str "d" u], []⟩) (fun _ R s => ∀ t' k, R (.ok (.ret (.str (toString (1 : Int)) t'))) { s with toks := k }) := by revert u; kxf_run_i
theorem gives_d2 (t u : Tok) : Meets (Builtin.«int.__format__» ⟨[.int 2 t, .str "d" u], []⟩) (fun _ R s => ∀ t' k, R (.ok (.ret (.str (toString (2 : Int)) t'))) { s with toks := k }) := by revert u; kxf_run_i
theorem gives_d3 (t u : Tok) : Meets (Builtin.«int.__format__» ⟨[.int 3 t, .str "d" u], []⟩) (fun _ R s => ∀ t' k, R (.ok (.ret (.str (toString (3 : Int)) t'))) { s with toks := k }) := by revert u; kxf_run_i
theorem gives_d4 (t u : Tok) : Meets (Builtin.«int.__format__» ⟨[.int 4 t, .str "d" u], []⟩) (fun _ R s => ∀ t' k, R (.ok (.ret (.str (toString (4 : Int)) t'))) { s with toks := k }) := by revert u; kxf_run_i
theorem gives_d5 (t u : Tok) : Meets (Builtin.«int.__format__» ⟨[.int 5 t, .str "d" u], []⟩) (fun _ R s => ∀ t' k, R (.ok (.ret (.str (toString (5 : Int)) t'))) { s with toks := k }) := by revert u; kxf_run_i
theorem gives_d6 (t u : Tok) : Meets (Builtin.«int.__format__» ⟨[.int 6 t, .str "d" u], []⟩) (fun _ R s => ∀ t' k, R (.ok (.ret (.str (toString (6 : Int)) t'))) { s with toks := k }) := by revert u; kxf_run_i
theorem gives_d7 (t u : Tok) : Meets (Builtin.«int.__format__» ⟨[.int 7 t, .str "d" u], []⟩) (fun _ R s => ∀ t' k, R (.ok (.ret (.str (toString (7 : Int)) t'))) { s with toks := k }) := by revert u; kxf_run_i
theorem gives_d8 (t u : Tok) : Meets (Builtin.«int.__format__» ⟨[.int 8 t, .str "d" u], []⟩) (fun _ R s => ∀ t' k, R (.ok (.ret (.str (toString (8 : Int)) t'))) { s with toks := k }) := by revert u; kxf_run_i
theorem gives_d9 (t u : Tok) : Meets (Builtin.«int.__format__» ⟨[.int 9 t, .str "d" u], []⟩) (fun _ R s => ∀ t' k, R (.ok (.ret (.str (toString (9 : Int)) t'))) { s with toks := k }) := by revert u; kxf_run_i
theorem gives_d10 (t u : Tok) : Meets (Builtin.«int.__format__» ⟨[.int 10 t, .str "d" u], []⟩) (fun _ R s => ∀ t' k, R (.ok (.ret (.str (toString (10 : Int)) t'))) { s with toks := k }) := by revert u; kxf_run_i
theorem gives_d11 (t u : Tok) : Meets (Builtin.«int.__format__» ⟨[.int 11 t, .str "d" u], []⟩) (fun _ R s => ∀ t' k, R (.ok (.ret (.str (toString (11 : Int)) t'))) { s with toks := k }) := by revert u; kxf_run_i
theorem gives_d12 (t u : Tok) : Meets (Builtin.«int.__format__» ⟨[.int 12 t, .str "d" u], []⟩) (fun _ R s => ∀ t' k, R (.ok (.ret (.str (toString (12 : Int)) t'))) { s with toks := k }) := by revert u; kxf_run_i
theorem gives_d13 (t u : Tok) : Meets (Builtin.«int.__format__» ⟨[.int 13 t, .str "d" u], []⟩) (fun _ R s => ∀ t' k, R (.ok (.ret (.str (toString (13 : Int)) t'))) { s with toks := k }) := by revert u; kxf_run_i
theorem gives_d14 (t u : Tok) : Meets (Builtin.«int.__format__» ⟨[.int 14 t, .str "d" u], []⟩) (fun _ R s => ∀ t' k, R (.ok (.ret (.str (toString (14 : Int)) t'))) { s with toks := k }) := by revert u; kxf_run_i
theorem gives_d15 (t u : Tok) : Meets (Builtin.«int.__format__» ⟨[.int 15 t, .str "d" u], []⟩) (fun _ R s => ∀ t' k, R (.ok (.ret (.str (toString (15 : Int)) t'))) { s with toks := k }) := by revert u; kxf_run_i
theorem gives_d16 (t u : Tok) : Meets (Builtin.«int.__format__» ⟨[.int 16 t, .str "d" u], []⟩) (fun _ R s => ∀ t' k, R (.ok (.ret (.str (toString (16 : Int)) t'))) { s with toks := k }) := by revert u; kxf_run_i
theorem gives_d17 (t u : Tok) : Meets (Builtin.«int.__format__» ⟨[.int 17 t, .str "d" u], []⟩) (fun _ R s => ∀ t' k, R (.ok (.ret (.str (toString (17 : Int)) t'))) { s with toks := k }) := by revert u; kxf_run_i
theorem gives_d18 (t u : Tok) : Meets (Builtin.«int.__format__» ⟨[.int 18 t, .str "d" u], []⟩) (fun _ R s => ∀ t' k, R (.ok (.ret (.str (toString (18 : Int)) t'))) { s with toks := k }) := by revert u; kxf_run_i
theorem gives_d19 (t u : Tok) : Meets (Builtin.«int.__format__» ⟨[.int 19 t, .str "d" u], []⟩) (fun _ R s => ∀ t' k, R (.ok (.ret (.str (toString (19 : Int)) t'))) { s with toks := k }) := by revert u; kxf_run_i
theorem gives_d20 (t u : Tok) : Meets (Builtin.«int.__format__» ⟨[.int 20 t, .str "d" u], []⟩) (fun _ R s => ∀ t' k, R (.ok (.ret (.str (toString (20 : Int)) t'))) { s with toks := k }) := by revert u; kxf_run_i
theorem gives_d21 (t u : Tok) : Meets (Builtin.«int.__format__» ⟨[.int 21 t, .str "d" u], []⟩) (fun _ R s => ∀ t' k, R (.ok (.ret (.str (toString (21 : Int)) t'))) { s with toks := k }) := by revert u; kxf_run_i
theorem gives_d22 (t u : Tok) : Meets (Builtin.«int.__format__» ⟨[.int 22 t, .str "d" u], []⟩) (fun _ R s => ∀ t' k, R (.ok (.ret (.str (toString (22 : Int)) t'))) { s with toks := k }) := by revert u; kxf_run_i
theorem gives_d23 (t u : Tok) : Meets (Builtin.«int.__format__» ⟨[.int 23 t, .str "d" u], []⟩) (fun _ R s => ∀ t' k, R (.ok (.ret (.str (toString (23 : Int)) t'))) { s with toks := k }) := by revert u; kxf_run_i
theorem gives_d24 (t u : Tok) : Meets (Builtin.«int.__format__» ⟨[.int 24 t, .str "d" u], []⟩) (fun _ R s => ∀ t' k, R (.ok (.ret (.str (toString (24 : Int)) t'))) { s with toks := k }) := by revert u; kxf_run_i
theorem gives_d25 (t u : Tok) : Meets (Builtin.«int.__format__» ⟨[.int 25 t, .str "d" u], []⟩) (fun _ R s => ∀ t' k, R (.ok (.ret (.str (toString (25 : Int)) t'))) { s with toks := k }) := by revert u; kxf_run_i
theorem gives_d26 (t u : Tok) : Meets (Builtin.«int.__format__» ⟨[.int 26 t, .str "d" u], []⟩) (fun _ R s => ∀ t' k, R (.ok (.ret (.str (toString (26 : Int)) t'))) { s with toks := k }) := by revert u; kxf_run_i
theorem gives_d27 (t u : Tok) : Meets (Builtin.«int.__format__» ⟨[.int 27 t, .str "d" u], []⟩) (fun _ R s => ∀ t' k, R (.ok (.ret (.str (toString (27 : Int)) t'))) { s with toks := k }) := by revert u; kxf_run_i
theorem gives_d28 (t u : Tok) : Meets (Builtin.«int.__format__» ⟨[.int 28 t, .str "d" u], []⟩) (fun _ R s => ∀ t' k, R (.ok (.ret (.str (toString (28 : Int)) t'))) { s with toks := k }) := by revert u; kxf_run_i
theorem gives_d29 (t u : Tok) : Meets (Builtin.«int.__format__» ⟨[.int 29 t, .str "d" u], []⟩) (fun _ R s => ∀ t' k, R (.ok (.ret (.str (toString (29 : Int)) t'))) { s with toks := k }) := by revert u; kxf_run_i
theorem gives_d30 (t u : Tok) : Meets (Builtin.«int.__format__» ⟨[.int 30 t, .str "d" u], []⟩) (fun _ R s => ∀ t' k, R (.ok (.ret (.str (toString (30 : Int)) t'))) { s with toks := k }) := by revert u; kxf_run_i
theorem gives_d31 (t u : Tok) : Meets (Builtin.«int.__format__» ⟨[.int 31 t, .str "d" u], []⟩) (fun _ R s => ∀ t' k, R (.ok (.ret (.str (toString (31 : Int)) t'))) { s with toks := k }) := by revert u; kxf_run_i
theorem gives_d32 (t u : Tok) : Meets (Builtin.«int.__format__» ⟨[.int 32 t, .str "d" u], []⟩) (fun _ R s => ∀ t' k, R (.ok (.ret (.str (toString (32 : Int)) t'))) { s with toks := k }) := by revert u; kxf_run_i
theorem gives_d33 (t u : Tok) : Meets (Builtin.«int.__format__» ⟨[.int 33 t, .str "d" u], []⟩) (fun _ R s => ∀ t' k, R (.ok (.ret (.str (toString (33 : Int)) t'))) { s with toks := k }) := by revert u; kxf_run_i
theorem gives_d34 (t u : Tok) : Meets (Builtin.«int.__format__» ⟨[.int 34 t, .str "d" u], []⟩) (fun _ R s => ∀ t' k, R (.ok (.ret (.str (toString (34 : Int)) t'))) { s with toks := k }) := by revert u; kxf_run_i
theorem gives_d35 (t u : Tok) : Meets (Builtin.«int.__format__» ⟨[.int 35 t, .str "d" u], []⟩) (fun _ R s => ∀ t' k, R (.ok (.ret (.str (toString (35 : Int)) t'))) { s with toks := k }) := by revert u; kxf_run_i
theorem gives_d36 (t u : Tok) : Meets (Builtin.«int.__format__» ⟨[.int 36 t, .str "d" u], []⟩) (fun _ R s => ∀ t' k, R (.ok (.ret (.str (toString (36 : Int)) t'))) { s with toks := k }) := by revert u; kxf_run_i
theorem gives_d37 (t u : Tok) : Meets (Builtin.«int.__format__» ⟨[.int 37 t, .str "d" u], []⟩) (fun _ R s => ∀ t' k, R (.ok (.ret (.str (toString (37 : Int)) t'))) { s with toks := k }) := by revert u; kxf_run_i
theorem gives_d38 (t u : Tok) : Meets (Builtin.«int.__format__» ⟨[.int 38 t, .str "d" u], []⟩) (fun _ R s => ∀ t' k, R (.ok (.ret (.str (toString (38 : Int)) t'))) { s with toks := k }) := by revert u; kxf_run_i
theorem gives_d39 (t u : Tok) : Meets (Builtin.«int.__format__» ⟨[.int 39 t, .str "d" u], []⟩) (fun _ R s => ∀ t' k, R (.ok (.ret (.str (toString (39 : Int)) t'))) { s with toks := k }) := by revert u; kxf_run_i
theorem gives_d40 (t u : Tok) : Meets (Builtin.«int.__format__» ⟨[.int 40 t, .str "d" u], []⟩) (fun _ R s => ∀ t' k, R (.ok (.ret (.str (toString (40 : Int)) t'))) { s with toks := k }) := by revert u; kxf_run_i
theorem gives_d41 (t u : Tok) : Meets (Builtin.«int.__format__» ⟨[.int 41 t, .str "d" u], []⟩) (fun _ R s => ∀ t' k, R (.ok (.ret (.str (toString (41 : Int)) t'))) { s with toks := k }) := by revert u; kxf_run_i
theorem gives_d42 (t u : Tok) : Meets (Builtin.«int.__format__» ⟨[.int 42 t, .str "d" u], []⟩) (fun _ R s => ∀ t' k, R (.ok (.ret (.str (toString (42 : Int)) t'))) { s with toks := k }) := by revert u; kxf_run_i
theorem gives_d43 (t u : Tok) : Meets (Builtin.«int.__format__» ⟨[.int 43 t, .str "d" u], []⟩) (fun _ R s => ∀ t' k, R (.ok (.ret (.str (toString (43 : Int)) t'))) { s with toks := k }) := by revert u; kxf_run_i
theorem gives_d44 (t u : Tok) : Meets (Builtin.«int.__format__» ⟨[.int 44 t, .str "d" u], []⟩) (fun _ R s => ∀ t' k, R (.ok (.ret (.str (toString (44 : Int)) t'))) { s with toks := k }) := by revert u; kxf_run_i
theorem gives_d45 (t u : Tok) : Meets (Builtin.«int.__format__» ⟨[.int 45 t, .str "d" u], []⟩) (fun _ R s => ∀ t' k, R (.ok (.ret (.str (toString (45 : Int)) t'))) { s with toks := k }) := by revert u; kxf_run_i
theorem gives_d46 (t u : Tok) : Meets (Builtin.«int.__format__» ⟨[.int 46 t, .str "d" u], []⟩) (fun _ R s => ∀ t' k, R (.ok (.ret (.str (toString (46 : Int)) t'))) { s with toks := k }) := by revert u; kxf_run_i
theorem gives_d47 (t u : Tok) : Meets (Builtin.«int.__format__» ⟨[.int 47 t, .str "d" u], []⟩) (fun _ R s => ∀ t' k, R (.ok (.ret (.str (toString (47 : Int)) t'))) { s with toks := k }) := by revert u; kxf_run_i
theorem gives_d48 (t u : Tok) : Meets (Builtin.«int.__format__» ⟨[.int 48 t, .str "d" u], []⟩) (fun _ R s => ∀ t' k, R (.ok (.ret (.str (toString (48 : Int)) t'))) { s with toks := k }) := by revert u; kxf_run_i
theorem gives_d49 (t u : Tok) : Meets (Builtin.«int.__format__» ⟨[.int 49 t, .str "d" u], []⟩) (fun _ R s => ∀ t' k, R (.ok (.ret (.str (toString (49 : Int)) t'))) { s with toks := k }) := by revert u; kxf_run_i
theorem gives_d50 (t u : Tok) : Meets (Builtin.«int.__format__» ⟨[.int 50 t, .str "d" u], []⟩) (fun _ R s => ∀ t' k, R (.ok (.ret (.str (toString (50 : Int)) t'))) { s with toks := k }) := by revert u; kxf_run_i
theorem gives_d51 (t u : Tok) : Meets (Builtin.«int.__format__» ⟨[.int 51 t, .str "d" u], []⟩) (fun _ R s => ∀ t' k, R (.ok (.ret (.str (toString (51 : Int)) t'))) { s with toks := k }) := by revert u; kxf_run_i
theorem gives_d52 (t u : Tok) : Meets (Builtin.«int.__format__» ⟨[.int 52 t, .str "d" u], []⟩) (fun _ R s => ∀ t' k, R (.ok (.ret (.str (toString (52 : Int)) t'))) { s with toks := k }) := by revert u; kxf_run_i
theorem gives_d53 (t u : Tok) : Meets (Builtin.«int.__format__» ⟨[.int 53 t, .str "d" u], []⟩) (fun _ R s => ∀ t' k, R (.ok (.ret (.str (toString (53 : Int)) t'))) { s with toks := k }) := by revert u; kxf_run_i
theorem gives_d54 (t u : Tok) : Meets (Builtin.«int.__format__» ⟨[.int 54 t, .str "d" u], []⟩) (fun _ R s => ∀ t' k, R (.ok (.ret (.str (toString (54 : Int)) t'))) { s with toks := k }) := by revert u; kxf_run_i
theorem gives_d55 (t u : Tok) : Meets (Builtin.«int.__format__» ⟨[.int 55 t, .str "d" u], []⟩) (fun _ R s => ∀ t' k, R (.ok (.ret (.str (toString (55 : Int)) t'))) { s with toks := k }) := by revert u; kxf_run_i
theorem gives_d56 (t u : Tok) : Meets (Builtin.«int.__format__» ⟨[.int 56 t, .str "d" u], []⟩) (fun _ R s => ∀ t' k, R (.ok (.ret (.str (toString (56 : Int)) t'))) { s with toks := k }) := by revert u; kxf_run_i
theorem gives_d57 (t u : Tok) : Meets (Builtin.«int.__format__» ⟨[.int 57 t, .str "d" u], []⟩) (fun _ R s => ∀ t' k, R (.ok (.ret (.str (toString (57 : Int)) t'))) { s with toks := k }) := by revert u; kxf_run_i
theorem gives_d58 (t u : Tok) : Meets (Builtin.«int.__format__» ⟨[.int 58 t, .str "d" u], []⟩) (fun _ R s => ∀ t' k, R (.ok (.ret (.str (toString (58 : Int)) t'))) { s with toks := k }) := by revert u; kxf_run_i
theorem gives_d59 (t u : Tok) : Meets (Builtin.«int.__format__» ⟨[.int 59 t, .str "d" u], []⟩) (fun _ R s => ∀ t' k, R (.ok (.ret (.str (toString (59 : Int)) t'))) { s with toks := k }) := by revert u; kxf_run_i
theorem gives_d60 (t u : Tok) : Meets (Builtin.«int.__format__» ⟨[.int 60 t, .str "d" u], []⟩) (fun _ R s => ∀ t' k, R (.ok (.ret (.str (toString (60 : Int)) t'))) { s with toks := k }) := by revert u; kxf_run_i
theorem gives_d61 (t u : Tok) : Meets (Builtin.«int.__format__» ⟨[.int 61 t, .str "d" u], []⟩) (fun _ R s => ∀ t' k, R (.ok (.ret (.str (toString (61 : Int)) t'))) { s with toks := k }) := by revert u; kxf_run_i
theorem gives_d62 (t u : Tok) : Meets (Builtin.«int.__format__» ⟨[.int 62 t, .str "d" u], []⟩) (fun _ R s => ∀ t' k, R (.ok (.ret (.str (toString (62 : Int)) t'))) { s with toks := k }) := by revert u; kxf_run_i
theorem gives_d63 (t u : Tok) : Meets (Builtin.«int.__format__» ⟨[.int 63 t, .str "d" u], []⟩) (fun _ R s => ∀ t' k, R (.ok (.ret (.str (toString (63 : Int)) t'))) { s with toks := k }) := by revert u; kxf_run_i
theorem gives_d : ∀ (n : Nat), n < 64 → ∀ (t u : Tok), Meets (Builtin.«int.__format__» ⟨[.int (n : Int) t, .str "d" u], []⟩) (fun _ R s => ∀ t' k, R (.ok (.ret (.str (toString (n : Int)) t'))) { s with toks := k })
  | 0, _ => gives_d0
  | 1, _ => gives_d1
  | 2, _ => gives_d2
  | 3, _ => gives_d3
  | 4, _ => gives_d4
  | 5, _ => gives_d5
  | 6, _ => gives_d6
  | 7, _ => gives_d7
  | 8, _ => gives_d8
  | 9, _ => gives_d9
  | 10, _ => gives_d10
  | 11, _ => gives_d11
  | 12, _ => gives_d12
  | 13, _ => gives_d13
  | 14, _ => gives_d14
  | 15, _ => gives_d15
  | 16, _ => gives_d16
  | 17, _ => gives_d17
  | 18, _ => gives_d18
  | 19, _ => gives_d19
  | 20, _ => gives_d20
  | 21, _ => gives_d21
  | 22, _ => gives_d22
  | 23, _ => gives_d23
  | 24, _ => gives_d24
  | 25, _ => gives_d25
  | 26, _ => gives_d26
  | 27, _ => gives_d27
  | 28, _ => gives_d28
  | 29, _ => gives_d29
  | 30, _ => gives_d30
  | 31, _ => gives_d31
  | 32, _ => gives_d32
  | 33, _ => gives_d33
  | 34, _ => gives_d34
  | 35, _ => gives_d35
  | 36, _ => gives_d36
  | 37, _ => gives_d37
  | 38, _ => gives_d38
  | 39, _ => gives_d39
  | 40, _ => gives_d40
  | 41, _ => gives_d41
  | 42, _ => gives_d42
  | 43, _ => gives_d43
  | 44, _ => gives_d44
  | 45, _ => gives_d45
  | 46, _ => gives_d46
  | 47, _ => gives_d47
  | 48, _ => gives_d48
  | 49, _ => gives_d49
  | 50, _ => gives_d50
  | 51, _ => gives_d51
  | 52, _ => gives_d52
  | 53, _ => gives_d53
  | 54, _ => gives_d54
  | 55, _ => gives_d55
  | 56, _ => gives_d56
  | 57, _ => gives_d57
  | 58, _ => gives_d58
  | 59, _ => gives_d59
  | 60, _ => gives_d60
  | 61, _ => gives_d61
  | 62, _ => gives_d62
  | 63, _ => gives_d63
  | n + 64, h => absurd h (by omega)

def fFmtD (f : EF) : EF := fun ρ => (f ρ).bind fun x => match x.1 with
  | .int (.ofNat n) => if Nat.blt n 64 then .ok (.str (digS n), false) else .st
  | _ => .st
def fFmt (f : EF) : EF := fun ρ => (f ρ).bind fun x => match x.1 with
  | .str y => if y.length ≤ CAP then .ok (.str y, false) else .st
  | .int i => if i.natAbs.log2 < 1900 then .ok (.str (Str.ofString (toString i)), false) else .st
  | _ => .st
def joinE : List EF → Str → EF
  | [], acc => fun _ => .ok (.str acc, false)
  | f :: fs, acc => fun ρ => (f ρ).bind fun x => match x.1 with
    | .str y => if (sCat acc y).length ≤ CAP then joinE fs (sCat acc y) ρ else .st
    | _ => .st
section
variable {X : Cx} {E : XE} {pos : Pos} {e : Expr} {f : EF}
theorem px_fmtD {k : Nat} {p1 p2 : Pos} (he : PX X E e f) : PX X E (.FormattedValue e (-1) (some (.JoinedStr [.Constant (.str "d") k p1] p2)) pos) (fFmtD f) := by
  refine ⟨fun pins s σ H Q I h => wpAny_FormattedValue_spec ?_⟩
  obtain ⟨F0, H0, F, ρ, S, h⟩ := h
  refine thn (he.run pins s σ H (fun x H1 => ∃ i : Int, x = .int i ∧ 0 ≤ i ∧ i < 64 ∧ Q (.str (toString i)) H1) I ?_) fun v s1 hv => ?_
  · refine tE_bind S h fun d g x F1 H1 x1 S1 r1 h1 => ?_
    cases d with
    | int i =>
      cases i with
      | negSucc n => exact h1.elim
      | ofNat n =>
        simp only at h1
        by_cases hc : Nat.blt n 64 = true
        · rw [if_pos hc] at h1
          have hc := Nat.blt_eq.mp hc
          rw [digS_eq (by omega)] at h1
          exact ⟨_, int_of r1, by simp, by simp; omega, h1.here S1.sub (.str _)⟩
        · rw [if_neg hc] at h1; exact h1.elim
    | _ => exact h1.elim
  · obtain ⟨x, H1, I1, r1, i, rfl, h0, h1, q⟩ := hv
    obtain ⟨t, rfl⟩ := r1
    refine wpAny_JoinedStr_one (thn (pe_str.run pins s1 σ H1 (fun x H2 => x = .str "d" ∧ H2 = H1) I1 ⟨rfl, rfl⟩) fun w s2 hw => ?_)
    obtain ⟨y, H2, I2, r2, rfl, rfl⟩ := hw
    obtain ⟨u, rfl⟩ := r2
    refine ⟨_, u, rfl, ?_⟩
    obtain ⟨n, rfl⟩ : ∃ n : Nat, i = (n : Int) := ⟨i.toNat, by omega⟩
    exact PySem.W.KXf.field_int (spec' := "d") rfl (by decide +kernel) (by decide +kernel) (fun u => gives_d n (by omega) t u) fun t' k => ⟨.str _, H2, I2.tok _, ⟨_, rfl⟩, q⟩
theorem px_fmt (he : PX X E e f) : PX X E (.FormattedValue e (-1) none pos) (fFmt f) := by
  refine ⟨fun pins s σ H Q I h => (pe_fmt he).run pins s σ H Q I ?_⟩
  obtain ⟨F0, H0, F, ρ, S, h⟩ := h
  refine tE_bind S h fun d g x F1 H1 x1 S1 r1 h1 => ?_
  cases d with
  | int i =>
    simp only at h1
    by_cases hc : i.natAbs.log2 < 1900
    · rw [if_pos hc] at h1
      exact .inr ⟨i, int_of r1, by omega, h1.here S1.sub (.str _)⟩
    · rw [if_neg hc] at h1; exact h1.elim
  | str y =>
    simp only at h1
    by_cases hc : y.length ≤ CAP
    · rw [if_pos hc] at h1
      exact .inl ⟨y, str_of r1, cap_line hc, h1.here S1.sub (.str _)⟩
    · rw [if_neg hc] at h1; exact h1.elim
  | _ => exact h1.elim
inductive PJx (X : Cx) (E : XE) : List Expr → List EF → Prop where
  | nil : PJx X E [] []
  | cons {e : Expr} {t : EF} {es : List Expr} {ts : List EF} (h : PX X E e t) (r : PJx X E es ts) : PJx X E (e :: es) (t :: ts)
theorem PJx.pj {es : List Expr} {fs : List EF} (h : PJx X E es fs) : PJ X es (fs.map (tE X.K E)) := by
  induction h with
  | nil => exact .nil
  | cons h r ih => exact .cons h ih
theorem join_data {K : PySem.W.Frag} {F0 H0 : Hp} : ∀ {fs : List EF} {acc : Str} {F H : Hp} {σ : L2.St} {ρ : Env} {Q : VK}, StOk K F0 H0 F H σ ρ → Post K F H E (joinE fs acc ρ) Q → tJs (fs.map (tE K E)) acc σ H fun out H1 => Q (.str out) H1
  | [], acc, F, H, σ, ρ, Q, S, h => h.here S.sub (.str _)
  | f :: fs, acc, F, H, σ, ρ, Q, S, h => by
    refine tE_bind S h fun d g x F1 H1 x1 S1 r1 h1 => ?_
    cases d with
    | str y =>
      simp only [sCat_eq] at h1
      by_cases hc : (acc ++ y).length ≤ CAP
      · rw [if_pos hc] at h1
        exact ⟨y, str_of r1, cap_line hc, join_data S1 h1⟩
      · rw [if_neg hc] at h1; exact h1.elim
    | _ => exact h1.elim
theorem px_joined {v1 v2 : Expr} {rest : List Expr} {fs : List EF} (h : PJx X E (v1 :: v2 :: rest) fs) : PX X E (.JoinedStr (v1 :: v2 :: rest) pos) (joinE fs Str.empty) :=
  ⟨fun pins s σ H Q I ⟨F0, H0, F, ρ, S, hw⟩ => (pe_joined h.pj).run pins s σ H Q I (join_data S hw)⟩
theorem px_joined1 (he : PX X E e f) : PX X E (.JoinedStr [e] pos) f := pe_joined1 he
end
end Pd

/-! Pd7: a dict that is walked while it is locked; d.get. -/
namespace Pd
open PySem PySem.Spec PyProof.Rows L2

/-- G, where d (if it is there) stands as o -/
def lk (d : Addr) (o : HO) (G : Hp) : Hp := fun a => if a = d then (match G d with | none => none | some _ => some o) else G a
theorem lk_at {d : Addr} {o u : HO} {G : Hp} (h : G d = some u) : lk d o G d = some o := by unfold lk; rw [if_pos rfl, h]
theorem lk_no {d : Addr} {o : HO} {G : Hp} (h : G d = none) : lk d o G d = none := by unfold lk; rw [if_pos rfl, h]
theorem lk_ne {d a : Addr} {o : HO} {G : Hp} (h : a ≠ d) : lk d o G a = G a := by unfold lk; rw [if_neg h]
theorem lk_upd {d : Addr} {o u : HO} {G : Hp} (h : G d = some u) : lk d o G = upd G d o := by
  funext a
  by_cases e : a = d
  · subst e; rw [lk_at h, upd_same]
  · rw [lk_ne e, upd_ne e]
theorem lk_lk {d : Addr} {o u : HO} {G : Hp} (h : G d = none ∨ G d = some u) : lk d u (lk d o G) = G := by
  funext a
  by_cases e : a = d
  · subst e
    rcases h with h | h
    · rw [lk_no (lk_no h), h]
    · rw [lk_at (lk_at h), h]
  · rw [lk_ne e, lk_ne e]
/-- u and o are the same dict, locked or not -/
structure SameD (u o : HO) : Prop where
  k : ∀ kvs, (u = .dK kvs ∨ ∃ x, u = .frz x (.dK kvs)) → (o = .dK kvs ∨ ∃ x, o = .frz x (.dK kvs))
  t : ∀ kvs, (u = .dT kvs ∨ ∃ x, u = .frz x (.dT kvs)) → (o = .dT kvs ∨ ∃ x, o = .frz x (.dT kvs))
  nl : ∀ xs, u ≠ .lst xs
  nf : ∀ x xs, u ≠ .frz x (.lst xs)
  nt : ∀ xs, u ≠ .tup xs
  ni : ∀ C dx fs, u ≠ .ins C dx fs
theorem SameD.lockK {kvs : List (Key × V)} {x : Obj} : SameD (.dK kvs) (.frz x (.dK kvs)) where
  k := fun l h => by
    rcases h with h | ⟨y, h⟩ <;> cases h
    exact .inr ⟨_, rfl⟩
  t := fun l h => by
    rcases h with h | ⟨y, h⟩ <;> cases h
  nl := fun _ h => by cases h
  nf := fun _ _ h => by cases h
  nt := fun _ h => by cases h
  ni := fun _ _ _ h => by cases h
theorem SameD.openK {kvs : List (Key × V)} {x : Obj} : SameD (.frz x (.dK kvs)) (.dK kvs) where
  k := fun l h => by
    rcases h with h | ⟨y, h⟩ <;> cases h
    exact .inl rfl
  t := fun l h => by
    rcases h with h | ⟨y, h⟩ <;> cases h
  nl := fun _ h => by cases h
  nf := fun _ _ h => by cases h
  nt := fun _ h => by cases h
  ni := fun _ _ _ h => by cases h
theorem SameD.lockT {kvs : List (List Key × V)} {x : Obj} : SameD (.dT kvs) (.frz x (.dT kvs)) where
  k := fun l h => by
    rcases h with h | ⟨y, h⟩ <;> cases h
  t := fun l h => by
    rcases h with h | ⟨y, h⟩ <;> cases h
    exact .inr ⟨_, rfl⟩
  nl := fun _ h => by cases h
  nf := fun _ _ h => by cases h
  nt := fun _ h => by cases h
  ni := fun _ _ _ h => by cases h
theorem SameD.openT {kvs : List (List Key × V)} {x : Obj} : SameD (.frz x (.dT kvs)) (.dT kvs) where
  k := fun l h => by
    rcases h with h | ⟨y, h⟩ <;> cases h
  t := fun l h => by
    rcases h with h | ⟨y, h⟩ <;> cases h
    exact .inl rfl
  nl := fun _ h => by cases h
  nf := fun _ _ h => by cases h
  nt := fun _ h => by cases h
  ni := fun _ _ _ h => by cases h
section
variable {K : PySem.W.Frag} {F0 H0 F H : Hp} {σ : L2.St} {ρ : Env} {d : Addr} {u o : HO}
theorem rd_lkK (hd : F d = some u) (w : SameD u o) {a : Addr} {kvs : List (Key × V)} (h : Rd F a (.dK kvs)) : Rd (lk d o F) a (.dK kvs) := by
  by_cases e : a = d
  · subst e
    have : o = .dK kvs ∨ ∃ x, o = .frz x (.dK kvs) := w.k kvs (by
      rcases h with h | ⟨x, h⟩
      · rw [hd] at h; exact .inl (Option.some.inj h)
      · rw [hd] at h; exact .inr ⟨x, Option.some.inj h⟩)
    rcases this with q | ⟨x, q⟩
    · exact .inl (by rw [lk_at hd, q])
    · exact .inr ⟨x, by rw [lk_at hd, q]⟩
  · rcases h with h | ⟨x, h⟩
    · exact .inl (by rw [lk_ne e]; exact h)
    · exact .inr ⟨x, by rw [lk_ne e]; exact h⟩
theorem rd_lkT (hd : F d = some u) (w : SameD u o) {a : Addr} {kvs : List (List Key × V)} (h : Rd F a (.dT kvs)) : Rd (lk d o F) a (.dT kvs) := by
  by_cases e : a = d
  · subst e
    have : o = .dT kvs ∨ ∃ x, o = .frz x (.dT kvs) := w.t kvs (by
      rcases h with h | ⟨x, h⟩
      · rw [hd] at h; exact .inl (Option.some.inj h)
      · rw [hd] at h; exact .inr ⟨x, Option.some.inj h⟩)
    rcases this with q | ⟨x, q⟩
    · exact .inl (by rw [lk_at hd, q])
    · exact .inr ⟨x, by rw [lk_at hd, q]⟩
  · rcases h with h | ⟨x, h⟩
    · exact .inl (by rw [lk_ne e]; exact h)
    · exact .inr ⟨x, by rw [lk_ne e]; exact h⟩
theorem sq_lk (hd : F d = some u) (w : SameD u o) {a : Addr} {xs : List V} (h : SqL K F a xs) : SqL K (lk d o F) a xs := by
  rcases h with h | h
  · left
    have e : a ≠ d := fun e => by
      subst e
      rcases h with h | ⟨x, h⟩
      · rw [hd] at h; exact w.nl _ (Option.some.inj h)
      · rw [hd] at h; exact w.nf _ _ (Option.some.inj h)
    rcases h with h | ⟨x, h⟩
    · exact .inl (by rw [lk_ne e]; exact h)
    · exact .inr ⟨x, by rw [lk_ne e]; exact h⟩
  · exact .inr h
mutual
theorem Rp.lk (hd : F d = some u) (w : SameD u o) : ∀ {x : D} {v : V}, Rp K F v x → Rp K (Pd.lk d o F) v x
  | .non, _, h => by cases h; exact .non
  | .bl b, _, h => by cases h; exact .bl b
  | .int i, _, h => by cases h; exact .int i
  | .str x, _, h => by cases h; exact .str x
  | .tup ds, _, h => by
    cases h with
    | @tup a _ _ h1 h2 =>
      have e : a ≠ d := fun e => by subst e; rw [hd] at h1; exact w.nt _ (Option.some.inj h1)
      exact .tup (by rw [lk_ne e]; exact h1) (RpL.lk hd w h2)
  | .lst ds, _, h => by
    cases h with
    | @lst a _ _ h1 h2 =>
      have e : a ≠ d := fun e => by subst e; rw [hd] at h1; exact w.nl _ (Option.some.inj h1)
      exact .lst (by rw [lk_ne e]; exact h1) (RpL.lk hd w h2)
  | .scr ns, _, h => by cases h with | scr h1 => exact .scr (sq_lk hd w h1)
  | .dic t ds, _, h => by
    cases h with
    | dicK h1 h2 => exact .dicK (rd_lkK hd w h1) (RpK.lk hd w h2)
    | dicT h1 h2 => exact .dicT (rd_lkT hd w h1) (RpT.lk hd w h2)
  | .kin _ _ _, _, h => by
    cases h with
    | @kin a _ _ _ _ _ hc h1 =>
      have e : a ≠ d := fun e => by subst e; rw [hd] at h1; exact w.ni _ _ _ (Option.some.inj h1)
      exact .kin hc (by rw [lk_ne e]; exact h1)
theorem RpL.lk (hd : F d = some u) (w : SameD u o) : ∀ {ds : List D} {vs : List V}, RpL K F vs ds → RpL K (Pd.lk d o F) vs ds
  | [], _, h => by cases h; exact .nil
  | _ :: ds, _, h => by cases h with | cons h1 h2 => exact .cons (Rp.lk hd w h1) (RpL.lk hd w h2)
theorem RpK.lk (hd : F d = some u) (w : SameD u o) : ∀ {ds : List (D × D)} {vs : List (Key × V)}, RpK K F vs ds → RpK K (Pd.lk d o F) vs ds
  | [], _, h => by cases h; exact .nil
  | (_, _) :: ds, _, h => by cases h with | cons h1 h2 => exact .cons (Rp.lk hd w h1) (RpK.lk hd w h2)
theorem RpT.lk (hd : F d = some u) (w : SameD u o) : ∀ {ds : List (D × D)} {vs : List (List Key × V)}, RpT K F vs ds → RpT K (Pd.lk d o F) vs ds
  | [], _, h => by cases h; exact .nil
  | (_, _) :: ds, _, h => by cases h with | cons h1 h2 => exact .cons (Rp.lk hd w h1) (RpT.lk hd w h2)
end
theorem sb_lk {G : Hp} (s : Sb F G) : Sb (lk d o F) (lk d o G) := fun a x h => by
  by_cases e : a = d
  · subst e
    cases q : F a with
    | none => rw [lk_no q] at h; cases h
    | some y => rw [lk_at q] at h; rw [lk_at (s _ _ q)]; exact h
  · rw [lk_ne e] at h ⊢; exact s a x h
theorem Fr.lk (x : Fr F0 H0 F H) (hd : F d = some u) (nt : ∀ xs, u ≠ .tup xs) : Fr (Pd.lk d o F0) (Pd.lk d o H0) (Pd.lk d o F) (Pd.lk d o H) :=
  ⟨sb_lk x.sF, sb_lk x.sH, sb_lk x.kp, fun a y h => by
    by_cases e : a = d
    · subst e
      rw [lk_at hd] at h
      rcases x.nw _ _ hd with q | q | ⟨xs, q⟩
      · left; rw [lk_at q]; exact h
      · right; left; exact lk_no q
      · exact absurd q (nt xs)
    · rw [lk_ne e] at h ⊢; rw [lk_ne e]; exact x.nw a y h⟩
theorem Held.lk {Hx : Hp} {v : V} {x : D} {f : Bool} (h : Held K F H Hx v x f) (hd : F d = some u) (w : SameD u o) : Held K (Pd.lk d o F) (Pd.lk d o H) (Pd.lk d o Hx) v x f := by
  cases f with
  | false => exact Rp.lk hd w h
  | true =>
    obtain ⟨a, rfl, h1, h2, q⟩ := h
    have e : a ≠ d := fun e => by subst e; rw [hd] at h1; cases h1
    refine ⟨a, rfl, by rw [lk_ne e]; exact h1, by rw [lk_ne e]; exact h2, ?_⟩
    cases q with
    | lst k r => exact .lst (by rw [lk_ne e]; exact k) (RpL.lk hd w r)
    | dicK k r => exact .dicK (by rw [lk_ne e]; exact k) (RpK.lk hd w r)
    | dicT k r => exact .dicT (by rw [lk_ne e]; exact k) (RpT.lk hd w r)
theorem StOk.lk (S : StOk K F0 H0 F H σ ρ) (hd : F d = some u) (w : SameD u o) : StOk K (Pd.lk d o F0) (Pd.lk d o H0) (Pd.lk d o F) (Pd.lk d o H) σ ρ :=
  ⟨S.fr.lk hd w.nt, S.len, fun i x f e => let ⟨v, h1, h2⟩ := S.sl i x f e; ⟨v, h1, h2.lk hd w⟩, S.dj⟩
end

/-! ### the keys of a locked dict -/
theorem RpK.getK {K : PySem.W.Frag} {F : Hp} : ∀ {ds : List (D × D)} {kvs : List (Key × V)} {i : Nat} {p : Key × V}, RpK K F kvs ds → kvs[i]? = some p → (ds.map Prod.fst)[i]? = some (dK p.1)
  | [], _, _, _, h, e => by cases h; simp at e
  | (_, _) :: ds, _, i, p, h, e => by
    cases h with
    | cons h1 h2 =>
      cases i with
      | zero => simp at e; subst e; rfl
      | succ i => simpa using RpK.getK h2 (by simpa using e)
theorem RpT.getK {K : PySem.W.Frag} {F : Hp} : ∀ {ds : List (D × D)} {kvs : List (List Key × V)} {i : Nat} {p : List Key × V}, RpT K F kvs ds → kvs[i]? = some p → (ds.map Prod.fst)[i]? = some (.tup (p.1.map dK))
  | [], _, _, _, h, e => by cases h; simp at e
  | (_, _) :: ds, _, i, p, h, e => by
    cases h with
    | cons h1 h2 =>
      cases i with
      | zero => simp at e; subst e; rfl
      | succ i => simpa using RpT.getK h2 (by simpa using e)
theorem walk_keys {K : PySem.W.Frag} {F1 : Hp} {d : Addr} {o : Obj} {kvs : List (Key × V)} {ds : List (D × D)} (h : F1 d = some (.frz o (.dK kvs))) (r : RpK K F1 kvs ds) : WalkD K (Itk d o kvs) (ds.map Prod.fst) F1 where
  go := fun i F H s1 s2 hi => ⟨s2 _ _ (s1 _ _ h), by rw [r.length]; simpa using hi⟩
  yld := fun i F H x H' s1 s2 hi y => by
    obtain ⟨rfl, k, v, e, rfl⟩ := y
    exact ⟨dK k, F, r.getK e, .refl s2, rp_keyV k⟩
  stop := fun i F H s1 s2 hi => ⟨s2 _ _ (s1 _ _ h), by rw [r.length]; simpa using hi⟩
theorem walk_keysT {K : PySem.W.Frag} {F1 : Hp} {d : Addr} {o : Obj} {kvs : List (List Key × V)} {ds : List (D × D)} (h : F1 d = some (.frz o (.dT kvs))) (r : RpT K F1 kvs ds) : WalkD K (Itkt d o kvs) (ds.map Prod.fst) F1 where
  go := fun i F H s1 s2 hi => ⟨s2 _ _ (s1 _ _ h), by rw [r.length]; simpa using hi⟩
  yld := fun i F H x H' s1 s2 hi y => by
    obtain ⟨rfl, k, v, q, e, rfl, hq⟩ := y
    refine ⟨_, upd F q (.tup (k.map kV)), r.getK e, ⟨fun a u e => ?_, fun a u e => ?_, .refl _, fun a u e => ?_⟩, .tup upd_same (rpl_keysV k)⟩
    · by_cases ha : a = q
      · subst ha; rw [upd_same, ← hq]; exact s2 _ _ e
      · rw [upd_ne ha]; exact e
    · by_cases ha : a = q
      · subst ha; rw [upd_same] at e; rw [hq]; exact e
      · rw [upd_ne ha] at e; exact s2 _ _ e
    · by_cases ha : a = q
      · subst ha; rw [upd_same] at e; cases e; exact .inr (.inr ⟨_, rfl⟩)
      · rw [upd_ne ha] at e; exact .inl e
  stop := fun i F H s1 s2 hi => ⟨s2 _ _ (s1 _ _ h), by rw [r.length]; simpa using hi⟩

def noEx : Out → Out
  | .ex _ => .st
  | o => o
/-- for tg in x, a dict -/
def sForD (i : Nat) (g : D → Env → Option Env) (sb : SF) : SF := fun ρ => match ρ[i]? with
  | some (some (.dic _ kvs, false)) => noEx (forL g sb (kvs.map Prod.fst) ρ)
  | _ => .st
section
variable {X : Cx} {E : XE} {pos px : Pos} {x : Str} {tg : Expr} {body : List Stmt} {t : TG} {g : D → Env → Option Env} {sb : SF}
theorem noEx_post {K : PySem.W.Frag} {F0 H0 : Hp} {D : Ends} {o : Out} (h : PostS K F0 H0 E D (noEx o)) : PostS K F0 H0 noE D o := by
  cases o with
  | ex c => exact h.elim
  | nx ρ => exact h
  | rt d f => exact h
  | st => exact h
/-- what is wanted behind the lock -/
theorem lock_post {K : PySem.W.Frag} {F0 H0 F H : Hp} {σ : L2.St} {ρ : Env} {d : Addr} {u : HO} {od : Obj} {D : Ends} {out : Out} {bk ct : L2.St → Hp → Prop} (S : StOk K F0 H0 F H σ ρ) (hd : F d = some u) (w : SameD u (.frz od u)) (w' : SameD (.frz od u) u) (h : PostS K F0 H0 noE D out) :
    PostS K (lk d (.frz od u) F) (lk d (.frz od u) H0) noE ⟨fun σ' H' => H' d = some (.frz od u) ∧ D.nx σ' (upd H' d u), fun v H' => H' d = some (.frz od u) ∧ D.rt v (upd H' d u), bk, ct⟩ out := by
  have h0 : H0 d = none ∨ H0 d = some u := by
    cases q : H0 d with
    | none => exact .inl rfl
    | some y => exact .inr (((S.fr.kp _ _ q).symm.trans (S.fr.sH _ _ hd)))
  cases out with
  | nx ρ' =>
    intro σ2 F2 H2 S2
    have e2 : F2 d = some (.frz od u) := S2.fr.sF _ _ (lk_at hd)
    have eH : H2 d = some (.frz od u) := S2.fr.sH _ _ e2
    have S3 := S2.lk e2 w'
    rw [lk_lk h0, lk_lk (.inr hd), lk_upd eH] at S3
    exact ⟨eH, h σ2 _ _ (S3.lower S.fr)⟩
  | rt y f =>
    intro v F2 H2 x2 hh
    have e2 : F2 d = some (.frz od u) := x2.sF _ _ (lk_at hd)
    have eH : H2 d = some (.frz od u) := x2.sH _ _ e2
    have x3 := x2.lk (d := d) (o := u) e2 w'.nt
    have h3 := hh.lk e2 w'
    rw [lk_lk h0, lk_lk (.inr hd), lk_upd eH] at x3
    rw [lk_lk h0, lk_upd eH] at h3
    exact ⟨eH, h v _ _ (x3.lower S.fr) h3⟩
  | ex c => exact fun _ _ => h H0 (.refl _)
  | st => exact h
theorem pz_forD (i : Nat) (hp : PassesOwn (model X.prog X.w) X.A X.env X.xe) (hc : X.calm = true) (hg : PG X tg t) (hd : TgD X.K t g) (hb : PZs X noE body sb) (hN : X.N[i]? = some x := by rfl)
    (hv : Vis X.env.scope x := by first | exact Or.inl rfl | exact Or.inr (Or.inl rfl) | exact Or.inr (Or.inr rfl)) (hdb : (x == ("__debug__" : Str)) = false := by decide) (hcd : (x == ("__classdict__" : Str)) = false := by decide)
    (hs : ∀ y, foldedSetIterable (.Name x px) X.env y = pure y := by intro _; rfl) : PZ X E (.For tg (.Name x px) body [] pos) (sForD i g sb) := fun F0 H0 => by
  refine ⟨fun pins s' σ H D I h => ?_⟩
  have base := ps_for (pos := pos) hp hc (pi_keys (tg := tg) (pe_var (i := i) (pos := px) hN hv hdb hcd)) hg (any_body hb) hs
  obtain ⟨F, ρ, S, h⟩ := h
  unfold sForD at h
  split at h
  · rename_i t0 kvs ei
    obtain ⟨v, ev, r⟩ := S.sl i _ false ei
    have h := noEx_post h
    cases r with
    | @dicK a vs _ hr rk =>
      rcases hr with hr | ⟨od, hr⟩
      · refine (ps_lock base).run pins s' σ H D I ⟨a, .dK vs, S.sub _ _ hr, trivial, fun od => ?_⟩
        have S1 := S.lk (o := .frz od (.dK vs)) hr .lockK
        rw [lk_upd (S.sub _ _ hr)] at S1
        refine ⟨_, ev, a, od, rfl, .inl ⟨vs, upd_same, ?_⟩⟩
        have S2 := S1.raise S1.fr (.refl _)
        exact for_data hd S2 (lock_post (bk := _) (ct := _) S hr .lockK .openK h) (walk_keys (lk_at hr) (rk.lk hr .lockK))
      · refine base.run pins s' σ H D I ⟨_, ev, a, od, rfl, .inl ⟨vs, S.sub _ _ hr, ?_⟩⟩
        exact for_data hd S h (walk_keys hr rk)
    | @dicT a vs _ hr rk =>
      rcases hr with hr | ⟨od, hr⟩
      · refine (ps_lock base).run pins s' σ H D I ⟨a, .dT vs, S.sub _ _ hr, trivial, fun od => ?_⟩
        have S1 := S.lk (o := .frz od (.dT vs)) hr .lockT
        rw [lk_upd (S.sub _ _ hr)] at S1
        refine ⟨_, ev, a, od, rfl, .inr ⟨vs, upd_same, ?_⟩⟩
        have S2 := S1.raise S1.fr (.refl _)
        exact for_data hd S2 (lock_post (bk := _) (ct := _) S hr .lockT .openT h) (walk_keysT (lk_at hr) (rk.lk hr .lockT))
      · refine base.run pins s' σ H D I ⟨_, ev, a, od, rfl, .inr ⟨vs, S.sub _ _ hr, ?_⟩⟩
        exact for_data hd S h (walk_keysT hr rk)
  · exact h.elim
end

/-! ### a comprehension over a dict -/
def fLcD (i : Nat) (g : D → Env → Option Env) (ft : Env → R Bool) (fe : EF) (vs : List Nat) : EF := fun ρ => match ρ[i]? with
  | some (some (.dic _ kvs, false)) => (match lcL g ft fe (wipeE ρ vs) (kvs.map Prod.fst) with
    | .ok l => if l.length ≤ CAP then .ok (.lst l, true) else .st
    | .ex _ => .st
    | .st => .st)
  | _ => .st
section
variable {K : PySem.W.Frag} {F0 H0 F H : Hp} {σ : L2.St} {ρ : Env}
theorem lcd_loop {J : It} {ds out : List D} {g : D → Env → Option Env} {t : TG} {tt : TT} {ft : Env → R Bool} {fe : EF} {vs : List Nat} {Q : VK} (hd : TgD K t g) (ho : TgW g t vs) (ht : TtD K tt ft) (S : StOk K F0 H0 F H σ ρ) (w : WalkD K J ds F)
    (e : lcL g ft fe (wipeE ρ vs) ds = .ok out) (hc : out.length ≤ CAP) (h : Post K F H noE (.ok (.lst out, true)) Q) :
    ∀ p, H p = none → ∃ W : Nat → Nat → Hp → Prop, (∃ m, W 0 m (upd H p (.lst []))) ∧ ∀ i m H, W i m H → (J.stop i H ∧ Q (.ref p) H) ∨ (J.go i H ∧ ∃ Nx : Hp → Prop, (∀ H', Nx H' → ∃ m', m' < m ∧ W (i + 1) m' H') ∧
      ∀ x H', J.yld i H x H' → t x (L2.wipe σ vs) H' fun σ2 H2 => L2.wipe σ2 vs = L2.wipe σ vs ∧ tt σ2 H2 fun b H3 => if b = true then tE K noE fe σ2 H3 fun y H4 => ∃ acc, H4 p = some (.lst acc) ∧ acc.length < sizeLine ∧ Nx (upd H4 p (.lst (acc ++ [y]))) else Nx H3) := by
  intro p hp
  have hF := none_of_sb S.sub hp
  exact lc_loop hd ho ht (fun _ _ _ h => h) S hp ((Fr.refl S.sub).poke hp hF) hF upd_same .nil w e (by simpa using hc) fun F2 H2 acc x2 _ hD2 hl2 r2 => h _ F2 H2 x2 ⟨p, rfl, hD2, hp, .lst hl2 r2⟩
theorem lock_postE {d : Addr} {u : HO} {od : Obj} {l : List D} {Q : VK} (S : StOk K F0 H0 F H σ ρ) (hd : F d = some u) (w' : SameD (.frz od u) u) (h : Post K F H noE (.ok (.lst l, true)) Q) :
    Post K (lk d (.frz od u) F) (lk d (.frz od u) H) noE (.ok (.lst l, true)) fun v H' => H' d = some (.frz od u) ∧ Q v (upd H' d u) := by
  intro v F2 H2 x2 hh
  have e2 : F2 d = some (.frz od u) := x2.sF _ _ (lk_at hd)
  have eH : H2 d = some (.frz od u) := x2.sH _ _ e2
  have x3 := x2.lk (d := d) (o := u) e2 w'.nt
  have h3 := hh.lk e2 w'
  rw [lk_lk (.inr (S.sub _ _ hd)), lk_lk (.inr hd), lk_upd eH] at x3
  rw [lk_lk (.inr (S.sub _ _ hd)), lk_upd eH] at h3
  exact ⟨eH, h v _ _ x3 h3⟩
end
section
variable {X : Cx} {E : XE} {tg elt : Expr} {ifs : List Expr} {scope : Scope} {pos px : Pos} {g : D → Env → Option Env} {t : TG} {tt : TT} {ft : Env → R Bool} {fe : EF} {x : Str}
theorem px_lcD (i : Nat) (own : List (Str × Nat)) (hc : X.calm = true) (hN : X.N.Nodup) (ok : blkC X.N X.env.scope scope own = true) (hg : InBlk X scope fun Y => PG Y tg t) (hd : TgD X.K t g) (ho : TgW g t (own.map (·.2)))
    (ht : InBlk X scope fun Y => PTs Y ifs tt) (htd : TtD X.K tt ft) (he : InBlk X scope fun Y => PX Y noE elt fe) (hNi : X.N[i]? = some x := by rfl)
    (hv : Vis X.env.scope x := by first | exact Or.inl rfl | exact Or.inr (Or.inl rfl) | exact Or.inr (Or.inr rfl)) (hdb : (x == ("__debug__" : Str)) = false := by decide) (hcd : (x == ("__classdict__" : Str)) = false := by decide)
    (hs : ∀ y, foldedSetIterable (.Name x px) X.env y = pure y := by intro _; rfl) : PX X E (.ListComp elt [⟨tg, .Name x px, ifs, 0⟩] scope pos) (fLcD i g ft fe (own.map (·.2))) := by
  have base := pe_lc (te := tE X.K noE fe) (pos := pos) hc hN (pi_keys (tg := tg) (pe_var (i := i) (pos := px) hNi hv hdb hcd)) (blkOk_by ok) hg ht he hs
  refine ⟨fun pins s σ H Q I h => ?_⟩
  obtain ⟨F0, H0, F, ρ, S, h⟩ := h
  unfold fLcD at h
  split at h
  · rename_i t0 kvs ei
    obtain ⟨v, ev, r⟩ := S.sl i _ false ei
    cases e2 : lcL g ft fe (wipeE ρ (own.map (·.2))) (kvs.map Prod.fst) with
    | ex c => rw [e2] at h; exact h.elim
    | st => rw [e2] at h; exact h.elim
    | ok out =>
      rw [e2] at h
      simp only at h
      by_cases hcp : out.length ≤ CAP
      case neg => rw [if_neg hcp] at h; exact h.elim
      rw [if_pos hcp] at h
      have h' : Post X.K F H noE (.ok (.lst out, true)) Q := h
      cases r with
      | @dicK a vs _ hr rk =>
        rcases hr with hr | ⟨od, hr⟩
        · refine (pe_lock base).run pins s σ H Q I ⟨a, .dK vs, S.sub _ _ hr, trivial, fun od => ?_⟩
          have S1 := S.lk (o := .frz od (.dK vs)) hr .lockK
          have hp := lock_postE (od := od) S hr .openK h'
          rw [lk_upd (S.sub _ _ hr)] at S1 hp
          exact ⟨_, ev, a, od, rfl, .inl ⟨vs, upd_same, lcd_loop hd ho htd S1 (walk_keys (lk_at hr) (rk.lk hr .lockK)) e2 hcp hp⟩⟩
        · exact base.run pins s σ H Q I ⟨_, ev, a, od, rfl, .inl ⟨vs, S.sub _ _ hr, lcd_loop hd ho htd S (walk_keys hr rk) e2 hcp h'⟩⟩
      | @dicT a vs _ hr rk =>
        rcases hr with hr | ⟨od, hr⟩
        · refine (pe_lock base).run pins s σ H Q I ⟨a, .dT vs, S.sub _ _ hr, trivial, fun od => ?_⟩
          have S1 := S.lk (o := .frz od (.dT vs)) hr .lockT
          have hp := lock_postE (od := od) S hr .openT h'
          rw [lk_upd (S.sub _ _ hr)] at S1 hp
          exact ⟨_, ev, a, od, rfl, .inr ⟨vs, upd_same, lcd_loop hd ho htd S1 (walk_keysT (lk_at hr) (rk.lk hr .lockT)) e2 hcp hp⟩⟩
        · exact base.run pins s σ H Q I ⟨_, ev, a, od, rfl, .inr ⟨vs, S.sub _ _ hr, lcd_loop hd ho htd S (walk_keysT hr rk) e2 hcp h'⟩⟩
  · exact h.elim
end

/-! ### d.get(k), d.get(k, x) -/
def fGet2 (fd fk fz : EF) : EF := fun ρ => (fd ρ).bind fun x => match x.1 with
  | .dic t kvs => (fk ρ).bind fun y => (fz ρ).bind fun z => if okKey t y.1 then .ok ((dGet kvs y.1).getD z.1, false) else .st
  | _ => .st
theorem isD_of {K : PySem.W.Frag} {F H : Hp} {v : V} {t : Bool} {kvs : List (D × D)} (s : Sb F H) (r : Rp K F v (.dic t kvs)) : ∃ a, v = .ref a ∧ IsD H a := by
  cases r with
  | dicK h _ => exact ⟨_, rfl, .inl ⟨_, rd_mono s h⟩⟩
  | dicT h _ => exact ⟨_, rfl, .inr ⟨_, rd_mono s h⟩⟩
section
variable {X : Cx} {E : XE} {o e f : Expr} {apos cpos : Pos} {fd fk fz : EF}
theorem px_get2 (hu : X.A.units + 1 < cLine) (ho : PX X E o fd) (he : PX X E e fk) (hf : PX X E f fz) (hbase : attributeBase o "get" X.env (eval o X.env) = eval o X.env := by rfl)
    (hfew : ((backTo cpos (starEach [e, f] X.env)).all (fun x => !x.1) && (backToKw cpos (keywordEach [] X.env)).all (fun x => x.1.isSome)
      && decide (([e, f] : List Expr).length + ([] : List Keyword).length + (if ([] : List Keyword).isEmpty then 0 else 1) < 30)) = true := by rfl)
    (hline : (apos.endLine == cpos.line) = true := by rfl) (htr : backTo cpos (starEach [e, f] X.env) = [(false, eval e X.env), (false, eval f X.env)] := by rfl) :
    PX X E (.Call (.Attribute o "get" apos) [e, f] [] cpos) (fGet2 fd fk fz) := by
  refine ⟨fun pins s σ H Q I h => (pe_dget2 hu ho he hf ⟨hbase, hfew, hline, htr⟩).run pins s σ H Q I ?_⟩
  obtain ⟨F0, H0, F, ρ, S, h⟩ := h
  refine ⟨F0, H0, F, ρ, S, ?_⟩
  unfold fGet2 at h
  cases e1 : fd ρ with
  | ex c => rw [e1] at h; exact h
  | st => rw [e1] at h; exact h
  | ok p =>
    obtain ⟨x, g⟩ := p
    rw [e1] at h
    intro v F1 H1 x1 hh
    obtain ⟨F2, x2, r⟩ := held_share x1 hh
    have h1 : Post X.K F2 H1 E _ Q := Post.step h x2
    have S1 := S.step x2
    cases x with
    | dic t kvs =>
      obtain ⟨a, rfl, hD⟩ := isD_of S1.sub r
      refine ⟨a, rfl, hD, ?_⟩
      refine tE_bind S1 h1 fun dk g1 y F3 H3 x3 S3 r3 h3 => ?_
      refine tE_bind S3 h3 fun dz g2 z F4 H4 x4 S4 r4 h4 => ?_
      by_cases ok : okKey t dk = true
      case neg => rw [if_neg ok] at h4; exact h4.elim
      rw [if_pos ok] at h4
      obtain ⟨b, ov, eb, hg, ro⟩ := dget_of S4.sub ((r.mono x3.sF).mono x4.sF) (r3.mono x4.sF) ok
      cases eb
      refine ⟨ov, hg, h4.here S4.sub ?_⟩
      cases ov with
      | none =>
        cases q : dGet kvs dk with
        | none => exact r4
        | some w => rw [q] at ro; exact ro.elim
      | some w =>
        cases q : dGet kvs dk with
        | none => rw [q] at ro; exact ro.elim
        | some w' => rw [q] at ro; exact ro
    | _ => exact h1.elim
end
end Pd

/-! Pd8: sorted, of ints, texts, tuples and lists of these. -/
namespace Pd
open PySem PySem.Spec PyProof.Rows L2 PySem.W

/-! ### insertion sort is the merge sort -/
def ins {α : Type} (le : α → α → Bool) (x : α) : List α → List α
  | [] => [x]
  | y :: ys => if le x y then x :: y :: ys else y :: ins le x ys
def isort {α : Type} (le : α → α → Bool) : List α → List α
  | [] => []
  | x :: xs => ins le x (isort le xs)
section
variable {α : Type} {le : α → α → Bool}
theorem ins_mem {x z : α} : ∀ {l : List α}, z ∈ ins le x l → z = x ∨ z ∈ l
  | [], h => by simp [ins] at h; exact .inl h
  | y :: ys, h => by
    unfold ins at h
    split at h
    · rcases List.mem_cons.mp h with h | h
      · exact .inl h
      · exact .inr h
    · rcases List.mem_cons.mp h with h | h
      · exact .inr (h ▸ List.mem_cons_self)
      · rcases ins_mem h with h | h
        · exact .inl h
        · exact .inr (List.mem_cons_of_mem _ h)
theorem ins_pw (T : TotalLe le) {x : α} : ∀ {l : List α}, l.Pairwise (fun a b => le a b = true) → (ins le x l).Pairwise (fun a b => le a b = true)
  | [], _ => by simp [ins]
  | y :: ys, h => by
    obtain ⟨h1, h2⟩ := List.pairwise_cons.mp h
    unfold ins
    split
    · rename_i c
      refine List.pairwise_cons.mpr ⟨fun z hz => ?_, h⟩
      rcases List.mem_cons.mp hz with e | e
      · subst e; exact c
      · exact T.trans _ _ _ c (h1 z e)
    · rename_i c
      refine List.pairwise_cons.mpr ⟨fun z hz => ?_, ins_pw T h2⟩
      rcases ins_mem hz with e | e
      · subst e; rcases T.total z y with q | q
        · exact absurd q c
        · exact q
      · exact h1 z e
theorem isort_pw (T : TotalLe le) : ∀ l : List α, (isort le l).Pairwise (fun a b => le a b = true)
  | [] => List.Pairwise.nil
  | x :: xs => ins_pw T (isort_pw T xs)
theorem ins_filter (T : TotalLe le) (c x : α) : ∀ l : List α, (ins le x l).filter (sameRank le c) = (x :: l).filter (sameRank le c)
  | [] => rfl
  | y :: ys => by
    unfold ins
    split
    · rfl
    · rename_i h
      simp only [List.filter_cons, ins_filter T c x ys]
      by_cases hx : sameRank le c x = true
      · by_cases hy : sameRank le c y = true
        · exfalso
          unfold sameRank at hx hy
          simp only [Bool.and_eq_true] at hx hy
          exact h (T.trans _ _ _ hx.2 hy.1)
        · simp [hx, hy]
      · simp [hx]
theorem isort_filter (T : TotalLe le) (c : α) : ∀ l : List α, (isort le l).filter (sameRank le c) = l.filter (sameRank le c)
  | [] => rfl
  | x :: xs => by
    show (ins le x (isort le xs)).filter _ = _
    rw [ins_filter T, List.filter_cons, List.filter_cons, isort_filter T c xs]
theorem isort_merge (T : TotalLe le) (l : List α) : isort le l = l.mergeSort le := sort_unique T (isort_pw T l) fun c => isort_filter T c l
theorem isort_mem {z : α} : ∀ {l : List α}, z ∈ isort le l → z ∈ l
  | x :: xs, h => by
    rcases ins_mem h with e | e
    · subst e; exact List.mem_cons_self
    · exact List.mem_cons_of_mem _ (isort_mem e)
theorem ins_congr {le' : α → α → Bool} {x : α} : ∀ {l : List α}, (∀ y ∈ l, le x y = le' x y) → ins le x l = ins le' x l
  | [], _ => rfl
  | y :: ys, h => by
    unfold ins
    rw [h y List.mem_cons_self, ins_congr fun z hz => h z (List.mem_cons_of_mem _ hz)]
theorem isort_congr {le' : α → α → Bool} : ∀ {l : List α}, (∀ x ∈ l, ∀ y ∈ l, le x y = le' x y) → isort le l = isort le' l
  | [], _ => rfl
  | x :: xs, h => by
    show ins le x (isort le xs) = ins le' x (isort le' xs)
    rw [← isort_congr (fun a ha b hb => h a (List.mem_cons_of_mem _ ha) b (List.mem_cons_of_mem _ hb))]
    exact ins_congr fun y hy => h x List.mem_cons_self y (List.mem_cons_of_mem _ (isort_mem hy))
end

/-! ### data that compare -/
mutual
def alk : D → D → Bool
  | .int _, d => match d with | .int _ => true | _ => false
  | .str _, d => match d with | .str _ => true | _ => false
  | .tup xs, d => match d with | .tup ys => alkL xs ys | _ => false
  | .lst xs, d => match d with | .lst ys => alkL xs ys | _ => false
  | .non, _ => false | .bl _, _ => false | .dic _ _, _ => false | .scr _, _ => false | .kin _ _ _, _ => false
def alkL : List D → List D → Bool
  | [], _ => true
  | x :: xs, ys => match ys with | [] => true | y :: ys => alk x y && alkL xs ys
end
mutual
theorem alk_py : ∀ (a b : D), alk a b = true → alike (py a) (py b) = true
  | .int _, b, h => by cases b <;> simp_all [alk, py, alike]
  | .str _, b, h => by cases b <;> simp_all [alk, py, alike]
  | .tup xs, b, h => by
    cases b with
    | tup ys => simp only [alk] at h; simp only [py, alike]; exact alkL_py xs ys h
    | _ => simp [alk] at h
  | .lst xs, b, h => by
    cases b with
    | lst ys => simp only [alk] at h; simp only [py, alike]; exact alkL_py xs ys h
    | _ => simp [alk] at h
  | .non, _, h => by simp [alk] at h
  | .bl _, _, h => by simp [alk] at h
  | .dic _ _, _, h => by simp [alk] at h
  | .scr _, _, h => by simp [alk] at h
  | .kin _ _ _, _, h => by simp [alk] at h
theorem alkL_py : ∀ (a b : List D), alkL a b = true → alikeAll (pyL a) (pyL b) = true
  | [], b, _ => by cases b <;> simp [pyL, alikeAll]
  | x :: xs, [], _ => by simp [pyL, alikeAll]
  | x :: xs, y :: ys, h => by
    simp only [alkL, Bool.and_eq_true] at h
    simp only [pyL, alikeAll, Bool.and_eq_true]
    exact ⟨alk_py x y h.1, alkL_py xs ys h.2⟩
end
mutual
def ltD : D → D → Bool
  | .int i, d => match d with | .int j => decide (i < j) | _ => false
  | .str i, d => match d with | .str j => strLt i j | _ => false
  | .tup xs, d => match d with | .tup ys => ltDL xs ys | _ => false
  | .lst xs, d => match d with | .lst ys => ltDL xs ys | _ => false
  | .non, _ => false | .bl _, _ => false | .dic _ _, _ => false | .scr _, _ => false | .kin _ _ _, _ => false
def ltDL : List D → List D → Bool
  | [], ys => match ys with | [] => false | _ :: _ => true
  | x :: xs, ys => match ys with | [] => false | y :: ys => if eqv x y then ltDL xs ys else ltD x y
end
theorem strLt_py (i j : Str) : decide (i.cps.toList < j.cps.toList) = strLt i j := ltL_eq _ _
mutual
theorem ltD_py : ∀ (n : Nat) (a b : D), okN n a = true → okN n b = true → alk a b = true → dataLt (py a) (py b) = ltD a b
  | _, .int i, b, _, _, h => by
    cases b with
    | int j => simp only [py, ltD]; exact dataLt_int i j
    | _ => simp [alk] at h
  | _, .str i, b, _, _, h => by
    cases b with
    | str j => simp only [py, ltD]; rw [dataLt_str]; exact strLt_py i j
    | _ => simp [alk] at h
  | n, .tup xs, b, ha, hb, h => by
    cases b with
    | tup ys =>
      simp only [alk] at h
      simp only [py, ltD]
      rw [dataLt_tuple]
      cases n with
      | zero => simp [okN] at ha
      | succ n =>
        simp only [okN, Bool.and_eq_true, decide_eq_true_eq] at ha hb
        exact ltDL_py n xs ys (by first | exact ha | exact ha.2 | exact ha.1) (by first | exact hb | exact hb.2 | exact hb.1) h
    | _ => simp [alk] at h
  | n, .lst xs, b, ha, hb, h => by
    cases b with
    | lst ys =>
      simp only [alk] at h
      simp only [py, ltD]
      rw [dataLt_list]
      cases n with
      | zero => simp [okN] at ha
      | succ n =>
        simp only [okN, Bool.and_eq_true, decide_eq_true_eq] at ha hb
        exact ltDL_py n xs ys (by first | exact ha | exact ha.2 | exact ha.1) (by first | exact hb | exact hb.2 | exact hb.1) h
    | _ => simp [alk] at h
  | _, .non, _, _, _, h => by simp [alk] at h
  | _, .bl _, _, _, _, h => by simp [alk] at h
  | _, .dic _ _, _, _, _, h => by simp [alk] at h
  | _, .scr _, _, _, _, h => by simp [alk] at h
  | _, .kin _ _ _, _, _, _, h => by simp [alk] at h
theorem ltDL_py : ∀ (n : Nat) (a b : List D), a.all (okN n) = true → b.all (okN n) = true → alkL a b = true → PyProof.Rows.lexLt itemOrd (keyToksAll (pyL a)) (keyToksAll (pyL b)) = ltDL a b
  | _, [], [], _, _, _ => by simp only [pyL, ltDL, keyToksAll]; rfl
  | _, [], y :: ys, _, _, _ => by
    simp only [pyL, ltDL, keyToksAll]
    first | rfl | decide | exact lex_atom (by decide) _ _
  | _, x :: xs, [], _, _, _ => by
    simp only [pyL, ltDL, keyToksAll]
    first | rfl | decide | exact lex_atom (by decide) _ _
  | n, x :: xs, y :: ys, ha, hb, h => by
    simp only [alkL, Bool.and_eq_true] at h
    simp only [List.all_cons, Bool.and_eq_true] at ha hb
    have e := eqv_py n x y ha.1 hb.1
    simp only [pyL, ltDL]
    by_cases c : eqv x y = true
    · rw [if_pos c, dataLt_all_yes (alk_py x y h.1) (e.trans c)]
      exact ltDL_py n xs ys ha.2 hb.2 h.2
    · rw [if_neg c, dataLt_all_no (alk_py x y h.1) (e.trans (by simpa using c))]
      exact ltD_py n x y ha.1 hb.1 h.1
end
/-! ### the rule -/
def rSortD (K : PySem.W.Frag) : List V → Hp → VK → Prop := fun vs H Q => ∃ (a : Addr) (xs : List V) (ds : List PyData), vs = [V.ref a] ∧ SqL K H a xs ∧ DpAll K H xs ds ∧ AllAlike ds ∧ Sortable ds ∧ (∀ d ∈ ds, d.depth ≤ 64) ∧
  ∀ p, H p = none → Q (.ref p) (upd H p (.lst (((xs.zip ds).mergeSort (sortLe (PyProof.Rows.listOrd itemOrd) false (fun b => keyToks b.2))).map Prod.fst)))
theorem readsAll_each {h : Heap} : ∀ {vs : List Value} {ds : List PyData} {as : List Addr}, ReadsAll h vs ds as → EachIs (fun v d => ∃ as, Reads h v d as) vs ds
  | _, _, _, .nil => .nil
  | _, _, _, .cons r t => .cons ⟨_, r⟩ (readsAll_each t)
theorem each_pair {κ : List (Int ⊕ List Nat) → Prop} {f : Value → Option (List (Int ⊕ List Nat))} : ∀ {xs : List V} {us : List Value} {ds : List PyData}, Vals xs us → EachIs (fun v d => f v = some (keyToks d)) us ds → EachIs (fun v (b : V × PyData) => RelV b.1 v) us (xs.zip ds) ∧ EachIs (fun v (b : V × PyData) => f v = some (keyToks b.2)) us (xs.zip ds)
  | _, _, _, .nil, .nil => ⟨.nil, .nil⟩
  | _, _, _, .cons r t, .cons h e => by
    obtain ⟨h1, h2⟩ := each_pair (κ := κ) t e
    exact ⟨.cons r h1, .cons h h2⟩
theorem each_vals : ∀ {us : List Value} {bs : List (V × PyData)}, EachIs (fun v (b : V × PyData) => RelV b.1 v) us bs → Vals (bs.map Prod.fst) us
  | _, _, .nil => .nil
  | _, _, .cons h t => .cons h (each_vals t)
theorem cr_sortD {X : Cx} (hu : X.A.units + 70 < cLine) : CallR X (.builtin "sorted") (rSortD X.K) := by
  intro pins s σ H vs us Q I r h
  obtain ⟨a, xs, ds, rfl, hs, hd, hal, hk, hdp, q⟩ := h
  obtain ⟨its, rv, hl, hz⟩ := I.list hs
  rw [Vals.ref1 r]
  obtain ⟨as, hr⟩ := Dp.readsAll I ds xs its hd rv
  have each := readsAll_each hr
  have S := SortsAt.data (prog := X.prog) (w := X.w) (A := X.A.in1.in1) (s := { s with heap := sortingHeap (copyHeap s.heap its) (s.heap.objs.size + 1) its })
    (each.mono fun v d ⟨as, r⟩ => ⟨as, Reads.keeps (fun b o e => sorting_copy_old e) r⟩) hal hk (fun d hd => by have := hdp d hd; simp only [Around.in1_units]; omega)
  refine sorted_vals hl.isList S (by rw [← rv.length]; exact hz) ?_
  have key : EachIs (fun v d => (dataKind (sortingHeap (copyHeap s.heap its) (s.heap.objs.size + 1) its) ds).keyOf v = some (keyToks d)) its ds :=
    (each_mem each).mono fun v d ⟨⟨as, r⟩, hm⟩ => dataKind_some hal hm (Reads.keeps (fun b o e => sorting_copy_old e) r)
  obtain ⟨p1, p2⟩ := each_pair (κ := fun _ => True) rv key
  have e := each_vals (sortVals_each (rev := false) (κ := dataKind (sortingHeap (copyHeap s.heap its) (s.heap.objs.size + 1) its) ds) (fun b : V × PyData => keyToks b.2) p1 p2)
  obtain ⟨ep, he'⟩ := PyProof.Rows.sortedAll_at s.heap its (sortVals (dataKind (sortingHeap (copyHeap s.heap its) (s.heap.objs.size + 1) its) ds) false its its).toArray
  refine ⟨.ref _, upd H (s.heap.objs.size + 1) (.lst _), I.laid (t' := s.toks) (fun _ _ => PyProof.Rows.sortedAll_old) (Nat.le_succ _) ⟨?_, _, ep, e, he'⟩, rfl, q _ (I.hok.fresh (Nat.le_succ _))⟩
  rw [e.length, sortVals_length false rfl, ← rv.length]
  exact hz
/-- can these be sorted -/
def isInt : D → Bool
  | .int _ => true | _ => false
def isStr : D → Bool
  | .str _ => true | _ => false
def tupNE : D → Bool
  | .tup (_ :: _) => true | _ => false
def noTup : D → Bool
  | .tup _ => false | .non => false | _ => true
def canSort (ds : List D) : Bool := ds.all (okN 63) && (ds.all isInt || ds.all isStr || ((ds.all fun a => ds.all fun b => alk a b) && (ds.all tupNE || ds.all noTup)))
def leD (a b : D) : Bool := !ltD b a
def gSorted : List D → R (D × Bool)
  | [.lst ds] => if canSort ds then .ok (.lst (isort leD ds), true) else .st
  | _ => .st
theorem canSort_alk {ds : List D} (h : canSort ds = true) : (∀ a ∈ ds, okN 63 a = true) ∧ (∀ a ∈ ds, ∀ b ∈ ds, alk a b = true) ∧ ((∀ d ∈ ds, tupNE d = true) ∨ ∀ d ∈ ds, noTup d = true) := by
  unfold canSort at h
  simp only [Bool.and_eq_true, Bool.or_eq_true, List.all_eq_true] at h
  obtain ⟨h0, h⟩ := h
  refine ⟨h0, ?_⟩
  rcases h with (h | h) | ⟨h, h'⟩
  · refine ⟨fun a ha b hb => ?_, .inr fun d hd => ?_⟩
    · have := h a ha; have := h b hb
      cases a <;> cases b <;> simp_all [isInt, alk]
    · have := h d hd
      cases d <;> simp_all [isInt, noTup]
  · refine ⟨fun a ha b hb => ?_, .inr fun d hd => ?_⟩
    · have := h a ha; have := h b hb
      cases a <;> cases b <;> simp_all [isStr, alk]
    · have := h d hd
      cases d <;> simp_all [isStr, noTup]
  · exact ⟨h, h'⟩
theorem zip_rp {K : PySem.W.Frag} {F : Hp} : ∀ {vs : List V} {ds : List D}, RpL K F vs ds → ∀ p ∈ vs.zip ds, Rp K F p.1 p.2
  | _, [], h, p, hp => by cases h; simp at hp
  | _, d :: ds, h, p, hp => by
    cases h with
    | cons h1 h2 =>
      rcases List.mem_cons.mp hp with e | e
      · subst e; exact h1
      · exact zip_rp h2 p e
theorem rp_map {K : PySem.W.Frag} {F : Hp} : ∀ {zs : List (V × D)}, (∀ p ∈ zs, Rp K F p.1 p.2) → RpL K F (zs.map Prod.fst) (zs.map Prod.snd)
  | [], _ => .nil
  | z :: zs, h => .cons (h z List.mem_cons_self) (rp_map fun p hp => h p (List.mem_cons_of_mem _ hp))
theorem rp_alive {K : PySem.W.Frag} {F : Hp} {v : V} {ds : List D} (r : Rp K F v (.lst ds)) : ∃ a vs, v = .ref a ∧ F a = some (.lst vs) ∧ RpL K F vs ds := by
  cases r with
  | lst h1 h2 => exact ⟨_, _, rfl, h1, h2⟩
theorem sort_rp {K : PySem.W.Frag} {F : Hp} {vs : List V} {ds : List D} (r : RpL K F vs ds) (h : canSort ds = true) :
    RpL K F (((vs.zip (pyL ds)).mergeSort (sortLe (PyProof.Rows.listOrd itemOrd) false (fun b => keyToks b.2))).map Prod.fst) (isort leD ds) := by
  obtain ⟨h0, h1, _⟩ := canSort_alk h
  have hlen := r.length
  have le1 : ∀ a ∈ ds, ∀ b ∈ ds, leD a b = sortLe (PyProof.Rows.listOrd itemOrd) false (fun d : D => keyToks (py d)) a b := fun a ha b hb => by
    show (!ltD b a) = !(PyProof.Rows.lexLt itemOrd (keyToks (py b)) (keyToks (py a)))
    rw [← ltD_py 63 b a (h0 b hb) (h0 a ha) (h1 b hb a ha)]
    rfl
  have e0 : isort leD ds = ds.mergeSort (sortLe (PyProof.Rows.listOrd itemOrd) false (fun d : D => keyToks (py d))) := by
    rw [isort_congr le1, isort_merge (sortLe_total _ _ _)]
  have e1 : ((vs.zip ds).mergeSort (sortLe (PyProof.Rows.listOrd itemOrd) false (fun p : V × D => keyToks (py p.2)))).map Prod.snd = isort leD ds := by
    rw [e0]
    refine (sort_maps (r := sortLe (PyProof.Rows.listOrd itemOrd) false (fun p : V × D => keyToks (py p.2))) (s := sortLe (PyProof.Rows.listOrd itemOrd) false (fun d : D => keyToks (py d))) Prod.snd (fun _ _ _ _ => rfl)).trans ?_
    rw [List.map_snd_zip (by omega)]
  have ez : vs.zip (pyL ds) = (vs.zip ds).map fun p => (p.1, py p.2) := by rw [pyL_map, List.zip_map_right]; rfl
  have e2 : ((vs.zip (pyL ds)).mergeSort (sortLe (PyProof.Rows.listOrd itemOrd) false (fun b => keyToks b.2))).map Prod.fst = ((vs.zip ds).mergeSort (sortLe (PyProof.Rows.listOrd itemOrd) false (fun p : V × D => keyToks (py p.2)))).map Prod.fst := by
    rw [ez]
    refine (congrArg (List.map Prod.fst) (sort_maps (r := sortLe (PyProof.Rows.listOrd itemOrd) false (fun p : V × D => keyToks (py p.2))) (s := sortLe (PyProof.Rows.listOrd itemOrd) false (fun b : V × PyData => keyToks b.2)) (fun p : V × D => (p.1, py p.2)) (fun _ _ _ _ => rfl))).symm.trans ?_
    rw [List.map_map]
    rfl
  rw [e2, ← e1]
  exact rp_map fun p hp => zip_rp r p ((List.mergeSort_perm _ _).mem_iff.mp hp)
theorem cd_sorted {K : PySem.W.Frag} : CallD K (rSortD K) gSorted := fun E F H xs ds Q s r h => by
  unfold gSorted at h
  split at h
  · rename_i ds
    split at h
    · rename_i hc
      obtain ⟨x, rfl, rx⟩ := rpl1 r
      obtain ⟨a, vs, rfl, ha, rl⟩ := rp_alive rx
      obtain ⟨h0, h1, h2⟩ := canSort_alk hc
      refine ⟨a, vs, pyL ds, rfl, .inl (.inl (s _ _ ha)), rpL_dp 63 ds vs (List.all_eq_true.mpr h0) (rl.mono s), ?_, ?_, ?_, fun p hp => h.fresh s hp (.lst upd_same (sort_rp rl hc))⟩
      · intro x hx y hy
        rw [pyL_map] at hx hy
        obtain ⟨a, ha, rfl⟩ := List.mem_map.mp hx
        obtain ⟨b, hb, rfl⟩ := List.mem_map.mp hy
        exact alk_py a b (h1 a ha b hb)
      · rcases h2 with h2 | h2
        · left
          intro x hx
          rw [pyL_map] at hx
          obtain ⟨a, ha, rfl⟩ := List.mem_map.mp hx
          have := h2 a ha
          cases a with
          | tup xs =>
            cases xs with
            | nil => simp [tupNE] at this
            | cons y ys => exact ⟨py y, pyL ys, by simp [py, pyL]⟩
          | _ => simp [tupNE] at this
        · right
          intro x hx
          rw [pyL_map] at hx
          obtain ⟨a, ha, rfl⟩ := List.mem_map.mp hx
          have := h2 a ha
          cases a <;> simp_all [noTup, py]
      · intro x hx
        rw [pyL_map] at hx
        obtain ⟨a, ha, rfl⟩ := List.mem_map.mp hx
        have := (okN_lay 63 a (h0 a ha)).2
        omega
    · exact h.elim
  · exact h.elim
end Pd

/-! Pd9: set(xs), xs texts; sorted and len of that. -/
namespace Pd
open PySem PySem.Spec PyProof.Rows L2 PySem.W PySem.Froz

/-- the object of an empty set -/
abbrev emp (w : World) : Obj := sObj "set" (#[], 0, .fresh 0 0 (!w.params.followText "set-order"))
/-- a set of the texts l stands at a -/
structure Tx (P : Program) (w : World) (h : Heap) (a : Addr) (l : List Str) : Prop where
  ob : ∃ D, h.get? a = some (sObj "set" D) ∧ TxOk P w D l ∧ Ris D.2.2.place.toList ∧ (w.params.followText "set-order" = true ∨ D.2.2.led = true)
  nd : l.Nodup
  few : l.length < 1000
theorem few_bound {n : Nat} (h : n < 1000) : n + 1 < scanBound := Nat.lt_of_lt_of_le (Nat.succ_lt_succ h) (by decide)
section
variable {P : Program} {w : World} {A : Around} {E : Value → Shared → Prop} {s : Shared} {h h' : Heap} {a : Addr} {l : List Str}
theorem Tx.at (R : Tx P w h a l) (k : ∀ o, h.get? a = some o → h'.get? a = some o) : Tx P w h' a l := by
  obtain ⟨⟨D, h1, h2⟩, nd, f⟩ := R
  exact ⟨⟨D, k _ h1, h2⟩, nd, f⟩
theorem tx_emp (e : h.get? a = some (emp w)) : Tx P w h a [] := by
  refine ⟨⟨_, e, .nil rfl, List.Pairwise.nil, ?_⟩, List.nodup_nil, by decide⟩
  show _ ∨ (!w.params.followText "set-order") = true
  cases w.params.followText "set-order"
  · exact .inr rfl
  · exact .inl rfl
/-- the table behind an add -/
theorem tail_tab (ep : Nat) (es : Array (Int × Value)) (t : SetTable) (b : Bool) (r : Ris t.place.toList) : Ris (tailTx ep es t b).2.2.place.toList ∧ (tailTx ep es t b).2.2.led = t.led := by
  unfold tailTx
  split
  · exact ⟨relayAll_ris t es _, relayAll_led t es _⟩
  · exact ⟨r, rfl⟩
theorem add_tab (v : Int) (x : Value) (D : SD) (r : Ris D.2.2.place.toList) : Ris (addTx v x D).2.2.place.toList ∧ (addTx v x D).2.2.led = D.2.2.led := by
  have r1 := layNew_ris D.2.2 D.1 v x r
  have r2 := layNew_led D.2.2 D.1 v x
  by_cases c : (layNew D.2.2 D.1 v x).2.1.plain = true
  · obtain ⟨q1, q2⟩ := tail_tab D.2.1 (layNew D.2.2 D.1 v x).1 { (layNew D.2.2 D.1 v x).2.1 with plain := false } (layNew D.2.2 D.1 v x).2.2.1 r1
    unfold addTx
    rw [if_pos c]
    exact ⟨q1, q2.trans r2⟩
  · obtain ⟨q1, q2⟩ := tail_tab D.2.1 (layNew D.2.2 D.1 v x).1 (layNew D.2.2 D.1 v x).2.1 (layNew D.2.2 D.1 v x).2.2.1 r1
    unfold addTx
    rw [if_neg c]
    exact ⟨q1, q2.trans r2⟩
/-- a text that is in it is put in -/
theorem same_x {D : SD} {k : Str} {u : Tok} {Q : Bool → Shared → Prop} (ho : s.heap.get? a = some (sObj "set" D)) (F : TxOk P w D l) (hk : k ∈ l) (hb : l.length < scanBound) (hq : Q false s) : wpAny (model P w) A (setAddHashed a (.str k u) (hashStr w k)) Q E s := by
  obtain ⟨es, ep, t⟩ := D
  have el : ElemsOf (strKind P w) es.toList := F.el
  have hd : (sObj "set" (es, ep, t)).data = .set es ep t := rfl
  have nb : es.size < scanBound := by rw [show es.size = l.length from F.sz]; exact hb
  unfold setAddHashed setAddHashedIn
  refine wpAny_holding (wpAny_bind (wpAny_setState_of ho hd F.fit ?_))
  dsimp only
  rw [byScan_of (knd := strKind P w) rfl nb el]
  simp only [↓reduceIte]
  unfold setAddByScan
  refine wpAny_bind (wpAny_bind (wpAny_rule (wpAny_bind (wpAny_setScan_of (knd := strKind P w) (is_str k u) ho hd F.fit el ?_))))
  cases hr : List.findIdx? (fun e => (strKind P w).is k e.2) es.toList with
  | some j => exact wpAny_pure (wpAny_pure hq)
  | none =>
    obtain ⟨e, he, q⟩ := (F.mem k).mp hk
    have c := List.findIdx?_eq_none_iff.mp hr e he
    rw [q] at c
    cases c
/-- a text is put in -/
theorem tx_add {k : Str} {u : Tok} {Q : Bool → Shared → Prop} (R : Tx P w s.heap a l) (f : l.length + 1 < 1000)
    (hq : ∀ b h' n, Heap.SameBut a s.heap h' → Tx P w h' a (if k ∈ l then l else k :: l) → s.toks ≤ n → Q b { s with heap := h', toks := n }) : wpAny (model P w) A (setAdd a (.str k u)) Q E s := by
  obtain ⟨⟨D, h1, h2, h3, h4⟩, nd, few⟩ := id R
  unfold setAdd
  refine wpAny_holding (wpAny_bind ((strKind P w).pyHash (is_str k u) ?_))
  by_cases c : k ∈ l
  · refine same_x (s := { s with toks := s.toks + 1 }) h1 h2 c (by have := few_bound few; omega) ?_
    refine hq _ s.heap _ (Heap.SameBut.refl a s.heap) ?_ (Nat.le_succ _)
    rw [if_pos c]
    exact R
  · refine add_x (s := { s with toks := s.toks + 1 }) h1 h2 c (few_bound few) ?_
    refine hq _ _ _ (Heap.SameBut.update s.heap a _) ?_ (Nat.le_succ _)
    obtain ⟨q1, q2⟩ := add_tab (hashStr w k) (.str k u) D h3
    rw [if_neg c]
    exact ⟨⟨_, get_upd _ h1 rfl, add_ok u h2, q1, h4.imp id fun z => q2.trans z⟩, List.nodup_cons.mpr ⟨c, nd⟩, f⟩
end
/-- .. as the model writes it -/
abbrev eo (w : World) : Obj := { cls := .type "set", dict := none, data := .set #[] 0 (.fresh 0 0 (!w.params.followText "set-order")) }
theorem tx_eo {P : Program} {w : World} {h : Heap} {a : Addr} (e : h.get? a = some (eo w)) : Tx P w h a [] := tx_emp e
/-- l holds the texts of xs -/
structure Ms (xs l : List Str) : Prop where
  mem : ∀ x, x ∈ l ↔ x ∈ xs
  len : l.length ≤ xs.length
theorem Ms.add {xs l : List Str} (m : Ms xs l) (k : Str) : Ms (xs ++ [k]) (if k ∈ l then l else k :: l) := by
  by_cases c : k ∈ l
  · rw [if_pos c]
    refine ⟨fun x => ?_, by have := m.len; simp; omega⟩
    rw [m.mem x, List.mem_append, List.mem_singleton]
    exact ⟨.inl, fun q => q.elim id fun e => e ▸ (m.mem k).mp c⟩
  · rw [if_neg c]
    refine ⟨fun x => ?_, by have := m.len; simp; omega⟩
    rw [List.mem_cons, m.mem x, List.mem_append, List.mem_singleton]
    exact Or.comm
section
variable {P : Program} {w : World} {A : Around} {E : Value → Shared → Prop} {s : Shared}
/-- the loop that puts the items in -/
theorem tx_loop {I : Addr} {fp wr : List Addr} {G : Array GenState → Array GenState → Prop} {xs : List Str} {Pv : Nat → Value → Prop} {St : Nat → Shared → Prop} {R : Result → Shared → Prop} {S : Addr}
    (W : WalksS P w A.in1 I fp wr G xs.length Pv St) (hf : S ∉ fp) (few : xs.length + 1 < 1000) (hv : ∀ i v, Pv i v → ∃ k u, xs[i]? = some k ∧ v = .str k u) :
    ∀ (k i : Nat) (s : Shared), xs.length - i = k → i ≤ xs.length → St i s → (∃ l, Tx P w s.heap S l ∧ Ms (xs.take i) l) →
      (∀ s' l, Moved (S :: wr) G s s' → Tx P w s'.heap S l → Ms xs l → R (.ok (.ret .none)) s') → codeAny (model P w) A (.builtin "set.update.loop" ⟨[.ref S, .ref I], []⟩) R s := by
  have out : S ∉ wr := fun q => hf (W.sub _ q)
  have more : ∀ b ∈ wr, b ∈ S :: wr := fun b hb => List.mem_cons_of_mem S hb
  intro k
  induction k with
  | zero =>
    intro i s e1 e2 st ⟨l, tx, ms⟩ hR
    obtain rfl : i = xs.length := Nat.le_antisymm e2 (Nat.le_of_sub_eq_zero e1)
    refine codeAny_builtin F.entry_set_update_loop ?_
    rw [Around.under_plainId F.plain_set_update_loop _]
    refine wpAny_bind (m := pyNext (.ref I)) (W.done s _ _ st fun s1 mv => ?_)
    rw [List.take_length] at ms
    exact wpAny_pure (hR s1 l (mv.mono more) (tx.at fun o e => mv.heap S o out e) ms)
  | succ k ih =>
    intro i s e1 e2 st ⟨l, tx, ms⟩ hR
    have lt : i < xs.length := by omega
    refine codeAny_builtin F.entry_set_update_loop ?_
    rw [Around.under_plainId F.plain_set_update_loop _]
    refine wpAny_bind (m := pyNext (.ref I)) (W.item i s _ _ lt st fun v s1 pv st1 mv => ?_)
    obtain ⟨x, u, ex, rfl⟩ := hv i v pv
    have tx1 := tx.at fun o e => mv.heap S o out e
    have fl : l.length + 1 < 1000 := by have := ms.len; rw [List.length_take] at this; omega
    show wpAny _ A.in1 (holding [Value.str x u] (setAdd S (.str x u)) >>= _) _ _ s1
    refine wpAny_bind (wpAny_holding ?_)
    refine tx_add tx1 fl fun b h2 n q1 q2 q3 => ?_
    have em : xs.take (i + 1) = xs.take i ++ [x] := by rw [List.take_add_one, ex]; rfl
    refine wpAny_pure ⟨plainId_quiet F.plain_set_update_loop _, ih (i + 1) _ (by omega) lt (W.frame _ s1 _ _ st1 q3 fun b hb o e => ?_) ⟨_, q2, by rw [em]; exact ms.add x⟩ fun s3 l3 mv3 tx3 ms3 => ?_⟩
    · rw [q1.2 b (fun z : b = S => hf (z ▸ hb))]; exact e
    · refine hR s3 l3 (Moved.trans W.gtrans ((mv.mono more).then_heap q3 fun b o hb e => ?_) mv3) tx3 ms3
      rw [q1.2 b (fun z : b = S => hb (z ▸ List.mem_cons_self))]; exact e
end
section
variable {P : Program} {w : World} {A : Around} {E : Value → Shared → Prop} {s : Shared}
theorem strs_ix {us : List Value} {xs : List Str} (h : Vals (xs.map V.str) us) {i : Nat} {v : Value} (e : us[i]? = some v) : ∃ k u, xs[i]? = some k ∧ v = .str k u := by
  have hl := h.length
  rw [List.length_map] at hl
  have hi : i < xs.length := by have := (List.getElem?_eq_some_iff.mp e).1; omega
  obtain ⟨u, h1, h2⟩ := h.get (i := i) (x := .str xs[i]) (by rw [List.getElem?_map, List.getElem?_eq_getElem hi]; rfl)
  rw [e] at h1
  cases h1
  obtain ⟨t, rfl⟩ := h2
  exact ⟨_, t, List.getElem?_eq_getElem hi, rfl⟩
set_option maxHeartbeats 6000000 in
/-- set(xs), xs a list of texts -/
theorem set_call {l : Addr} {its : Array Value} {xs : List Str} {Q : Value → Shared → Prop} (hh : A.handled = none) (hl : s.heap.IsList l its) (hx : Vals (xs.map V.str) its.toList) (few : xs.length + 1 < 1000)
    (hq : ∀ (h' : Heap) (tk : Nat) m, Tx P w h' s.heap.objs.size m → Ms xs m → (∀ b o, s.heap.get? b = some o → h'.get? b = some o) → Q (.ref s.heap.objs.size) { s with heap := h', toks := tk }) :
    wpAny (model P w) A (call (.type "set") [.ref l]) Q E s := by
  have size : its.size = xs.length := by have := hx.length; rw [List.length_map, Array.length_toList] at this; exact this.symm
  obtain ⟨m0, m1, hmro⟩ := F.called_set.mro
  have h01 := F.called_set.made; have h02 := F.called_set.sub; have h03 := F.called_set.notType; have h04 := F.called_set.canCreate; have h05 := F.typeCall_set_1 (.ref l)
  refine wpAny_call (codeAny_of_tree (show wpAny _ _ (callAny (.type "set") _) _ _ _ from wpAny_pure ⟨Code.quiet_builtin _ (by decide +kernel), codeAny_builtin F.entry_type_call ?_⟩))
  rw [Around.under_plain (weight_type_call_type "set" [.ref l] []) rfl]
  repeat (any_goals (first | assumption | wp_step))
  refine codeAny_mono (code_set_led1 (.ref l) (E := E) (Q₁ := fun v s1 => v = .ref s.heap.objs.size ∧ s1 = { s with heap := s.heap.push (eo w) }) ⟨rfl, rfl⟩) fun r s1 hr => ?_
  match r, hr with
  | .error e, hr => exact hr
  | .ok (.ret v), hr =>
    obtain ⟨rfl, rfl⟩ := hr
    have g0 : (s.heap.push (eo w)).get? s.heap.objs.size = some (eo w) := Heap.get?_push_size _ rfl
    have ty : Shared.TypeIs { s with heap := s.heap.push (eo w) } (.ref s.heap.objs.size) "set" := ⟨_, g0, rfl⟩
    have h06 := F.called_set.init.lookup; have h07 := F.called_set.init.bind (.ref s.heap.objs.size)
    repeat (any_goals (first | assumption | wp_step))
    refine codeAny_mono (codeAny_call_builtin (R := wants (fun r s2 => r = .none ∧ ∃ h' tk m, s2 = { s with heap := h', toks := tk } ∧ Tx P w h' s.heap.objs.size m ∧ Ms xs m ∧ (∀ b o, s.heap.get? b = some o → h'.get? b = some o)) E)
      F.called_set.init.plain F.entry_set_init (check_set_init_1 ty ?_)) fun r2 s2 hr2 => ?_
    · obtain ⟨⟨c1, c2, c3, c4⟩, lo, lc, ln, ld⟩ := hl
      simp only at lc ld
      subst lc ld
      have lo1 : (s.heap.push (eo w)).get? l = some { cls := .type "list", dict := c2, data := .seq its ln, slots := c4 } := Heap.get?_push_of_some _ lo
      have il1 : (s.heap.push (eo w)).IsList l its := ⟨_, lo1, rfl, ln, rfl⟩
      have h08 := F.sub_list_set; have h09 := F.sub_list_frozenset; have h10 : (Value.type "list" == Value.type "dict") = false := by decide
      unfold Builtin.«set.__init__» noKeywords Builtin.Frozenset.updateFrom
      generalize hp : pyIter = pI
      wp_walk
      subst hp
      refine wpAny_pyIter_list il1 (wpAny_bind (wpAny_runValue ?_))
      have ll : l < s.heap.objs.size := Heap.lt_size lo
      have sz : (s.heap.push (eo w)).objs.size = s.heap.objs.size + 1 := size_push' _ _
      have n1 : l ≠ (s.heap.push (eo w)).objs.size := by rw [sz]; exact Nat.ne_of_lt (Nat.lt_succ_of_lt ll)
      have n2 : s.heap.objs.size ∉ [(s.heap.push (eo w)).objs.size, l] := by
        simp only [List.mem_cons, List.not_mem_nil, or_false, not_or, sz]; exact ⟨Nat.ne_of_lt (Nat.lt_succ_self _), Nat.ne_of_gt ll⟩
      refine tx_loop (xs := xs) (size ▸ (Walks.list (show A.in1.in1.in1.handled = none by simp [hh]) _ l n1 its).toS) n2 few (fun i v hv => strs_ix hx (by rw [Array.getElem?_toList]; exact hv)) xs.length 0 _ (Nat.sub_zero _) (Nat.zero_le _)
        ⟨⟨_, Heap.get?_push_size _ rfl, rfl, rfl⟩, il1.push _⟩ ⟨[], tx_eo (Heap.get?_push_of_some _ g0), fun x => by simp, Nat.zero_le _⟩ fun s' m mv tx ms => ?_
      obtain ⟨h', g2, d2, k2, o2⟩ := s'
      obtain rfl : g2 = s.gens := mv.gens
      obtain rfl : d2 = s.drawn := mv.drawn
      obtain rfl : o2 = s.os := mv.os
      refine wpAny_pure (show wpAny _ _ (ret Value.none) _ _ _ from wpAny_pure ⟨rfl, h', k2, m, rfl, tx, ms, fun b o e => mv.heap b o ?_ (Heap.get?_push_of_some _ (Heap.get?_push_of_some _ e))⟩)
      have lb := Heap.lt_size e
      simp only [List.mem_cons, List.not_mem_nil, or_false, not_or, sz]
      exact ⟨Nat.ne_of_lt lb, Nat.ne_of_lt (Nat.lt_succ_of_lt lb)⟩
    · match r2, hr2 with
      | .error e, hr2 => exact hr2
      | .ok (.ret v), hr2 =>
        obtain ⟨rfl, h', tk, m, rfl, tx, ms, kp⟩ := hr2
        repeat (any_goals (first | assumption | wp_step))
        exact hq _ _ _ tx ms kp
end
end Pd

/-! Pd10: sorted(set(xs)), len(set(xs)). -/
namespace Pd
open PySem PySem.Spec PyProof.Rows L2 PySem.W PySem.Froz

abbrev sLe : Str → Str → Bool := sortLe (PyProof.Rows.listOrd itemOrd) false (fun k : Str => keyToks (.str k))
theorem each_strs {h : Heap} : ∀ {vs : List Value} {ks : List Str}, (∀ p ∈ vs.zip ks, ∃ u, p.1 = Value.str p.2 u) → vs.length = ks.length → EachIs (fun v k => ∃ u, v = Value.str k u) vs ks
  | [], [], _, _ => .nil
  | v :: vs, k :: ks, hp, hl => .cons (hp (v, k) List.mem_cons_self) (each_strs (h := h) (fun p m => hp p (List.mem_cons_of_mem _ m)) (by simpa using hl))
theorem strs_all : ∀ {vs : List Value}, (∀ v ∈ vs, ∃ k u, v = Value.str k u) → ∃ ks : List Str, EachIs (fun v k => ∃ u, v = Value.str k u) vs ks
  | [], _ => ⟨[], .nil⟩
  | v :: vs, h => by
    obtain ⟨k, u, e⟩ := h v List.mem_cons_self
    obtain ⟨ks, r⟩ := strs_all fun x m => h x (List.mem_cons_of_mem _ m)
    exact ⟨k :: ks, .cons ⟨u, e⟩ r⟩
def txOf : Value → Str
  | .str k _ => k
  | _ => Str.empty
theorem each_tx : ∀ {vs : List Value} {ks : List Str}, EachIs (fun v k => ∃ u, v = Value.str k u) vs ks → vs.map txOf = ks
  | _, _, .nil => rfl
  | _, _, .cons ⟨u, e⟩ t => by subst e; simp only [List.map_cons, txOf, each_tx t]
theorem each_vs : ∀ {vs : List Value} {ks : List Str}, EachIs (fun v k => ∃ u, v = Value.str k u) vs ks → Vals (ks.map V.str) vs
  | _, _, .nil => .nil
  | _, _, .cons ⟨u, e⟩ t => .cons ⟨u, e⟩ (each_vs t)
theorem sub_len {α : Type} [DecidableEq α] : ∀ {l m : List α}, l.Nodup → (∀ x ∈ l, x ∈ m) → l.length ≤ m.length
  | [], _, _, _ => Nat.zero_le _
  | x :: l, m, nl, hs => by
    obtain ⟨nx, nl⟩ := List.nodup_cons.mp nl
    have hm : x ∈ m := hs x List.mem_cons_self
    have q := sub_len (m := m.erase x) nl fun y hy => (List.mem_erase_of_ne (fun z => nx (by rw [← z]; exact hy))).mpr (hs y (List.mem_cons_of_mem _ hy))
    rw [List.length_erase_of_mem hm] at q
    have : 0 < m.length := List.length_pos_of_mem hm
    simp only [List.length_cons]
    omega
theorem nodup_same {α : Type} [DecidableEq α] : ∀ {l m : List α}, l.Nodup → (∀ x ∈ l, x ∈ m) → m.length ≤ l.length → m.Nodup
  | [], [], _, _, _ => List.nodup_nil
  | [], _ :: _, _, _, h => by simp at h
  | x :: l, m, nl0, hs, hl => by
    obtain ⟨nx, nl⟩ := List.nodup_cons.mp nl0
    have hm : x ∈ m := hs x List.mem_cons_self
    have le := List.length_erase_of_mem hm
    have q : (m.erase x).Nodup := nodup_same nl (fun y hy => (List.mem_erase_of_ne (fun z => nx (by rw [← z]; exact hy))).mpr (hs y (List.mem_cons_of_mem _ hy))) (by rw [le]; simp at hl; omega)
    refine (List.perm_cons_erase hm).nodup_iff.mpr (List.nodup_cons.mpr ⟨fun z => ?_, q⟩)
    have r := sub_len (l := x :: l) (m := m.erase x) nl0 fun y hy => by
      by_cases e : y = x
      · subst e; exact z
      · exact (List.mem_erase_of_ne e).mpr (hs y hy)
    have : 0 < m.length := List.length_pos_of_mem hm
    simp only [List.length_cons] at r hl
    omega
theorem is_str_eq {k : Str} {v : Value} (h : Value.isStrOf k v = true) : ∃ u, v = .str k u := by
  cases v with
  | str x u => simp [Value.isStrOf] at h; exact ⟨u, by rw [h]⟩
  | _ => simp [Value.isStrOf] at h
section
variable {P : Program} {w : World} {A : Around} {E : Value → Shared → Prop} {s : Shared} {a : Addr} {l : List Str}
/-- the texts of a set's table -/
theorem tx_elems {D : SD} (F : TxOk P w D l) : ∃ ks : List Str, EachIs (fun v k => ∃ u, v = Value.str k u) (D.1.toList.map (·.2)) ks ∧ (∀ k, k ∈ ks ↔ k ∈ l) ∧ ks.length = l.length := by
  have all : ∀ v ∈ D.1.toList.map (·.2), ∃ k u, v = Value.str k u := fun v hv => by
    obtain ⟨e, he, rfl⟩ := List.mem_map.mp hv
    obtain ⟨⟨k, h1, h2⟩, _⟩ := F.el e he
    exact ⟨k, is_str_eq h1⟩
  obtain ⟨ks, r⟩ := strs_all all
  have ek := each_tx r
  refine ⟨ks, r, fun k => ?_, ?_⟩
  · rw [F.mem k, ← ek]
    constructor
    · intro h
      obtain ⟨v, hv, e⟩ := List.mem_map.mp h
      obtain ⟨e0, he, rfl⟩ := List.mem_map.mp hv
      obtain ⟨k', u, q⟩ := all _ hv
      refine ⟨e0, he, ?_⟩
      rw [q] at e ⊢
      obtain rfl : k' = k := e
      exact is_str k' u
    · rintro ⟨e0, he, q⟩
      obtain ⟨k', u, z⟩ := all e0.2 (List.mem_map.mpr ⟨e0, he, rfl⟩)
      refine List.mem_map.mpr ⟨e0.2, List.mem_map.mpr ⟨e0, he, rfl⟩, ?_⟩
      rw [z] at q ⊢
      exact (strKind P w).inj (.str k' u) k' k (is_str k' u) q
  · rw [← r.length, List.length_map, Array.length_toList]; exact F.sz
end
theorem str_alike (ks : List Str) : AllAlike (ks.map PyData.str) := fun x hx y hy => by
  obtain ⟨a, _, rfl⟩ := List.mem_map.mp hx
  obtain ⟨b, _, rfl⟩ := List.mem_map.mp hy
  simp [alike]
theorem each_read {h : Heap} : ∀ {vs : List Value} {ks : List Str}, EachIs (fun v k => ∃ u, v = Value.str k u) vs ks → EachIs (fun v d => ∃ as, Reads h v d as) vs (ks.map PyData.str)
  | _, _, .nil => .nil
  | _, _, .cons ⟨u, e⟩ t => .cons ⟨_, e ▸ Reads.str _ u⟩ (each_read t)
theorem each_key {h : Heap} {ds : List PyData} (hal : AllAlike ds) : ∀ {vs : List Value} {ks : List Str}, EachIs (fun v k => ∃ u, v = Value.str k u) vs ks → (∀ k ∈ ks, PyData.str k ∈ ds) → EachIs (fun v k => (dataKind h ds).keyOf v = some (keyToks (.str k))) vs ks
  | _, _, .nil, _ => .nil
  | _, _, .cons ⟨u, e⟩ t, hm => .cons (dataKind_some hal (hm _ List.mem_cons_self) (e ▸ Reads.str _ u)) (each_key hal t fun k m => hm k (List.mem_cons_of_mem _ m))
theorem mem_tx {vs : List Value} {ks : List Str} (r : EachIs (fun v k => ∃ u, v = Value.str k u) vs ks) : vs.map txOf = ks := each_tx r
section
variable {P : Program} {w : World} {A : Around} {E : Value → Shared → Prop} {s : Shared} {a : Addr} {l : List Str}
/-- sorted(x), x a set of texts -/
theorem set_sorted {Q : Value → Shared → Prop} (R : Tx P w s.heap a l) (hh : A.handled = none) (hu : A.units + 70 < cLine)
    (hq : ∀ s' p (out : List Value) (c : Nat) (ks : List Str), (∀ b o, s.heap.get? b = some o → s'.heap.get? b = some o) → s'.gens = s.gens → s'.os = s.os → s.heap.objs.size ≤ p → s'.heap.get? p = some (seqObj "list" out.toArray c) →
      Vals (ks.map V.str) out → (∀ k, k ∈ ks ↔ k ∈ l) → ks.length = l.length → ks.Pairwise (fun x y => sLe x y = true) → Q (.ref p) s') : wpAny (model P w) A (call (.builtin "sorted") [.ref a]) Q E s := by
  obtain ⟨⟨D, d1, d2, d3, d4⟩, nd, few⟩ := R
  obtain ⟨ks0, r0, m0, n0⟩ := tx_elems d2
  refine Calls.call_function_entry kind_sorted plain_sorted entry_sorted (args_sorted1 _) ?_
  unfold Builtin.«sorted»
  have fs : D.1.size < scanBound := by rw [d2.sz]; have := few_bound few; omega
  refine wpAny_bind (m := checkCount "sorted" 1 1 _) (wpAny_pure (wpAny_bind (collect_set (A := A.in1) hh ⟨_, d1, rfl, rfl⟩ d2.fit fs d3 d4 fun s1 vs k1 z1 g1 o1 pm => ?_)))
  obtain ⟨ks, r⟩ := strs_all (vs := vs) fun v hv => by
    obtain ⟨k, _, u, e⟩ := r0.left v (pm.mem_iff.mp hv)
    exact ⟨k, u, e⟩
  have pk : ks.Perm ks0 := by rw [← each_tx r, ← each_tx r0]; exact pm.map txOf
  have lv : vs.length < 1000 := by rw [r.length, pk.length_eq, n0]; exact few
  have lz : vs.length ≤ sizeLine := by rw [sizeLine_eq]; omega
  refine wpAny_bind (wpAny_newList ?_ lz)
  have hoL : (s1.heap.push (seqObj "list" vs.toArray 0)).get? s1.heap.objs.size = some (seqObj "list" vs.toArray 0) := Heap.get?_push_size _ rfl
  have S := SortsAt.data (prog := P) (w := w) (A := A.in1.in1) (s := { s1 with heap := sortingHeap (s1.heap.push (seqObj "list" vs.toArray 0)) s1.heap.objs.size vs }) (each_read r) (str_alike ks)
    (.inr fun d hd => by obtain ⟨k, _, rfl⟩ := List.mem_map.mp hd; exact ⟨fun z => (by cases z), fun _ z => (by cases z)⟩)
    (fun d hd => by obtain ⟨k, _, rfl⟩ := List.mem_map.mp hd; simp only [Around.in1_units, PyData.depth]; omega)
  have body := list_sort_vals (s := { s1 with heap := s1.heap.push (seqObj "list" vs.toArray 0) }) (A := A.in1.in1) (E := E) (P := fun f s2 => f = .done (.ret .none) ∧ s2 = { s1 with heap := sortedHeap (s1.heap.push (seqObj "list" vs.toArray 0)) s1.heap.objs.size vs (sortVals (dataKind (sortingHeap (s1.heap.push (seqObj "list" vs.toArray 0)) s1.heap.objs.size vs) (ks.map PyData.str)) false vs vs).toArray }) hoL S lz ⟨rfl, rfl⟩
  refine wpAny_bind (wpAny_holding (wpAny_call_entry slot_list_sort ⟨_, hoL, rfl⟩ entry_list_sort (wpAny_mono body (fun f s2 hf => ?_) fun _ _ e => e) (args_list_sort _)))
  obtain ⟨rfl, rfl⟩ := hf
  refine ⟨_, rfl, wpAny_pure ⟨_, rfl, ?_⟩⟩
  obtain ⟨c, hc⟩ := sortedHeap_at (vs := vs) (out := (sortVals (dataKind (sortingHeap (s1.heap.push (seqObj "list" vs.toArray 0)) s1.heap.objs.size vs) (ks.map PyData.str)) false vs vs).toArray) hoL
  have fin := sortVals_each (rev := false) (κ := dataKind (sortingHeap (s1.heap.push (seqObj "list" vs.toArray 0)) s1.heap.objs.size vs) (ks.map PyData.str)) (fun k : Str => keyToks (.str k)) r (each_key (str_alike ks) r fun k m => List.mem_map.mpr ⟨k, m, rfl⟩)
  refine hq _ s1.heap.objs.size _ c (ks.mergeSort sLe) (fun b o e => ?_) g1 o1 z1 hc (each_vs fin) (fun k => ?_) ?_ (sort_pairwise (sortLe_total _ _ _) ks)
  · have e1 := k1 b o e
    have lt := Heap.lt_size e1
    refine (sortedHeap_old (Nat.ne_of_lt lt) (by rw [size_push']; exact Nat.lt_succ_of_lt lt)).trans (Heap.get?_push_of_some _ e1)
  · rw [(List.mergeSort_perm _ _).mem_iff, pk.mem_iff, m0]
  · rw [(List.mergeSort_perm _ _).length_eq, pk.length_eq, n0]
/-- len(x), x a set of texts -/
theorem set_len {Q : Value → Shared → Prop} (R : Tx P w s.heap a l) (hq : ∀ t n, Q (.int l.length t) { s with toks := n }) : wpAny (model P w) A (call (.builtin "len") [.ref a]) Q E s := by
  obtain ⟨⟨D, d1, d2, d3, d4⟩, nd, few⟩ := R
  have e : (D.1.size : Int) = (l.length : Int) := by rw [d2.sz]
  refine call_len_set d1 ⟨rfl, rfl, rfl⟩ rfl d2.fit (by rw [d2.sz]; omega) ?_
  rw [e]
  exact hq _ _
end
/-- the set at a, as the layer's thing -/
def SetS (P : Program) (w : World) (a : Addr) (l : List Str) : HO := .ext fun h => Tx P w h a l
theorem setS_new {P : Program} {w : World} {H : Hp} {h : Heap} {a : Addr} {l : List Str} (R : Tx P w h a l) : ObjOk P w H h a (SetS P w a l) := by
  obtain ⟨D, d1, _⟩ := R.ob
  exact ⟨R, ⟨_, d1⟩, fun h1 h2 p k => Tx.at p k⟩
def rSetS (K : PySem.W.Frag) (P : Program) (w : World) : List V → Hp → VK → Prop := fun xs H Q => ∃ (a : Addr) (ys : List Str), xs = [V.ref a] ∧ SqL K H a (ys.map V.str) ∧ ys.length < 900 ∧ ∀ (p : Addr) (l : List Str), H p = none → l.Nodup → Ms ys l → Q (.ref p) (upd H p (SetS P w p l))
def rSortS (P : Program) (w : World) : List V → Hp → VK → Prop := fun xs H Q => ∃ (a : Addr) (l : List Str), xs = [V.ref a] ∧ H a = some (SetS P w a l) ∧
  ∀ (p : Addr) (ks : List Str), H p = none → (∀ k, k ∈ ks ↔ k ∈ l) → ks.length = l.length → ks.Pairwise (fun x y => sLe x y = true) → Q (.ref p) (upd H p (.lst (ks.map V.str)))
def rLenS (P : Program) (w : World) : List V → Hp → VK → Prop := fun xs H Q => ∃ (a : Addr) (l : List Str), xs = [V.ref a] ∧ H a = some (SetS P w a l) ∧ Q (.int l.length) H
section
variable {X : Cx}
theorem cr_setS (hc : X.calm = true) : CallR X (.type "set") (rSetS X.K X.prog X.w) := by
  intro pins s σ H xs us Q I r h
  obtain ⟨a, ys, rfl, hs, few, q⟩ := h
  obtain ⟨its, rv, hl, hz⟩ := I.list hs
  rw [Vals.ref1 r]
  refine set_call (P := X.prog) (w := X.w) (I.ok.hd hc) hl.isList (by simpa using rv) (by omega) fun h' tk m tx ms kp => ?_
  exact ⟨.ref _, upd H s.heap.objs.size (SetS X.prog X.w _ m), I.laid (t' := tk) kp (Nat.le_refl _) (setS_new tx), rfl, q _ m (I.hok.fresh (Nat.le_refl _)) tx.nd ms⟩
theorem cr_sortS (hc : X.calm = true) (hu : X.A.units + 70 < cLine) : CallR X (.builtin "sorted") (rSortS X.prog X.w) := by
  intro pins s σ H xs us Q I r h
  obtain ⟨a, l, rfl, ha, q⟩ := h
  have R : Tx X.prog X.w s.heap a l := (I.hok a _ ha).1
  rw [Vals.ref1 r]
  refine set_sorted R (I.ok.hd hc) hu fun s' p out c ks kp g o hp hg hv m1 m2 m3 => ?_
  have hn : H p = none := I.hok.fresh hp
  have hlen : (ks.map V.str).length ≤ sizeLine := by rw [List.length_map, m2, sizeLine_eq]; have := R.few; omega
  have J : Inv X pins σ (upd H p (.lst (ks.map V.str))) { s with heap := s'.heap, gens := s'.gens, drawn := s'.drawn, toks := s'.toks } :=
    I.call (ch := []) (Un.laid kp hp hn) (I.hok.laid kp hp ⟨hlen, out, c, hv, hg⟩) (by rw [g]; exact I.bare) (fun _ z => nomatch z)
  have e : s' = { s with heap := s'.heap, gens := s'.gens, drawn := s'.drawn, toks := s'.toks } := by
    obtain ⟨_, _, _, _, o'⟩ := s'
    obtain rfl : o' = s.os := o
    rfl
  rw [e]
  exact ⟨.ref p, _, J, rfl, q p ks hn m1 m2 m3⟩
theorem cr_lenS : CallR X (.builtin "len") (rLenS X.prog X.w) := by
  intro pins s σ H xs us Q I r h
  obtain ⟨a, l, rfl, ha, q⟩ := h
  have R : Tx X.prog X.w s.heap a l := (I.hok a _ ha).1
  rw [Vals.ref1 r]
  exact set_len R fun t n => ⟨.int l.length, H, I.tok _, ⟨t, rfl⟩, q⟩
end
/-! ### as one expression -/
theorem ltL_anti : ∀ a b : List Nat, ltL a b = false → ltL b a = false → a = b
  | [], [], _, _ => rfl
  | [], _ :: _, h, _ => by simp [ltL] at h
  | _ :: _, [], _, h => by simp [ltL] at h
  | x :: a, y :: b, h, g => by
    unfold ltL at h g
    rcases Nat.lt_trichotomy x y with e | e | e
    · rw [if_pos e] at h; cases h
    · subst e
      simp only [Nat.lt_irrefl, if_false, if_true] at h g
      rw [ltL_anti a b h g]
    · rw [if_pos e] at g; cases g
theorem sLe_lt (a b : Str) : sLe a b = !strLt b a := by
  show (!dataLt (.str b) (.str a)) = _
  rw [dataLt_str, strLt_py]
theorem sLe_same {a b : Str} (h : sameRank sLe a b = true) : a = b := by
  unfold sameRank at h
  simp only [sLe_lt, Bool.and_eq_true, Bool.not_eq_true'] at h
  exact str_of_cps (ltL_anti _ _ h.2 h.1)
theorem all_same {α : Type} {c : α} : ∀ {l m : List α}, (∀ x ∈ l, x = c) → (∀ x ∈ m, x = c) → l.length = m.length → l = m
  | [], [], _, _, _ => rfl
  | [], _ :: _, _, _, h => by simp at h
  | _ :: _, [], _, _, h => by simp at h
  | x :: l, y :: m, h, g, e => by
    rw [h x List.mem_cons_self, g y List.mem_cons_self, all_same (fun z hz => h z (List.mem_cons_of_mem _ hz)) (fun z hz => g z (List.mem_cons_of_mem _ hz)) (by simpa using e)]
theorem sorted_one {l m : List Str} (p : l.Perm m) (h : l.Pairwise (fun x y => sLe x y = true)) : l = isort sLe m := by
  rw [isort_merge (sortLe_total _ _ _)]
  refine sort_unique (sortLe_total _ _ _) h fun c => ?_
  refine all_same (c := c) (fun x hx => (sLe_same (List.mem_filter.mp hx).2).symm) (fun x hx => (sLe_same (List.mem_filter.mp hx).2).symm) (p.filter _).length_eq
def dedS : List Str → List Str
  | [] => []
  | x :: xs => if (dedS xs).any (fun y => strEq x y) then dedS xs else x :: dedS xs
theorem dedS_ok : ∀ xs : List Str, (dedS xs).Nodup ∧ ∀ x, x ∈ dedS xs ↔ x ∈ xs
  | [] => ⟨List.nodup_nil, fun x => Iff.rfl⟩
  | x :: xs => by
    obtain ⟨h1, h2⟩ := dedS_ok xs
    unfold dedS
    by_cases c : (dedS xs).any (fun y => strEq x y) = true
    · rw [if_pos c]
      obtain ⟨y, hy, e⟩ := List.any_eq_true.mp c
      have e := strEq_iff.mp e
      subst e
      refine ⟨h1, fun z => ?_⟩
      rw [h2 z, List.mem_cons]
      exact ⟨.inr, fun q => q.elim (fun e => e ▸ (h2 x).mp hy) id⟩
    · rw [if_neg c]
      refine ⟨List.nodup_cons.mpr ⟨fun m => c (List.any_eq_true.mpr ⟨x, m, strEq_iff.mpr rfl⟩), h1⟩, fun z => ?_⟩
      rw [List.mem_cons, List.mem_cons, h2 z]
def strsD : List D → Option (List Str)
  | [] => some []
  | .str x :: ds => match strsD ds with | some xs => some (x :: xs) | none => none
  | _ :: _ => none
theorem strsD_eq : ∀ {ds : List D} {xs : List Str}, strsD ds = some xs → ds = xs.map D.str
  | [], xs, h => by simp [strsD] at h; subst h; rfl
  | d :: ds, xs, h => by
    cases d with
    | str x =>
      simp only [strsD] at h
      cases e : strsD ds with
      | none => rw [e] at h; cases h
      | some ys => rw [e] at h; cases h; rw [strsD_eq e]; rfl
    | _ => simp [strsD] at h
theorem rpl_strs {K : PySem.W.Frag} {F : Hp} : ∀ {xs : List Str} {vs : List V}, RpL K F vs (xs.map D.str) → vs = xs.map V.str
  | [], _, h => by cases h; rfl
  | x :: xs, _, h => by cases h with | cons h1 h2 => rw [str_of h1, rpl_strs h2]; rfl
theorem rpl_strsV {K : PySem.W.Frag} {F : Hp} : ∀ xs : List Str, RpL K F (xs.map V.str) (xs.map D.str)
  | [] => .nil
  | x :: xs => .cons (.str x) (rpl_strsV xs)
def leS (a b : Str) : Bool := !strLt b a
theorem leS_eq : (leS : Str → Str → Bool) = sLe := by funext a b; exact (sLe_lt a b).symm
def fSetSorted (f : EF) : EF := fun ρ => (f ρ).bind fun x => match x.1 with
  | .lst ds => (match strsD ds with
    | some xs => if xs.length < 900 then .ok (.lst ((isort leS (dedS xs)).map D.str), true) else .st
    | none => .st)
  | _ => .st
def fSetLen (f : EF) : EF := fun ρ => (f ρ).bind fun x => match x.1 with
  | .lst ds => (match strsD ds with
    | some xs => if xs.length < 900 then .ok (.int (dedS xs).length, false) else .st
    | none => .st)
  | _ => .st
section
variable {X : Cx} {E : XE} {e : Expr} {f : EF} {p p2 q pos : Pos}
theorem px_setSorted (hc : X.calm = true) (hu : X.A.units + 70 < cLine) (he : PX X E e f) (hm : X.mg "sorted" = none) (hm2 : X.mg "set" = none) (hg : Gl X "sorted" := by rfl) (hg2 : Gl X "set" := by rfl)
    (hs1 : starEach [e] X.env = (false, eval e X.env) :: starEach [] X.env := by rfl) (hp1 : (backTo p2 (starEach [] X.env)).any (·.1) = false := by rfl)
    (hs2 : starEach [.Call (.Name "set" q) [e] [] p2] X.env = (false, eval (.Call (.Name "set" q) [e] [] p2) X.env) :: starEach [] X.env := by rfl) (hp2 : (backTo pos (starEach [] X.env)).any (·.1) = false := by rfl) :
    PX X E (.Call (.Name "sorted" p) [.Call (.Name "set" q) [e] [] p2] [] pos) (fSetSorted f) := by
  have base := pe_callB (p := p) (pos := pos) (cr_sortS hc hu) hg hm (by rfl) (pa_cons (pe_callTy (p := q) (pos := p2) (cr_setS hc) hg2 hm2 (by rfl) (pa_cons he pa_nil hs1) (by decide) (by decide) hs1 hp1) pa_nil hs2) (by decide) (by decide) hs2 hp2
  refine ⟨fun pins s σ H Q I h => base.run pins s σ H Q I ?_⟩
  obtain ⟨F0, H0, F, ρ, S, h⟩ := h
  refine tE_bind S h fun d g x F1 H1 x1 S1 r1 h1 => ?_
  cases d with
  | lst ds =>
    simp only at h1
    cases e1 : strsD ds with
    | none => rw [e1] at h1; exact h1.elim
    | some xs =>
      rw [e1] at h1
      simp only at h1
      by_cases c : xs.length < 900
      case neg => rw [if_neg c] at h1; exact h1.elim
      rw [if_pos c] at h1
      obtain rfl := strsD_eq e1
      obtain ⟨a, vs, rfl, ha, rl⟩ := rp_alive r1
      obtain rfl := rpl_strs rl
      refine ⟨a, xs, rfl, .inl (.inl (S1.sub _ _ ha)), c, fun t l ht nl ms => ?_⟩
      refine ⟨t, l, rfl, upd_same, fun b ks hb m1 m2 m3 => ?_⟩
      obtain ⟨n1, n2⟩ := dedS_ok xs
      have nk : ks.Nodup := nodup_same nl (fun x hx => (m1 x).mpr hx) (Nat.le_of_eq m2)
      have pk : ks.Perm (dedS xs) := (List.perm_ext_iff_of_nodup nk n1).mpr fun x => by rw [m1, ms.mem, n2]
      have ek := sorted_one pk m3
      rw [leS_eq] at h1
      rw [ek]
      have hb1 : H1 b = none := by
        by_cases e : b = t
        · subst e; exact ht
        · rw [upd_ne e] at hb; exact hb
      have ne : b ≠ t := fun z => by rw [z, upd_same] at hb; cases hb
      have hF1 := none_of_sb S1.sub hb1
      have hFt := none_of_sb S1.sub ht
      refine h1 (.ref b) F1 _ ⟨.refl _, fun y u q => ?_, fun y u q => ?_, fun _ _ q => .inl q⟩ ⟨b, rfl, hF1, hb1, .lst upd_same (rpl_strsV _)⟩
      · rw [upd_ne (ne_of_none q hF1), upd_ne (ne_of_none q hFt)]; exact S1.sub _ _ q
      · rw [upd_ne (ne_of_none q hb1), upd_ne (ne_of_none q ht)]; exact q
  | _ => exact h1.elim
theorem px_setLen (hc : X.calm = true) (he : PX X E e f) (hm : X.mg "len" = none) (hm2 : X.mg "set" = none) (hg : Gl X "len" := by rfl) (hg2 : Gl X "set" := by rfl)
    (hs1 : starEach [e] X.env = (false, eval e X.env) :: starEach [] X.env := by rfl) (hp1 : (backTo p2 (starEach [] X.env)).any (·.1) = false := by rfl)
    (hs2 : starEach [.Call (.Name "set" q) [e] [] p2] X.env = (false, eval (.Call (.Name "set" q) [e] [] p2) X.env) :: starEach [] X.env := by rfl) (hp2 : (backTo pos (starEach [] X.env)).any (·.1) = false := by rfl) :
    PX X E (.Call (.Name "len" p) [.Call (.Name "set" q) [e] [] p2] [] pos) (fSetLen f) := by
  have base := pe_callB (p := p) (pos := pos) cr_lenS hg hm (by rfl) (pa_cons (pe_callTy (p := q) (pos := p2) (cr_setS hc) hg2 hm2 (by rfl) (pa_cons he pa_nil hs1) (by decide) (by decide) hs1 hp1) pa_nil hs2) (by decide) (by decide) hs2 hp2
  refine ⟨fun pins s σ H Q I h => base.run pins s σ H Q I ?_⟩
  obtain ⟨F0, H0, F, ρ, S, h⟩ := h
  refine tE_bind S h fun d g x F1 H1 x1 S1 r1 h1 => ?_
  cases d with
  | lst ds =>
    simp only at h1
    cases e1 : strsD ds with
    | none => rw [e1] at h1; exact h1.elim
    | some xs =>
      rw [e1] at h1
      simp only at h1
      by_cases c : xs.length < 900
      case neg => rw [if_neg c] at h1; exact h1.elim
      rw [if_pos c] at h1
      obtain rfl := strsD_eq e1
      obtain ⟨a, vs, rfl, ha, rl⟩ := rp_alive r1
      obtain rfl := rpl_strs rl
      refine ⟨a, xs, rfl, .inl (.inl (S1.sub _ _ ha)), c, fun t l ht nl ms => ⟨t, l, rfl, upd_same, ?_⟩⟩
      obtain ⟨n1, n2⟩ := dedS_ok xs
      have pl : l.Perm (dedS xs) := (List.perm_ext_iff_of_nodup nl n1).mpr fun x => by rw [ms.mem, n2]
      have hFt := none_of_sb S1.sub ht
      rw [pl.length_eq]
      refine h1 _ F1 _ ⟨.refl _, fun y u q => ?_, fun y u q => ?_, fun _ _ q => .inl q⟩ (.int _)
      · rw [upd_ne (ne_of_none q hFt)]; exact S1.sub _ _ q
      · rw [upd_ne (ne_of_none q ht)]; exact q
  | _ => exact h1.elim
end
end Pd

/-! Pd11: what the generated derivations use besides: calls by contract, constants, nested targets, rooms. -/
namespace Pd
open PySem PySem.Spec PyProof.Rows L2

theorem u70 {A : Around} {k : Nat} (hr : Room k A) : A.units + 70 < cLine := by have := hr.un; omega
theorem u65 {A : Around} {k : Nat} (hr : Room k A) : A.units + 65 < cLine := by have := hr.un; omega
theorem u64 {A : Around} {k : Nat} (hr : Room k A) : A.units + 64 < cLine := by have := hr.un; omega
theorem u1 {A : Around} {k : Nat} (hr : Room k A) : A.units + 1 < cLine := by have := hr.un; omega
def xa0 : Xn → Addr := fun _ => 0
/-- a def that can be called: what it computes -/
structure Cl (P : Program) (w : World) (K : PySem.W.Frag) (mg : Str → Option Value) (base : Heap) (k : Nat) (x : Str) (ps : List Str) (g : List D → R (D × Bool)) : Prop where
  ex : ∃ f fd, FnOk P w K mg base CX0 k f fd ps (spD K xa0 ps.length g) ∧ mg x = some (.ref f) ∧ PySem.W.keepIn K (.ref f) = true ∧ Binds K fd ps []
section
variable {X : Cx} {pos p : Pos} {x : Str} {e : Expr} {es : List Expr} {k : Nat} {ps : List Str} {g : List D → R (D × Bool)} {fa : Env → R (List D)} {E : XE}
theorem px_callC (C : Cl X.prog X.w X.K X.mg X.base k x ps g) (hr : Room k X.A) (hx : Passes CX0 X (fun _ _ _ => False)) (ha : PLs X noE (e :: es) ps.length fa) (hg : Gl X x := by rfl) (hdb : (x == ("__debug__" : Str)) = false := by decide)
    (he : starEach (e :: es) X.env = (false, eval e X.env) :: starEach es X.env := by rfl) (hpl : (backTo pos (starEach es X.env)).any (·.1) = false := by rfl) : PX X noE (.Call (.Name x p) (e :: es) [] pos) (fCall g fa) := by
  obtain ⟨f, fd, h1, h2, h3, h4⟩ := C.ex
  exact px_call (xa := xa0) (E := fun _ _ _ => False) h1 hr h2 h3 h4 hx ha hg hdb he hpl
theorem px_callC0 (C : Cl X.prog X.w X.K X.mg X.base k x [] g) (hr : Room k X.A) (hx : Passes CX0 X (fun _ _ _ => False)) (hg : Gl X x := by rfl) (hdb : (x == ("__debug__" : Str)) = false := by decide) :
    PX X noE (.Call (.Name x p) [] [] pos) (fCall g fNil) := by
  obtain ⟨f, fd, h1, h2, h3, h4⟩ := C.ex
  refine ⟨fun pins s σ H Q I h => (pe_call0 (E := fun _ _ _ => False) h1 hr hg h2 h3 h4 .nil hx hdb).run pins s σ H Q I ?_⟩
  obtain ⟨F0, H0, F, ρ, S, h⟩ := h
  exact ⟨F, [], S.sub, .nil, rfl, h⟩
theorem px_gI {i : Int} (h : ∃ u, X.mg x = some u ∧ RelV (.int i) u) (hg : Gl X x := by rfl) (hd : (x == ("__debug__" : Str)) = false := by decide) : PX X E (.Name x pos) (eC (.int i)) := by
  obtain ⟨u, h1, h2⟩ := h
  exact px_globI hg h1 h2 hd
theorem px_gS {i : Str} (h : ∃ u, X.mg x = some u ∧ RelV (.str i) u) (hg : Gl X x := by rfl) (hd : (x == ("__debug__" : Str)) = false := by decide) : PX X E (.Name x pos) (eC (.str i)) := by
  obtain ⟨u, h1, h2⟩ := h
  exact px_globS hg h1 h2 hd
end

/-- a text, its signs written out -/
theorem px_strE {X : Cx} {E : XE} {x y : Str} {j} {pos : Pos} (h : x = y := by decide +kernel) : PX X E (.Constant (.str x) j pos) (eC (.str y)) := by
  subst h
  exact px_str

/-! ### targets in targets -/
abbrev GDs := List D → Env → Option Env
def g2Nil : GDs := fun ds ρ => match ds with
  | [] => some ρ
  | _ :: _ => none
def g2Cons (g : D → Env → Option Env) (gs : GDs) : GDs := fun ds ρ => match ds with
  | d :: r => (match g d ρ with
    | some ρ' => gs r ρ'
    | none => none)
  | [] => none
def g2T (n : Nat) (gs : GDs) : D → Env → Option Env := fun d ρ => match d with
  | .tup ds => if ds.length = n then gs ds ρ else none
  | _ => none
def TgsD (K : PySem.W.Frag) (t : TGs) (g : GDs) : Prop :=
  ∀ (F0 H0 F H : Hp) (σ : L2.St) (ρ ρ' : Env) (vs : List V) (ds : List D) (Q : L2.St → Hp → Prop), StOk K F0 H0 F H σ ρ → RpL K F vs ds → g ds ρ = some ρ' → (∀ σ', (∀ H, StOk K F0 H0 F H σ ρ → StOk K F0 H0 F H σ' ρ') → Q σ' H) → t vs σ H Q
section
variable {K : PySem.W.Frag} {t : TG} {u : TGs} {g : D → Env → Option Env} {gs : GDs}
theorem tgs2_nil : TgsD K gNil g2Nil := fun F0 H0 F H σ ρ ρ' vs ds Q S r e h => by
  cases ds with
  | nil =>
    cases r
    simp only [g2Nil, Option.some.injEq] at e
    subst e
    exact ⟨rfl, h σ fun H S => S⟩
  | cons d ds => simp [g2Nil] at e
theorem tgs2_cons (h1 : TgD K t g) (h2 : TgsD K u gs) : TgsD K (gCons t u) (g2Cons g gs) := fun F0 H0 F H σ ρ ρ' vs ds Q S r e h => by
  cases ds with
  | nil => simp [g2Cons] at e
  | cons d ds =>
    cases r with
    | cons r1 r2 =>
      simp only [g2Cons] at e
      cases e1 : g d ρ with
      | none => rw [e1] at e; cases e
      | some ρ1 =>
        rw [e1] at e
        refine ⟨_, _, rfl, h1 F0 H0 F H σ ρ ρ1 _ d _ S r1 e1 fun σ1 k1 => ?_⟩
        exact h2 F0 H0 F H σ1 ρ1 ρ' _ ds Q (k1 H S) r2 e fun σ2 k2 => h σ2 fun H' S' => k2 H' (k1 H' S')
theorem tg_tup2 (n : Nat) (h : TgsD K u gs) : TgD K (gTup K n u) (g2T n gs) := fun F0 H0 F H σ ρ ρ' v d Q S r e k => by
  cases d with
  | tup ds =>
    simp only [g2T] at e
    by_cases c : ds.length = n
    · rw [if_pos c] at e
      cases r with
      | tup h1 h2 => exact ⟨_, _, rfl, .of (S.sub _ _ h1), h2.length.trans c, h F0 H0 F H σ ρ ρ' _ ds Q S h2 e k⟩
    · rw [if_neg c] at e; cases e
  | _ => simp [g2T] at e
/-- a target keeps to its own slots, from wherever -/
def TwG (t : TG) (vs : List Nat) : Prop := ∀ (v : V) (τ : L2.St) (H : Hp) (Q : L2.St → Hp → Prop), t v τ H Q → t v τ H fun σ2 H2 => wipe σ2 vs = wipe τ vs ∧ Q σ2 H2
def TwGs (t : TGs) (vs : List Nat) : Prop := ∀ (v : List V) (τ : L2.St) (H : Hp) (Q : L2.St → Hp → Prop), t v τ H Q → t v τ H fun σ2 H2 => wipe σ2 vs = wipe τ vs ∧ Q σ2 H2
theorem twg_name {i : Nat} {vs : List Nat} (h : i ∈ vs) : TwG (gName i) vs := fun v τ H Q q => ⟨wipe_set_out h, q⟩
theorem twgs_nil {vs : List Nat} : TwGs gNil vs := fun v τ H Q q => ⟨q.1, rfl, q.2⟩
/-- what a target wants grows with what is wanted behind it -/
def MonG (t : TG) : Prop := ∀ (v : V) (τ : L2.St) (H : Hp) (Q Q' : L2.St → Hp → Prop), (∀ σ H, Q σ H → Q' σ H) → t v τ H Q → t v τ H Q'
def MonGs (t : TGs) : Prop := ∀ (v : List V) (τ : L2.St) (H : Hp) (Q Q' : L2.St → Hp → Prop), (∀ σ H, Q σ H → Q' σ H) → t v τ H Q → t v τ H Q'
structure TwM (t : TG) (vs : List Nat) : Prop where
  tw : TwG t vs
  mo : MonG t
structure TwMs (t : TGs) (vs : List Nat) : Prop where
  tw : TwGs t vs
  mo : MonGs t
theorem twm_name {i : Nat} {vs : List Nat} (h : i ∈ vs) : TwM (gName i) vs := ⟨twg_name h, fun v τ H Q Q' k q => k _ _ q⟩
theorem twms_nil {vs : List Nat} : TwMs gNil vs := ⟨twgs_nil, fun v τ H Q Q' k q => ⟨q.1, k _ _ q.2⟩⟩
theorem twms_cons {vs : List Nat} (h1 : TwM t vs) (h2 : TwMs u vs) : TwMs (gCons t u) vs := by
  refine ⟨fun v τ H Q q => ?_, fun v τ H Q Q' k q => ?_⟩
  · obtain ⟨x, r, e, q⟩ := q
    refine ⟨x, r, e, h1.mo x τ H _ _ (fun σ1 H1 z => ?_) (h1.tw x τ H _ q)⟩
    exact h2.mo r σ1 H1 _ _ (fun σ2 H2 y => ⟨y.1.trans z.1, y.2⟩) (h2.tw r σ1 H1 _ z.2)
  · obtain ⟨x, r, e, q⟩ := q
    exact ⟨x, r, e, h1.mo x τ H _ _ (fun σ1 H1 z => h2.mo r σ1 H1 _ _ k z) q⟩
theorem twm_tup {n : Nat} {vs : List Nat} (h : TwMs u vs) : TwM (gTup K n u) vs := by
  refine ⟨fun v τ H Q q => ?_, fun v τ H Q Q' k q => ?_⟩
  · obtain ⟨a, xs, e, hq, hl, q⟩ := q
    exact ⟨a, xs, e, hq, hl, h.tw xs τ H _ q⟩
  · obtain ⟨a, xs, e, hq, hl, q⟩ := q
    exact ⟨a, xs, e, hq, hl, h.mo xs τ H _ _ k q⟩
theorem tw_of {vs : List Nat} (h : TwM t vs) : TgW g t vs := fun v σ H Q q => h.mo v _ H _ _ (fun σ2 H2 z => ⟨z.1.trans (wipe_wipe _ _ _ fun _ x => x), z.2⟩) (h.tw v _ H Q q)
end
end Pd

/-! Pd12: tuple(range(n)), indices. -/
namespace Pd
open PySem PySem.Spec PyProof.Rows L2
def fTupRg (f : EF) : EF := fun ρ => (f ρ).bind fun x => match x.1 with
  | .int (.ofNat n) => if Nat.ble n CAP then .ok (.tup (rngD 0 1 n), false) else .st
  | _ => .st
theorem rpl_rng {K : PySem.W.Frag} {F : Hp} (n : Nat) : RpL K F (rgV 0 (n : Int)) (rngD 0 1 n) := by
  unfold rgV rngD
  have e : ((n : Int) - 0).toNat = n := by omega
  rw [e]
  generalize List.range n = l
  induction l with
  | nil => exact .nil
  | cons i l ih =>
    rw [List.map_cons, List.map_cons]
    refine .cons ?_ ih
    have : (0 : Int) + (i : Int) = 0 + (i : Int) * 1 := by omega
    rw [this]
    exact .int _
theorem px_tupRg {X : Cx} {E : XE} {e : Expr} {f : EF} {p p2 pos pos2 : Pos} (hc : X.calm = true) (he : PX X E e f) (hm : X.mg "tuple" = none) (hm2 : X.mg "range" = none) (hg : Gl X "tuple" := by rfl) (hg2 : Gl X "range" := by rfl)
    (hs : starEach [e] X.env = (false, eval e X.env) :: starEach [] X.env := by rfl)
    (hs2 : starEach [.Call (.Name "range" p2) [e] [] pos2] X.env = (false, eval (.Call (.Name "range" p2) [e] [] pos2) X.env) :: starEach [] X.env := by rfl) :
    PX X E (.Call (.Name "tuple" p) [.Call (.Name "range" p2) [e] [] pos2] [] pos) (fTupRg f) := by
  refine ⟨fun pins s σ H Q I h => (pe_tupRg hc hg hm (prg_1 hg2 hm2 he hs) hs2).run pins s σ H Q I ?_⟩
  obtain ⟨F0, H0, F, ρ, S, h⟩ := h
  refine tE_bind S h fun d g x F1 H1 x1 S1 r1 h1 => ?_
  cases d with
  | int i =>
    cases i with
    | negSucc n => exact h1.elim
    | ofNat n =>
      simp only at h1
      by_cases c : Nat.ble n CAP = true
      · rw [if_pos c] at h1
        have c := Nat.le_of_ble_eq_true c
        have c2 : n ≤ 1000000 := c
        refine ⟨_, int_of r1, RgOk.of_le (by omega) (by show (n : Int) ≤ _; omega) (by omega) (by show (0 : Int) ≤ (n : Int); omega), fun q hq => h1.laid S1.sub hq (.tup upd_same (rpl_rng n))⟩
      · rw [if_neg c] at h1; exact h1.elim
  | _ => exact h1.elim
end Pd

/-! Pd13: the same functions, by recursors, so that the kernel reckons quickly. -/
namespace Pd
open PySem PySem.Spec PyProof.Rows L2
noncomputable section
def bnd {α β : Type} (r : R α) (f : α → R β) : R β := R.rec (motive := fun _ => R β) f .ex .st r
theorem bnd_eq {α β : Type} (r : R α) (f : α → R β) : r.bind f = bnd r f := by cases r <;> rfl
def nthW (ρ : Env) : Nat → Option (D × Bool) := List.rec (motive := fun _ => Nat → Option (D × Bool)) (fun _ => none) (fun x _ ih i => Nat.rec (motive := fun _ => Option (D × Bool)) x (fun j _ => ih j) i) ρ
theorem nthW_eq : ∀ (ρ : Env) (i : Nat), ρ[i]?.join = nthW ρ i
  | [], _ => rfl
  | _ :: _, 0 => rfl
  | _ :: r, i + 1 => nthW_eq r i
def oW (o : Option (D × Bool)) : R (D × Bool) := Option.rec (motive := fun _ => R (D × Bool)) .st (fun p => Bool.rec (motive := fun _ => R (D × Bool)) (.ok (p.1, false)) .st p.2) o
def eW (i : Nat) : EF := fun ρ => oW (nthW ρ i)
theorem w_eVar : eVar = eW := by
  funext i ρ
  unfold eVar eW
  rw [← nthW_eq]
  cases ρ[i]? with
  | none => rfl
  | some o => cases o with
    | none => rfl
    | some p => obtain ⟨d, b⟩ := p; cases b <;> rfl
def fOpW (g : D → D → R (D × Bool)) (fa fb : EF) : EF := fun ρ => bnd (fa ρ) fun x => bnd (fb ρ) fun y => g x.1 y.1
theorem w_fOp : fOp = fOpW := by funext g fa fb ρ; unfold fOp fOpW; simp only [bnd_eq]
def fCallW (g : List D → R (D × Bool)) (f : Env → R (List D)) : EF := fun ρ => bnd (f ρ) g
theorem w_fCall : fCall = fCallW := by funext g f ρ; unfold fCall fCallW; simp only [bnd_eq]
def fConsW (f : EF) (g : Env → R (List D)) : Env → R (List D) := fun ρ => bnd (f ρ) fun x => bnd (g ρ) fun xs => .ok (x.1 :: xs)
theorem w_fCons : fCons = fConsW := by funext f g ρ; unfold fCons fConsW; simp only [bnd_eq]
def brW {α : Type} (b : Bool) (x y : α) : α := Bool.rec (motive := fun _ => α) y x b
theorem brW_eq {α : Type} (b : Bool) (x y : α) : (if b = true then x else y) = brW b x y := by cases b <;> rfl
def fIfW (t : Env → R Bool) (f g : EF) : EF := fun ρ => bnd (t ρ) fun b => brW b (f ρ) (g ρ)
theorem w_fIf : fIf = fIfW := by funext t f g ρ; unfold fIf fIfW; simp only [bnd_eq, brW_eq]
def fYW (f : EF) : Env → R Bool := fun ρ => bnd (f ρ) toB
theorem w_fY : fY = fYW := by funext f ρ; unfold fY fYW; simp only [bnd_eq]
def fNotW (f : Env → R Bool) : Env → R Bool := fun ρ => bnd (f ρ) fun b => .ok (!b)
theorem w_fNotT : fNotT = fNotW := by funext f ρ; unfold fNotT fNotW; simp only [bnd_eq]
def fAndW (f g : Env → R Bool) : Env → R Bool := fun ρ => bnd (f ρ) fun b => brW b (g ρ) (.ok false)
theorem w_fAndT : fAndT = fAndW := by funext f g ρ; unfold fAndT fAndW; simp only [bnd_eq, brW_eq]
def fOrW (f g : Env → R Bool) : Env → R Bool := fun ρ => bnd (f ρ) fun b => brW b (.ok true) (g ρ)
theorem w_fOrT : fOrT = fOrW := by funext f g ρ; unfold fOrT fOrW; simp only [bnd_eq, brW_eq]
/-! ### statements -/
def otW (o : Out) (k : Env → Out) : Out := Out.rec (motive := fun _ => Out) k (fun d f => .rt d f) (fun c => .ex c) .st o
def sSeqW (s t : SF) : SF := fun ρ => otW (s ρ) t
theorem w_sSeq : sSeq = sSeqW := by funext s t ρ; unfold sSeq sSeqW; cases s ρ <;> rfl
def rsW {α : Type} (r : R α) (k : α → Out) : Out := R.rec (motive := fun _ => Out) k (fun c => .ex c) .st r
def setW (ρ : Env) : Nat → Option (D × Bool) → Env := List.rec (motive := fun _ => Nat → Option (D × Bool) → Env) (fun _ _ => []) (fun x r ih i v => Nat.rec (motive := fun _ => Env) (v :: r) (fun j _ => x :: ih j v) i) ρ
theorem setW_eq : ∀ (ρ : Env) (i : Nat) (v : Option (D × Bool)), ρ.set i v = setW ρ i v
  | [], _, _ => rfl
  | _ :: _, 0, _ => rfl
  | x :: r, i + 1, v => by
    show x :: r.set i v = x :: setW r i v
    rw [setW_eq r i v]
def sSetW (i : Nat) (f : EF) : SF := fun ρ => rsW (f ρ) fun x => .nx (setW ρ i (some (x.1, false)))
theorem w_sSet : sSet = sSetW := by funext i f ρ; unfold sSet sSetW; cases f ρ <;> simp only [setW_eq] <;> rfl
def sIfW (c : Env → R Bool) (s t : SF) : SF := fun ρ => rsW (c ρ) fun b => brW b (s ρ) (t ρ)
theorem w_sIf : sIf = sIfW := by
  funext c s t ρ
  unfold sIf sIfW
  cases c ρ with
  | ok b => cases b <;> rfl
  | ex c => rfl
  | st => rfl
def sRetW (f : EF) : SF := fun ρ => rsW (f ρ) fun x => .rt x.1 x.2
theorem w_sRet : sRet = sRetW := by funext f ρ; unfold sRet sRetW; cases f ρ <;> rfl
def sParW (i j : Nat) (fa fb : EF) : SF := fun ρ => rsW (fa ρ) fun x => rsW (fb ρ) fun y => .nx (setW (setW ρ i (some (x.1, false))) j (some (y.1, false)))
theorem w_sPar : sPar = sParW := by
  funext i j fa fb ρ
  unfold sPar sParW
  cases fa ρ with
  | ok x => cases fb ρ <;> simp only [setW_eq] <;> rfl
  | ex c => rfl
  | st => rfl
def gNW (i : Nat) : D → Env → Option Env := fun d ρ => some (setW ρ i (some (d, false)))
theorem w_gN : gN = gNW := by funext i d ρ; unfold gN gNW; rw [setW_eq]
def forW (g : D → Env → Option Env) (body : SF) (ds : List D) : SF :=
  List.rec (motive := fun _ => Env → Out) (fun ρ => .nx ρ) (fun d _ ih ρ => Option.rec (motive := fun _ => Out) .st (fun ρ1 => otW (body ρ1) ih) (g d ρ)) ds
theorem forW_eq (g : D → Env → Option Env) (body : SF) : ∀ (ds : List D) (ρ : Env), forL g body ds ρ = forW g body ds ρ
  | [], ρ => rfl
  | d :: ds, ρ => by
    rw [forL]
    show _ = Option.rec (motive := fun _ => Out) .st (fun ρ1 => otW (body ρ1) (forW g body ds)) (g d ρ)
    cases g d ρ with
    | none => rfl
    | some ρ1 =>
      show (match body ρ1 with | .nx ρ2 => forL g body ds ρ2 | .rt d f => .rt d f | .ex c => .ex c | .st => .st) = otW (body ρ1) (forW g body ds)
      cases body ρ1 with
      | nx ρ2 => exact forW_eq g body ds ρ2
      | rt d f => rfl
      | ex c => rfl
      | st => rfl
def sForW (fi : Env → R (List D)) (g : D → Env → Option Env) (body : SF) : SF := fun ρ => rsW (fi ρ) fun ds => forW g body ds ρ
theorem w_sFor : sFor = sForW := by
  funext fi g body ρ
  unfold sFor sForW
  cases fi ρ with
  | ok ds => exact forW_eq g body ds ρ
  | ex c => rfl
  | st => rfl
def whileW (c : Env → R Bool) (body : SF) (n : Nat) : SF :=
  Nat.rec (motive := fun _ => Env → Out) (fun _ => .st) (fun _ ih ρ => rsW (c ρ) fun b => brW b (otW (body ρ) ih) (.nx ρ)) n
theorem w_while : whileL = whileW := by
  funext c body n
  induction n with
  | zero => rfl
  | succ n ih =>
    funext ρ
    rw [whileL]
    show _ = rsW (c ρ) fun b => brW b (otW (body ρ) (whileW c body n)) (.nx ρ)
    rw [← ih]
    cases c ρ with
    | ok b => cases b with
      | true =>
        show (match body ρ with | .nx ρ2 => whileL c body n ρ2 | .rt d f => .rt d f | .ex c => .ex c | .st => .st) = otW (body ρ) (whileL c body n)
        cases body ρ <;> rfl
      | false => rfl
    | ex c => rfl
    | st => rfl
/-! ### comprehensions -/
def stW {α β : Type} (r : R α) (k : α → R β) : R β := R.rec (motive := fun _ => R β) k (fun _ => .st) .st r
def lcW (g : D → Env → Option Env) (ft : Env → R Bool) (fe : EF) (ρ : Env) (ds : List D) : R (List D) :=
  List.rec (motive := fun _ => R (List D)) (.ok []) (fun d _ ih => Option.rec (motive := fun _ => R (List D)) .st (fun ρ1 => stW (ft ρ1) fun b => brW b (stW (fe ρ1) fun x => stW ih fun l => .ok (x.1 :: l)) ih) (g d ρ)) ds
theorem lcW_eq (g : D → Env → Option Env) (ft : Env → R Bool) (fe : EF) (ρ : Env) : ∀ ds, lcL g ft fe ρ ds = lcW g ft fe ρ ds
  | [] => rfl
  | d :: ds => by
    have ih := lcW_eq g ft fe ρ ds
    rw [lcL]
    show _ = Option.rec (motive := fun _ => R (List D)) .st (fun ρ1 => stW (ft ρ1) fun b => brW b (stW (fe ρ1) fun x => stW (lcW g ft fe ρ ds) fun l => .ok (x.1 :: l)) (lcW g ft fe ρ ds)) (g d ρ)
    rw [← ih]
    cases g d ρ with
    | none => rfl
    | some ρ1 =>
      simp only
      cases ft ρ1 with
      | ok b => cases b with
        | true =>
          simp only
          cases fe ρ1 with
          | ok x => simp only; cases lcL g ft fe ρ ds <;> rfl
          | ex c => rfl
          | st => rfl
        | false => rfl
      | ex c => rfl
      | st => rfl
def wipeW (ρ : Env) (vs : List Nat) : Env := List.rec (motive := fun _ => Env) ρ (fun v _ ih => setW ih v none) vs
theorem wipeW_eq (ρ : Env) : ∀ vs, wipeE ρ vs = wipeW ρ vs
  | [] => rfl
  | v :: vs => by
    show (wipeE ρ vs).set v none = setW (wipeW ρ vs) v none
    rw [wipeW_eq ρ vs, setW_eq]
def capW (l : List D) : R (D × Bool) := brW (Nat.ble l.length CAP) (.ok (.lst l, true)) .st
theorem capW_eq (l : List D) : (if l.length ≤ CAP then R.ok (D.lst l, true) else .st) = capW l := by
  unfold capW
  by_cases h : l.length ≤ CAP
  · rw [if_pos h, Nat.ble_eq_true_of_le h]; rfl
  · rw [if_neg h]
    cases q : Nat.ble l.length CAP with
    | true => exact absurd (Nat.le_of_ble_eq_true q) h
    | false => rfl
def fLcW (fi : Env → R (List D)) (g : D → Env → Option Env) (ft : Env → R Bool) (fe : EF) (vs : List Nat) : EF := fun ρ => bnd (fi ρ) fun ds => stW (lcW g ft fe (wipeW ρ vs) ds) capW
theorem w_fLc : fLc = fLcW := by
  funext fi g ft fe vs ρ
  unfold fLc fLcW
  cases fi ρ with
  | ok ds =>
    simp only [lcW_eq, wipeW_eq]
    show _ = stW (lcW g ft fe (wipeW ρ vs) ds) capW
    cases lcW g ft fe (wipeW ρ vs) ds with
    | ok l => exact capW_eq l
    | ex c => rfl
    | st => rfl
  | ex c => rfl
  | st => rfl
def lc2W (g : D → Env → Option Env) (ft : Env → R Bool) (fi1 : Env → R (List D)) (g1 : D → Env → Option Env) (ft1 : Env → R Bool) (fe : EF) (vs1 : List Nat) (ρ : Env) (ds : List D) : R (List D) :=
  List.rec (motive := fun _ => R (List D)) (.ok []) (fun d _ ih => Option.rec (motive := fun _ => R (List D)) .st (fun ρ1 => stW (ft ρ1) fun b => brW b (stW (fi1 ρ1) fun es => stW (lcW g1 ft1 fe (wipeW ρ1 vs1) es) fun l1 => stW ih fun l => .ok (l1 ++ l)) ih) (g d ρ)) ds
theorem lc2W_eq (g : D → Env → Option Env) (ft : Env → R Bool) (fi1 : Env → R (List D)) (g1 : D → Env → Option Env) (ft1 : Env → R Bool) (fe : EF) (vs1 : List Nat) (ρ : Env) : ∀ ds, lc2L g ft fi1 g1 ft1 fe vs1 ρ ds = lc2W g ft fi1 g1 ft1 fe vs1 ρ ds
  | [] => rfl
  | d :: ds => by
    have ih := lc2W_eq g ft fi1 g1 ft1 fe vs1 ρ ds
    rw [lc2L]
    show _ = Option.rec (motive := fun _ => R (List D)) .st (fun ρ1 => stW (ft ρ1) fun b => brW b (stW (fi1 ρ1) fun es => stW (lcW g1 ft1 fe (wipeW ρ1 vs1) es) fun l1 => stW (lc2W g ft fi1 g1 ft1 fe vs1 ρ ds) fun l => .ok (l1 ++ l)) (lc2W g ft fi1 g1 ft1 fe vs1 ρ ds)) (g d ρ)
    rw [← ih]
    cases g d ρ with
    | none => rfl
    | some ρ1 =>
      simp only
      cases ft ρ1 with
      | ok b => cases b with
        | true =>
          simp only
          cases fi1 ρ1 with
          | ok es =>
            simp only [← wipeW_eq, ← lcW_eq]
            show _ = stW (lcL g1 ft1 fe (wipeE ρ1 vs1) es) fun l1 => stW (lc2L g ft fi1 g1 ft1 fe vs1 ρ ds) fun l => .ok (l1 ++ l)
            cases lcL g1 ft1 fe (wipeE ρ1 vs1) es with
            | ok l1 => simp only; cases lc2L g ft fi1 g1 ft1 fe vs1 ρ ds <;> rfl
            | ex c => rfl
            | st => rfl
          | ex c => rfl
          | st => rfl
        | false => rfl
      | ex c => rfl
      | st => rfl
def fLc2W (fi : Env → R (List D)) (g : D → Env → Option Env) (ft : Env → R Bool) (fi1 : Env → R (List D)) (g1 : D → Env → Option Env) (ft1 : Env → R Bool) (fe : EF) (vs vs1 : List Nat) : EF := fun ρ => bnd (fi ρ) fun ds => stW (lc2W g ft fi1 g1 ft1 fe vs1 (wipeW ρ vs) ds) capW
theorem w_fLc2 : fLc2 = fLc2W := by
  funext fi g ft fi1 g1 ft1 fe vs vs1 ρ
  unfold fLc2 fLc2W
  cases fi ρ with
  | ok ds =>
    simp only [lc2W_eq, wipeW_eq]
    show _ = stW (lc2W g ft fi1 g1 ft1 fe vs1 (wipeW ρ vs) ds) capW
    cases lc2W g ft fi1 g1 ft1 fe vs1 (wipeW ρ vs) ds with
    | ok l => exact capW_eq l
    | ex c => rfl
    | st => rfl
  | ex c => rfl
  | st => rfl
/-! ### data -/
def fItW (k : D → R (List D)) (f : EF) : Env → R (List D) := fun ρ => bnd (f ρ) fun x => k x.1
theorem w_fIt : fIt = fItW := by funext k f ρ; unfold fIt fItW; simp only [bnd_eq]
def fTupW (g : Env → R (List D)) : EF := fun ρ => bnd (g ρ) fun ds => brW (Nat.ble ds.length CAP) (.ok (.tup ds, false)) .st
theorem ble_if {α : Type} (n : Nat) (x y : α) : (if n ≤ CAP then x else y) = brW (Nat.ble n CAP) x y := by
  by_cases h : n ≤ CAP
  · rw [if_pos h, Nat.ble_eq_true_of_le h]; rfl
  · rw [if_neg h]
    cases q : Nat.ble n CAP with
    | true => exact absurd (Nat.le_of_ble_eq_true q) h
    | false => rfl
theorem w_fTup : fTup = fTupW := by funext g ρ; unfold fTup fTupW; simp only [bnd_eq, ble_if]
def fLstW (g : Env → R (List D)) : EF := fun ρ => bnd (g ρ) fun ds => brW (Nat.ble ds.length CAP) (.ok (.lst ds, true)) .st
theorem w_fLst : fLst = fLstW := by funext g ρ; unfold fLst fLstW; simp only [bnd_eq, ble_if]
def okLW (l : List Nat) : Bool := List.rec (motive := fun _ => Bool) true (fun c _ ih => brW (Nat.blt c 1114112) ih false) l
theorem okLW_eq : ∀ l, okL l = okLW l
  | [] => rfl
  | c :: r => by
    show (Nat.blt c 1114112 && okL r) = brW (Nat.blt c 1114112) (okLW r) false
    rw [okLW_eq r]
    cases Nat.blt c 1114112 <;> rfl
def eqNW (a : List Nat) : List Nat → Bool := List.rec (motive := fun _ => List Nat → Bool) (fun b => List.rec (motive := fun _ => Bool) true (fun _ _ _ => false) b) (fun x _ ih b => List.rec (motive := fun _ => Bool) false (fun y ys _ => brW (Nat.beq x y) (ih ys) false) b) a
theorem eqNW_eq : ∀ a b, eqNL a b = eqNW a b
  | [], [] => rfl
  | [], _ :: _ => rfl
  | _ :: _, [] => rfl
  | x :: a, y :: b => by
    show (Nat.beq x y && eqNL a b) = brW (Nat.beq x y) (eqNW a b) false
    rw [eqNW_eq a b]
    cases Nat.beq x y <;> rfl
def okSW (s : Str) : Bool := okLW s.cps.toList
def strEqW (a b : Str) : Bool := eqNW a.cps.toList b.cps.toList
theorem okSW_eq (s : Str) : okS s = okSW s := okLW_eq _
theorem strEqW_eq (a b : Str) : strEq a b = strEqW a b := eqNW_eq _ _
def okG (n : Nat) (d : D) : Bool := match d with
  | .int _ => true
  | .str s => okSW s
  | d => okN n d
theorem okG_eq (n : Nat) (d : D) : okN n d = okG n d := by
  unfold okG
  split
  · cases n <;> simp [okN]
  · rw [← okSW_eq]; cases n <;> simp [okN]
  · rfl
def eqvG (a b : D) : Bool := match a, b with
  | .int i, .int j => decide (i = j)
  | .str s, .str t => strEqW s t
  | a, b => eqv a b
theorem eqvG_eq (a b : D) : eqv a b = eqvG a b := by
  unfold eqvG
  split
  · simp only [eqv]
  · rw [← strEqW_eq]; simp only [eqv]
  · rfl
def keqG (a b : D) : Bool := match a, b with
  | .int i, .int j => decide (i = j)
  | .str s, .str t => strEqW s t
  | a, b => keq a b
theorem keqG_eq (a b : D) : keq a b = keqG a b := by
  unfold keqG
  split
  · simp only [keq]
  · rw [← strEqW_eq]; simp only [keq]
  · rfl
def gEqW (x y : D) : R (D × Bool) := brW (okG 64 x) (brW (okG 64 y) (.ok (.bl (eqvG x y), false)) .st) .st
theorem w_gEq : gEq = gEqW := by
  funext x y
  unfold gEq gEqW
  rw [okG_eq, okG_eq, eqvG_eq]
  cases okG 64 x <;> cases okG 64 y <;> rfl
def gNeW (x y : D) : R (D × Bool) := brW (okG 64 x) (brW (okG 64 y) (.ok (.bl (!eqvG x y), false)) .st) .st
theorem w_gNe : gNe = gNeW := by
  funext x y
  unfold gNe gNeW
  rw [okG_eq, okG_eq, eqvG_eq]
  cases okG 64 x <;> cases okG 64 y <;> rfl
def anyW (f : D → Bool) (l : List D) : Bool := List.rec (motive := fun _ => Bool) false (fun x _ ih => brW (f x) true ih) l
theorem anyW_eq (f g : D → Bool) (h : ∀ x, f x = g x) : ∀ l : List D, l.any f = anyW g l
  | [] => rfl
  | x :: l => by
    show (f x || l.any f) = brW (g x) true (anyW g l)
    rw [h, anyW_eq f g h l]
    cases g x <;> rfl
def allW (f : D → Bool) (l : List D) : Bool := List.rec (motive := fun _ => Bool) true (fun x _ ih => brW (f x) ih false) l
theorem allW_eq (f g : D → Bool) (h : ∀ x, f x = g x) : ∀ l : List D, l.all f = allW g l
  | [] => rfl
  | x :: l => by
    show (f x && l.all f) = brW (g x) (allW g l) false
    rw [h, allW_eq f g h l]
    cases g x <;> rfl
def inW (x y : D) : R Bool := match y with
  | .lst ys => brW (okG 64 x) (brW (allW (okG 63) ys) (.ok (anyW (fun z => eqvG z x) ys)) .st) .st
  | .tup ys => brW (okG 64 x) (brW (allW (okG 63) ys) (.ok (anyW (fun z => eqvG z x) ys)) .st) .st
  | y => inD x y
theorem inW_eq (x y : D) : inD x y = inW x y := by
  have l : ∀ ys : List D, (if (okN 64 x && ys.all (okN 63)) = true then R.ok (ys.any fun z => eqv z x) else .st) = brW (okG 64 x) (brW (allW (okG 63) ys) (.ok (anyW (fun z => eqvG z x) ys)) .st) .st := fun ys => by
    rw [okG_eq, allW_eq _ _ (okG_eq 63), anyW_eq _ _ (fun z => eqvG_eq z x)]
    cases okG 64 x <;> cases allW (okG 63) ys <;> rfl
  unfold inW
  split
  · rename_i ys
    rw [← l ys]
    have e : okN 64 (.lst ys) = ys.all (okN 63) := by simp only [okN]
    show (if (okN 64 x && okN 64 (.lst ys)) = true then R.ok (ys.any fun z => eqv z x) else .st) = _
    rw [e]
  · rename_i ys
    rw [← l ys]
    have e : okN 64 (.tup ys) = ys.all (okN 63) := by simp only [okN]
    show (if (okN 64 x && okN 64 (.tup ys)) = true then R.ok (ys.any fun z => eqv z x) else .st) = _
    rw [e]
  · rfl
def gInW (x y : D) : R (D × Bool) := bnd (inW x y) fun b => .ok (.bl b, false)
theorem w_gIn : gIn = gInW := by funext x y; unfold gIn gInW; rw [bnd_eq, inW_eq]
def gNotInW (x y : D) : R (D × Bool) := bnd (inW x y) fun b => .ok (.bl (!b), false)
theorem w_gNotIn : gNotIn = gNotInW := by funext x y; unfold gNotIn gNotInW; rw [bnd_eq, inW_eq]
def dGetW (kvs : List (D × D)) (k : D) : Option D := List.rec (motive := fun _ => Option D) none (fun p _ ih => brW (keqG p.1 k) (some p.2) ih) kvs
theorem dGetW_eq (k : D) : ∀ kvs, dGet kvs k = dGetW kvs k
  | [] => rfl
  | p :: r => by
    show (if keq p.1 k = true then some p.2 else dGet r k) = brW (keqG p.1 k) (some p.2) (dGetW r k)
    rw [keqG_eq, dGetW_eq k r, brW_eq]
def gIxW (x y : D) : R (D × Bool) := match x with
  | .dic t kvs => brW (okKey t y) (Option.rec (motive := fun _ => R (D × Bool)) .st (fun d => .ok (d, false)) (dGetW kvs y)) .st
  | x => gIx x y
theorem w_gIx : gIx = gIxW := by
  funext x y
  unfold gIxW
  split
  · rename_i t kvs
    show (if okKey t y = true then (match dGet kvs y with | some d => R.ok (d, false) | none => .st) else .st) = _
    rw [dGetW_eq, brW_eq]
    cases dGetW kvs y <;> rfl
  · rfl
def gNsW (is : List Nat) : List D → Env → Option Env :=
  List.rec (motive := fun _ => List D → Env → Option Env) (fun ds ρ => List.rec (motive := fun _ => Option Env) (some ρ) (fun _ _ _ => none) ds) (fun i _ ih ds ρ => List.rec (motive := fun _ => Option Env) none (fun d r _ => ih r (setW ρ i (some (d, false)))) ds) is
theorem gNsW_eq : ∀ (is : List Nat) (ds : List D) (ρ : Env), gNs is ds ρ = gNsW is ds ρ
  | [], [], _ => rfl
  | [], _ :: _, _ => rfl
  | _ :: _, [], _ => rfl
  | i :: is, d :: ds, ρ => by
    rw [gNs, gNsW_eq is ds, setW_eq]
    rfl
def gTW (is : List Nat) : D → Env → Option Env := fun d ρ => match d with
  | .tup ds => gNsW is ds ρ
  | _ => none
theorem w_gT : gT = gTW := by
  funext is d ρ
  cases d <;> first | exact gNsW_eq _ _ _ | rfl
end
end Pd

/-! Pd14: sorted(d) of a dict; xs.index(x); two owned names at once; a raise that a law never reaches. -/
namespace Pd
open PySem PySem.Spec PyProof.Rows L2 PySem.W

/-! ### sorted(d) -/
section
variable {X : Cx} {pins : List (Addr × Obj)} {σ : L2.St} {H : Hp} {s : Shared} {r d : Addr} {n : Nat} {P : Nat → Value → Prop} {OK : Heap → Prop} {T : String} {E : Value → Shared → Prop}
/-- sorted(x) of a thing whose items are collected -/
theorem sorted_src (Kd : PySem.W.KdlSrc X.prog X.w T r d n P OK) (hc : X.calm = true) (hok : OK s.heap) (hn : n ≤ sizeLine) (I : Inv X pins σ H s) (hu : X.A.units + 70 < cLine) {ds : List PyData} (hal : AllAlike ds) (hk : Sortable ds) (hdp : ∀ d ∈ ds, d.depth ≤ 64) {Q : V → Hp → Prop}
    (q : ∀ (vs : List Value), vs.length = n → (∀ j v, vs[j]? = some v → P j v) → ∃ xs, Vals xs vs ∧ DpAll X.K H xs ds ∧ ∀ p, H p = none → Q (.ref p) (upd H p (.lst (((xs.zip ds).mergeSort (sortLe (PyProof.Rows.listOrd itemOrd) false (fun b => keyToks b.2))).map Prod.fst)))) :
    wpAny (model X.prog X.w) X.A (call (.builtin "sorted") [.ref r]) (fun v s' => ∃ x H', Inv X pins σ H' s' ∧ RelV x v ∧ Q x H') E s := by
  refine Calls.call_function_entry PyProof.Rows.kind_sorted PyProof.Rows.plain_sorted PyProof.Rows.entry_sorted (PyProof.Rows.args_sorted1 _) ?_
  unfold Builtin.«sorted»
  refine wpAny_bind (m := checkCount "sorted" 1 1 _) (wpAny_pure ?_)
  refine wpAny_bind (PySem.W.kdu_collect (A := X.A.in1) Kd (I.ok.hd hc) hok hn fun h' tk acc hk' hacc => ?_)
  have hal' : acc.toList.length = n := by rw [Array.length_toList]; exact hacc.1
  obtain ⟨xs, rv, hd, q⟩ := q acc.toList hal' fun j v e => hacc.2 j v (by rw [← Array.getElem?_toList]; exact e)
  have I1 : Inv X pins σ H { s with heap := h', toks := tk } := I.kept hk'
  refine wpAny_bind (wpAny_newList ?_ (by rw [hal']; exact hn))
  have hoL : (h'.push (seqObj "list" acc.toList.toArray 0)).get? h'.objs.size = some (seqObj "list" acc.toList.toArray 0) := Heap.get?_push_size _ rfl
  show wpAny _ _ _ _ _ { s with heap := h'.push (seqObj "list" acc.toList.toArray 0), toks := tk }
  have old : ∀ b o, h'.get? b = some o → (PySem.W.sortingHeap (h'.push (seqObj "list" acc.toList.toArray 0)) h'.objs.size acc.toList).get? b = some o := fun b o e =>
    PySem.W.sortingHeap_old (Nat.ne_of_lt (Heap.lt_size e)) (Heap.get?_push_of_some _ e)
  obtain ⟨as, hr⟩ := Dp.readsAll I1 ds xs acc.toList hd rv
  have each := readsAll_each hr
  have S := PySem.W.SortsAt.data (prog := X.prog) (w := X.w) (A := X.A.in1.in1) (s := { s with heap := PySem.W.sortingHeap (h'.push (seqObj "list" acc.toList.toArray 0)) h'.objs.size acc.toList, toks := tk })
    (each.mono fun v d ⟨as, r⟩ => ⟨as, Reads.keeps old r⟩) hal hk (fun d hd => by have := hdp d hd; simp only [Around.in1_units]; omega)
  have key : EachIs (fun v d => (PySem.W.dataKind (PySem.W.sortingHeap (h'.push (seqObj "list" acc.toList.toArray 0)) h'.objs.size acc.toList) ds).keyOf v = some (keyToks d)) acc.toList ds :=
    (PySem.W.each_mem each).mono fun v d ⟨⟨as, r⟩, hm⟩ => PySem.W.dataKind_some hal hm (Reads.keeps old r)
  obtain ⟨p1, p2⟩ := each_pair (κ := fun _ => True) rv key
  have e := each_vals (sortVals_each (rev := false) (κ := PySem.W.dataKind (PySem.W.sortingHeap (h'.push (seqObj "list" acc.toList.toArray 0)) h'.objs.size acc.toList) ds) (fun b : V × PyData => keyToks b.2) p1 p2)
  obtain ⟨e', he'⟩ := PyProof.Rows.sortedHeap_at (vs := acc.toList) (out := (sortVals (PySem.W.dataKind (PySem.W.sortingHeap (h'.push (seqObj "list" acc.toList.toArray 0)) h'.objs.size acc.toList) ds) false acc.toList acc.toList).toArray) hoL
  refine wpAny_bind (wpAny_holding (wpAny_call_entry PyProof.Rows.slot_list_sort ⟨_, hoL, rfl⟩ PyProof.Rows.entry_list_sort
    (PySem.W.list_sort_vals (s := { s with heap := h'.push (seqObj "list" acc.toList.toArray 0), toks := tk }) hoL S (by rw [hal']; exact hn) ⟨_, rfl, ?_⟩) (PyProof.Rows.args_list_sort _)))
  refine wpAny_pure ⟨_, rfl, .ref h'.objs.size, upd H h'.objs.size (.lst _), I1.laid (t' := tk) (fun b u e => ?_) (Nat.le_refl _) ⟨?_, _, e', e, he'⟩, rfl, q _ (I1.hok.fresh (Nat.le_refl _))⟩
  · have hb : b < h'.objs.size := Heap.lt_size e
    rw [PyProof.Rows.sortedHeap_old (Nat.ne_of_lt hb) (by rw [size_push']; exact Nat.lt_succ_of_lt hb)]
    exact Heap.get?_push_of_some _ e
  · rw [e.length, sortVals_length false rfl, hal']
    exact hn
end

/-- F with the tuples of H -/
theorem tupOnly_self {F H : Hp} (s : Sb F H) : Fr F H (tupOnly F H) H := by
  refine ⟨fun a o e => ?_, fun a o e => ?_, .refl _, fun a o e => ?_⟩
  · unfold tupOnly
    rw [s a o e]
    cases o <;> first | exact e | rfl
  · unfold tupOnly at e
    split at e
    · rename_i q; rw [q]; exact e
    · exact s a o e
  · unfold tupOnly at e
    split at e
    · exact .inr (.inr ⟨_, (Option.some.inj e).symm⟩)
    · exact .inl e
theorem rpK_keys {K : PySem.W.Frag} {F : Hp} : ∀ {ds : List (D × D)} {kvs : List (Key × V)}, RpK K F kvs ds → RpL K F (kvs.map fun kv => kV kv.1) (ds.map Prod.fst)
  | [], _, h => by cases h; exact .nil
  | _ :: _, _, h => by cases h with | cons h1 h2 => exact .cons (rp_keyV _) (rpK_keys h2)
theorem rpT_keys {K : PySem.W.Frag} {F H : Hp} : ∀ {ds : List (D × D)} {kvs : List (List Key × V)} {bs : List Addr}, RpT K F kvs ds → IsKeys H kvs bs → RpL K (tupOnly F H) (bs.map V.ref) (ds.map Prod.fst)
  | [], _, bs, h, k => by cases h; cases k; exact .nil
  | _ :: _, _, bs, h, k => by
    cases h with
    | cons h1 h2 =>
      cases k with
      | cons k1 k2 => exact .cons (.tup (tupOnly_tup k1) (rpl_keysV _)) (rpT_keys h2 k2)
def rSortDic (K : PySem.W.Frag) : List V → Hp → VK → Prop := fun vs H Q => ∃ (a : Addr) (ds : List PyData), vs = [V.ref a] ∧ AllAlike ds ∧ Sortable ds ∧ (∀ d ∈ ds, d.depth ≤ 64) ∧
  ((∃ kvs : List (Key × V), Rd H a (.dK kvs) ∧ DpAll K H (kvs.map fun kv => kV kv.1) ds ∧ ∀ p, H p = none → Q (.ref p) (upd H p (.lst ((((kvs.map fun kv => kV kv.1).zip ds).mergeSort (sortLe (PyProof.Rows.listOrd itemOrd) false (fun b => keyToks b.2))).map Prod.fst)))) ∨
   ∃ kvs : List (List Key × V), Rd H a (.dT kvs) ∧ ∀ bs, IsKeys H kvs bs → DpAll K H (bs.map V.ref) ds ∧ ∀ p, H p = none → Q (.ref p) (upd H p (.lst ((((bs.map V.ref).zip ds).mergeSort (sortLe (PyProof.Rows.listOrd itemOrd) false (fun b => keyToks b.2))).map Prod.fst))))
theorem cr_sortDic {X : Cx} (hc : X.calm = true) (hu : X.A.units + 70 < cLine) : CallR X (.builtin "sorted") (rSortDic X.K) := by
  intro pins s σ H vs us Q I r h
  obtain ⟨a, ds, rfl, hal, hk, hdp, h⟩ := h
  obtain ⟨u, rfl, rx⟩ := r.one
  cases rx
  rcases h with ⟨kvs, hd, hp, q⟩ | ⟨kvs, hd, q⟩
  · obtain ⟨z, lo, vs, rel, dd⟩ := dk_rd I.hok hd
    obtain ⟨ep, hat⟩ := dd.dictAt
    have hl : kvs.length = vs.length := Paired.length rel
    refine sorted_src (PySem.W.kdl_dict (knd := mixKind X.prog X.w) (kvs := vs) (ep := ep) lo) hc hat (by rw [← hl]; exact z) I hu hal hk hdp fun us hul hus => ⟨_, ?_, hp, q⟩
    refine vals_of_at (by rw [List.length_map, hul, hl]) fun j x w h1 h2 => ?_
    obtain ⟨k, y, hky, hi⟩ := hus j w h2
    have e1 : (kvs.map (·.1))[j]? = some k := by
      rw [KV.keys rel, List.getElem?_map, hky] <;> rfl
    have e2 : (kvs.map fun kv => kV kv.1)[j]? = some (kV k) := by
      have e3 : (kvs.map fun kv => kV kv.1) = (kvs.map (·.1)).map kV := by rw [List.map_map] <;> rfl
      rw [e3, List.getElem?_map, e1] <;> rfl
    rw [e2] at h1
    cases h1
    exact keyIs_rel hi
  · obtain ⟨z, hs, ks, pr, o, es, ep, ho, hx, hdt, he, hn⟩ := (show ObjOk X.prog X.w H s.heap a (.dT kvs) from hd.ok I.hok)
    have l1 : es.size = ks.length := size_of_entries he
    have l2 : kvs.length = ks.length := Paired.length pr
    obtain ⟨hp, q⟩ := q _ (isKeys_of pr)
    refine sorted_src (kdl_raw hs hx hdt) hc ho (by omega) I hu hal hk hdp fun us hul hus => ⟨_, ?_, hp, q⟩
    have eb : us = (ks.map fun x => x.2.1).map Value.ref := by
      have hl : us.length = ks.length := by rw [hul]; exact l1
      apply List.ext_getElem?
      intro j
      rw [List.getElem?_map, List.getElem?_map]
      cases hj : us[j]? with
      | none =>
        have h1 := List.getElem?_eq_none_iff.mp hj
        rw [List.getElem?_eq_none (by omega)]
        all_goals rfl
      | some v =>
        obtain ⟨en, hen, hv⟩ := hus j v hj
        have qe := entry_at he j
        rw [hen] at qe
        cases hb : ks[j]? with
        | none =>
          rw [hb] at qe
          exact nomatch (show some en = none from qe)
        | some b =>
          rw [hb] at qe
          have e2 : en = entryOfKey (tupleKind (mixKind X.prog X.w)) b := Option.some.inj qe
          rw [hv, e2]
          all_goals rfl
    rw [eb]
    exact vals_refs _
/-! a list of one item -/
theorem sortsAt_one {prog : Program} {w : World} {A : Around} {s : Shared} {v : Value} {d : PyData} {as : List Addr} (r : Reads s.heap v d as) (hn : d ≠ .none) (ha : alike d d = true) (hu : A.units + d.depth < cLine) : SortsAt prog w A s (dataKind s.heap [d]) [v] := by
  have hal : AllAlike [d] := fun x hx y hy => by rw [List.mem_singleton.mp hx, List.mem_singleton.mp hy]; exact ha
  refine ⟨fun u hv => ?_, PyProof.Rows.general', fun E x y a b Q h1 h2 hq => ?_, fun h2 => ?_⟩
  · rw [List.mem_singleton.mp hv]
    exact ⟨_, dataKind_some hal List.mem_cons_self r⟩
  · obtain ⟨d1, as1, hd1, ra, rfl⟩ := dataKind_inv h1
    obtain ⟨d2, as2, hd2, rb, rfl⟩ := dataKind_inv h2
    rw [List.mem_singleton.mp hd1] at ra hq
    rw [List.mem_singleton.mp hd2] at rb hq
    show wpAny (model prog w) A (PyProof.Rows.oneLt' false x y) Q E s
    exact oneLt_alike (fun z => by cases z) ra rb ha hn (by rw [Nat.min_self]; exact hu) hq
  · simp at h2
def rSortOne (K : PySem.W.Frag) : List V → Hp → VK → Prop := fun vs H Q => ∃ (a : Addr) (x : V) (d : PyData), vs = [V.ref a] ∧ SqL K H a [x] ∧ Dp K H x d ∧ d ≠ .none ∧ alike d d = true ∧ d.depth ≤ 64 ∧ ∀ p, H p = none → Q (.ref p) (upd H p (.lst [x]))
theorem cr_sortOne {X : Cx} (hu : X.A.units + 70 < cLine) : CallR X (.builtin "sorted") (rSortOne X.K) := by
  intro pins s σ H vs us Q I r h
  obtain ⟨a, x, d, rfl, hs, hd, hn, hal, hdp, q⟩ := h
  obtain ⟨its, rv, hl, hz⟩ := I.list hs
  obtain ⟨v, rfl, rx⟩ := rv.one
  rw [Vals.ref1 r]
  obtain ⟨as, hr⟩ := Dp.reads I d x v hd rx
  have hr' : Reads (sortingHeap (copyHeap s.heap [v]) (s.heap.objs.size + 1) [v]) v d as := Reads.keeps (fun b o e => sorting_copy_old e) hr
  have S := sortsAt_one (prog := X.prog) (w := X.w) (A := X.A.in1.in1) (s := { s with heap := sortingHeap (copyHeap s.heap [v]) (s.heap.objs.size + 1) [v] }) hr' hn hal (by simp only [Around.in1_units]; omega)
  refine sorted_vals hl.isList S (by simpa using hz) ?_
  have each : EachIs (fun v (b : V × PyData) => RelV b.1 v) [v] [(x, d)] := .cons rx .nil
  have key : EachIs (fun u (b : V × PyData) => (dataKind (sortingHeap (copyHeap s.heap [v]) (s.heap.objs.size + 1) [v]) [d]).keyOf u = some (keyToks b.2)) [v] [(x, d)] :=
    .cons (dataKind_some (fun x hx y hy => by rw [List.mem_singleton.mp hx, List.mem_singleton.mp hy]; exact hal) List.mem_cons_self hr') .nil
  have e := each_vals (sortVals_each (rev := false) (κ := dataKind (sortingHeap (copyHeap s.heap [v]) (s.heap.objs.size + 1) [v]) [d]) (fun b : V × PyData => keyToks b.2) each key)
  obtain ⟨ep, he'⟩ := PyProof.Rows.sortedAll_at s.heap [v] (sortVals (dataKind (sortingHeap (copyHeap s.heap [v]) (s.heap.objs.size + 1) [v]) [d]) false [v] [v]).toArray
  have e1 : (([(x, d)] : List (V × PyData)).mergeSort (sortLe (PyProof.Rows.listOrd itemOrd) false (fun b => keyToks b.2))).map Prod.fst = [x] := by simp
  have e : Vals [x] _ := e1 ▸ e
  refine ⟨.ref _, upd H (s.heap.objs.size + 1) (.lst _), I.laid (t' := s.toks) (fun _ _ => PyProof.Rows.sortedAll_old) (Nat.le_succ _) ⟨?_, _, ep, e, he'⟩, rfl, q _ (I.hok.fresh (Nat.le_succ _))⟩
  show 1 ≤ sizeLine
  rw [sizeLine_eq]
  decide
/-- can a list of one item be sorted -/
def canOne (d : D) : Bool := okN 63 d && alk d d && !isNon d
def gSortX : List D → R (D × Bool)
  | [.lst ds] => if canSort ds then .ok (.lst (isort leD ds), true) else (match ds with | [d] => if canOne d then .ok (.lst [d], true) else .st | _ => .st)
  | [.dic _ kvs] => if canSort (kvs.map Prod.fst) then .ok (.lst (isort leD (kvs.map Prod.fst)), true) else .st
  | _ => .st
def rSortX (K : PySem.W.Frag) : List V → Hp → VK → Prop := fun vs H Q => rSortD K vs H Q ∨ rSortDic K vs H Q ∨ rSortOne K vs H Q
theorem cr_sortX {X : Cx} (hc : X.calm = true) (hu : X.A.units + 70 < cLine) : CallR X (.builtin "sorted") (rSortX X.K) := (cr_sortD hu).or ((cr_sortDic hc hu).or (cr_sortOne hu))
theorem canSort_data {ds : List D} (hc : canSort ds = true) : AllAlike (pyL ds) ∧ Sortable (pyL ds) ∧ ∀ d ∈ pyL ds, d.depth ≤ 64 := by
  obtain ⟨h0, h1, h2⟩ := canSort_alk hc
  refine ⟨?_, ?_, ?_⟩
  · intro x hx y hy
    rw [pyL_map] at hx hy
    obtain ⟨a, ha, rfl⟩ := List.mem_map.mp hx
    obtain ⟨b, hb, rfl⟩ := List.mem_map.mp hy
    exact alk_py a b (h1 a ha b hb)
  · rcases h2 with h2 | h2
    · left
      intro x hx
      rw [pyL_map] at hx
      obtain ⟨a, ha, rfl⟩ := List.mem_map.mp hx
      have := h2 a ha
      cases a with
      | tup xs =>
        cases xs with
        | nil => simp [tupNE] at this
        | cons y ys => exact ⟨py y, pyL ys, by simp [py, pyL]⟩
      | _ => simp [tupNE] at this
    · right
      intro x hx
      rw [pyL_map] at hx
      obtain ⟨a, ha, rfl⟩ := List.mem_map.mp hx
      have := h2 a ha
      cases a <;> simp_all [noTup, py]
  · intro x hx
    rw [pyL_map] at hx
    obtain ⟨a, ha, rfl⟩ := List.mem_map.mp hx
    have := (okN_lay 63 a (h0 a ha)).2
    omega
theorem cd_sortX {K : PySem.W.Frag} : CallD K (rSortX K) gSortX := fun E F H xs ds Q s r h => by
  unfold gSortX at h
  split at h
  · rename_i ds
    split at h
    · rename_i hc
      exact .inl (cd_sorted E F H xs _ Q s r (by show Post K F H E (if canSort ds = true then R.ok (D.lst (isort leD ds), true) else R.st) Q; rw [if_pos hc]; exact h))
    · split at h
      · rename_i d _
        split at h
        · rename_i hc
          unfold canOne at hc
          simp only [Bool.and_eq_true, Bool.not_eq_true'] at hc
          obtain ⟨x, rfl, rx⟩ := rpl1 r
          obtain ⟨a, vs, rfl, ha, rl⟩ := rp_alive rx
          cases rl with
          | cons r1 r2 =>
            cases r2
            refine .inr (.inr ⟨a, _, py d, rfl, .inl (.inl (s _ _ ha)), rp_dp 63 _ _ hc.1.1 (r1.mono s), fun e => ?_, alk_py d d hc.1.2, ?_, fun p hp => h.fresh s hp (.lst upd_same (.cons r1 .nil))⟩)
            · cases d <;> simp_all [py, isNon]
            · have := (okN_lay 63 d hc.1.1).2; omega
        · exact h.elim
      · exact h.elim
  · rename_i t kvs
    split at h
    · rename_i hc
      obtain ⟨c1, c2, c3⟩ := canSort_data hc
      have c0 := List.all_eq_true.mpr (canSort_alk hc).1
      obtain ⟨x, rfl, rx⟩ := rpl1 r
      cases rx with
      | dicK h1 r1 =>
        refine .inr (.inl ⟨_, _, rfl, c1, c2, c3, .inl ⟨_, rd_mono s h1, rpL_dp 63 _ _ c0 ((rpK_keys r1).mono s), fun p hp => ?_⟩⟩)
        exact h.fresh s hp (.lst upd_same (sort_rp (rpK_keys r1) hc))
      | dicT h1 r1 =>
        refine .inr (.inl ⟨_, _, rfl, c1, c2, c3, .inr ⟨_, rd_mono s h1, fun bs hb => ⟨rpL_dp 63 _ _ c0 ((rpT_keys r1 hb).mono (tupOnly_self s).sH), fun p hp => ?_⟩⟩⟩)
        exact (Post.step h (tupOnly_self s)).fresh (tupOnly_self s).sH hp (.lst upd_same (sort_rp (rpT_keys r1 hb) hc))
    · exact h.elim
  · exact h.elim

theorem sortX_lst {ds : List D} (h : canSort ds = true) : gSortX [.lst ds] = .ok (.lst (isort leD ds), true) := by
  unfold gSortX
  split
  · rename_i e; cases e; rw [if_pos h]
  · rename_i e; cases e
  · rename_i h1 h2; exact absurd rfl (h1 ds)
theorem sortX_one {d : D} (h : canOne d = true) : gSortX [.lst [d]] = .ok (.lst [d], true) := by
  by_cases c : canSort [d] = true
  · rw [sortX_lst c]; rfl
  · show (if canSort [d] = true then R.ok (D.lst (isort leD [d]), true) else if canOne d = true then R.ok (D.lst [d], true) else .st) = _
    rw [if_neg c, if_pos h]

/-! ### xs.index(x) -/
/-- where x stands first -/
def idxD (x : D) : List D → Nat → Option Nat
  | [], _ => none
  | y :: ys, k => if eqv y x then some k else idxD x ys (k + 1)
def fIndex (fl fx : EF) : EF := fun ρ => (fl ρ).bind fun l => match l.1 with
  | .lst xs => (fx ρ).bind fun x => if okN 64 x.1 && okN 64 (.lst xs) then (match idxD x.1 xs 0 with | some j => .ok (.int j, false) | none => .st) else .st
  | _ => .st
theorem idxD_at {x : D} : ∀ {xs : List D} {k j : Nat}, idxD x xs k = some j → ∃ i z, j = k + i ∧ xs[i]? = some z ∧ eqv z x = true ∧ ∀ m z', m < i → xs[m]? = some z' → eqv z' x = false
  | [], _, _, h => by simp [idxD] at h
  | y :: ys, k, j, h => by
    unfold idxD at h
    split at h
    · rename_i c
      cases h
      exact ⟨0, y, rfl, rfl, c, fun m _ hm => by omega⟩
    · rename_i c
      obtain ⟨i, z, e, h1, h2, h3⟩ := idxD_at h
      refine ⟨i + 1, z, by omega, by simpa using h1, h2, fun m z' hm e' => ?_⟩
      cases m with
      | zero => simp at e'; subst e'; simpa using c
      | succ m => exact h3 m z' (by omega) (by simpa using e')
section
variable {X : Cx} {E : XE} {o e : Expr} {apos cpos : Pos} {fl fx : EF}
theorem px_index (hu : X.A.units + 65 < cLine) (ho : PX X E o fl) (he : PX X E e fx) (hbase : attributeBase o "index" X.env (eval o X.env) = eval o X.env := by rfl)
    (hfew : ((backTo cpos (starEach [e] X.env)).all (fun x => !x.1) && (backToKw cpos (keywordEach [] X.env)).all (fun x => x.1.isSome)
      && decide (([e] : List Expr).length + ([] : List Keyword).length + (if ([] : List Keyword).isEmpty then 0 else 1) < 30)) = true := by rfl)
    (hline : (apos.endLine == cpos.line) = true := by rfl) (hs1 : starEach [e] X.env = (false, eval e X.env) :: starEach [] X.env := by rfl) (hplain : (backTo cpos (starEach [] X.env)).any (·.1) = false := by rfl) :
    PX X E (.Call (.Attribute o "index" apos) [e] [] cpos) (fIndex fl fx) := by
  refine ⟨fun pins s σ H Q I h => (pe_bm PySem.F.plainAttrs_list PySem.F.slot_list_index PySem.F.type_list_index (mt_indexD hu) ho (pa_cons he pa_nil hs1) hbase hfew hline hs1 hplain).run pins s σ H Q I ?_⟩
  obtain ⟨F0, H0, F, ρ, S, h⟩ := h
  refine tE_bind S h fun d f x F1 H1 x1 S1 r1 h1 => ?_
  cases d with
  | lst xs =>
    obtain ⟨a, vs, rfl, ha, ra⟩ := rp_alive r1
    refine ⟨.inl ⟨rfl, vs, .of (S1.sub _ _ ha)⟩, ?_⟩
    refine tE_bind S1 h1 fun e g y F2 H2 x2 S2 r2 h2 => ?_
    simp only at h2
    split at h2
    · rename_i o
      simp only [Bool.and_eq_true] at o
      split at h2
      · rename_i j ej
        obtain ⟨i, z, e1, h3, h4, h5⟩ := idxD_at ej
        have s2 := S2.sub
        have rl : Rp X.K F2 (.ref a) (.lst xs) := .lst (x2.sF _ _ ha) (ra.mono x2.sF)
        have oz : ∀ w ∈ xs, okN 63 w = true := fun w hw => List.all_eq_true.mp (show xs.all (okN 63) = true from o.2) w hw
        have oz' : ∀ w ∈ xs, okN 64 w = true := fun w hw => okN_up 63 w (oz w hw)
        refine ⟨a, y, py e, pyL xs, j, py z, rfl, rfl, ?_, rp_dp 64 _ _ o.1 (r2.mono s2), okN_shaped o.2, okN_shaped o.1, ?_, ?_, fun m z' hm hz => ?_, h2.here s2 (.int _)⟩
        · have := rp_dp 64 _ _ o.2 (rl.mono s2)
          simpa only [py] using this
        · rw [e1, Nat.zero_add, pyL_map, List.getElem?_map, h3]; rfl
        · rw [eqv_py 64 z e (oz' z (List.mem_of_getElem? h3)) o.1]; exact h4
        · rw [pyL_map, List.getElem?_map] at hz
          cases q : xs[m]? with
          | none => rw [q] at hz; cases hz
          | some w =>
            rw [q] at hz
            cases hz
            rw [eqv_py 64 w e (oz' w (List.mem_of_getElem? q)) o.1]
            exact h5 m w (by omega) q
      · exact h2.elim
    · exact h2.elim
  | _ => exact h1.elim
end

/-! ### statements -/
/-- a raise that is never reached -/
theorem pz_raise0 {X : Cx} {E : XE} {a b : Option Expr} {pos : Pos} : PZ X E (.Raise a b pos) (fun _ => .st) := fun F0 H0 => ⟨fun pins s σ H D I ⟨F, ρ, S, h⟩ => h.elim⟩
/-- a, b = e1, e2, where a owns what e1 gives -/
def sParO (i j : Nat) (fa fb : EF) : SF := fun ρ => match fa ρ with
  | .ok (d, true) => (match fb ρ with
    | .ok y => .nx ((ρ.set i (some (d, true))).set j (some (y.1, false)))
    | .ex c => .ex c
    | .st => .st)
  | .ok (_, false) => .st
  | .ex c => .ex c
  | .st => .st
theorem pz_parO {X : Cx} {E : XE} {pos : Pos} (i j : Nat) {x y : Str} {a b : Expr} {fa fb : EF} {px py pt : Pos} {kt k2 pt2} (hc : X.calm = true) (hN : X.N.Nodup) (ha : PX X E a fa) (hb : PX X E b fb) (hi : X.N[i]? = some x := by rfl) (hj : X.N[j]? = some y := by rfl) (hij : i ≠ j := by decide)
    (hx : X.env.scope.names.lookup x = some .local := by rfl) (hy : X.env.scope.names.lookup y = some .local := by rfl)
    (hw : swappedStores [.Tuple [.Name x px, .Name y py] kt pt] (.Tuple [a, b] k2 pt2) X.env = pure (some [x, y]) := by rfl)
    (hs : swapsWithSole [.Tuple [.Name x px, .Name y py] kt pt] (.Tuple [a, b] k2 pt2) pos.line X.env = pure false := by rfl)
    (hs1 : starEach [a, b] X.env = (false, eval a X.env) :: starEach [b] X.env := by rfl) (hs2 : starEach [b] X.env = (false, eval b X.env) :: starEach [] X.env := by rfl) :
    PZ X E (.Assign [.Tuple [.Name x px, .Name y py] kt pt] (.Tuple [a, b] k2 pt2) pos) (sParO i j fa fb) := fun F0 H0 => by
  refine ⟨fun pins s' σ H D I h => (ps_par hc hN hi hj hij hx hy (pa_cons ha (pa_cons hb pa_nil hs2) hs1) hw hs).run pins s' σ H D I ?_⟩
  obtain ⟨F, ρ, S, h⟩ := h
  refine ⟨F0, H0, F, ρ, S, ?_⟩
  unfold sParO at h
  cases e : fa ρ with
  | ok p =>
    rw [e] at h
    obtain ⟨d, g⟩ := p
    cases g with
    | false => exact h.elim
    | true =>
      intro v F1 H1 x1 hh
      have S1 := S.setO (Hx := H) (i := i) x1 hh
      refine tE_bindS (S.step x1) h fun e c y F2 H2 x2 S2 r2 h2 => ?_
      exact ⟨v, y, rfl, h2 _ F2 H2 ((S1.step x2).set r2)⟩
  | ex c => rw [e] at h; exact fun H' s => h H' (S.fr.kp.trans s)
  | st => rw [e] at h; exact h.elim
/-- a, b = e1, e2, where b owns what e2 gives -/
def sParP (i j : Nat) (fa fb : EF) : SF := fun ρ => match fa ρ with
  | .ok x => (match fb ρ with
    | .ok (d, true) => .nx ((ρ.set i (some (x.1, false))).set j (some (d, true)))
    | .ok (_, false) => .st
    | .ex c => .ex c
    | .st => .st)
  | .ex c => .ex c
  | .st => .st
theorem pz_parP {X : Cx} {E : XE} {pos : Pos} (i j : Nat) {x y : Str} {a b : Expr} {fa fb : EF} {px py pt : Pos} {kt k2 pt2} (hc : X.calm = true) (hN : X.N.Nodup) (ha : PX X E a fa) (hb : PX X E b fb) (hi : X.N[i]? = some x := by rfl) (hj : X.N[j]? = some y := by rfl) (hij : i ≠ j := by decide)
    (hx : X.env.scope.names.lookup x = some .local := by rfl) (hy : X.env.scope.names.lookup y = some .local := by rfl)
    (hw : swappedStores [.Tuple [.Name x px, .Name y py] kt pt] (.Tuple [a, b] k2 pt2) X.env = pure (some [x, y]) := by rfl)
    (hs : swapsWithSole [.Tuple [.Name x px, .Name y py] kt pt] (.Tuple [a, b] k2 pt2) pos.line X.env = pure false := by rfl)
    (hs1 : starEach [a, b] X.env = (false, eval a X.env) :: starEach [b] X.env := by rfl) (hs2 : starEach [b] X.env = (false, eval b X.env) :: starEach [] X.env := by rfl) :
    PZ X E (.Assign [.Tuple [.Name x px, .Name y py] kt pt] (.Tuple [a, b] k2 pt2) pos) (sParP i j fa fb) := fun F0 H0 => by
  refine ⟨fun pins s' σ H D I h => (ps_par hc hN hi hj hij hx hy (pa_cons ha (pa_cons hb pa_nil hs2) hs1) hw hs).run pins s' σ H D I ?_⟩
  obtain ⟨F, ρ, S, h⟩ := h
  refine tE_bindS S h fun d b x F1 H1 x1 S1 r1 h1 => ?_
  refine ⟨F0, H0, F1, ρ, S1, ?_⟩
  simp only at h1
  cases e : fb ρ with
  | ok p =>
    rw [e] at h1
    obtain ⟨d2, g⟩ := p
    cases g with
    | false => exact h1.elim
    | true => exact fun v F2 H2 x2 hh => ⟨x, v, rfl, h1 _ F2 H2 ((S1.set r1).setO (Hx := H1) x2 hh)⟩
  | ex c => rw [e] at h1; exact fun H' s => h1 H' (S1.fr.kp.trans s)
  | st => rw [e] at h1; exact h1.elim
end Pd

/-! Pd15: max, min of a tuple; from now on shared. -/
namespace Pd
open PySem PySem.Spec PyProof.Rows L2 PySem.W
section
variable {prog : Program} {w : World} {A : Around} {E : Value → Shared → Prop} {s : Shared} {l : Addr}
theorem tup_kept {h' : Heap} (hk : ∀ b o, b ∉ [s.heap.objs.size] → (s.heap.push { cls := .type "tuple_iterator", data := .fields #[.ref l, .int 0 0] }).get? b = some o → h'.get? b = some o) :
    ∀ b o, s.heap.get? b = some o → h'.get? b = some o := fun b o e => by
  refine hk b o (fun hm => ?_) (Heap.get?_push_of_some _ e)
  rcases List.mem_cons.mp hm with e1 | hm
  · exact absurd (e1 ▸ Heap.lt_size e) (Nat.lt_irrefl _)
  · cases hm
theorem tup_fp {c : Addr} (hlt : l < s.heap.objs.size) (hc : c ∈ [s.heap.objs.size, l]) : c < (s.heap.push { cls := .type "tuple_iterator", data := .fields #[.ref l, .int 0 0] }).objs.size := by
  rw [Heap.size_push]
  rcases List.mem_cons.mp hc with rfl | hc
  · exact Nat.lt_succ_self _
  · rcases List.mem_cons.mp hc with rfl | hc
    · exact Nat.lt_succ_of_lt hlt
    · cases hc
theorem max_tup_raw {its : List Value} {ns : List Int} {Q : Value → Shared → Prop} (hh : A.handled = none) (hl : IsTup s.heap l its.toArray) (hi : IntsAre its ns) (hne : 0 < ns.length)
    (h : ∀ h' tk M t', (∀ b o, s.heap.get? b = some o → h'.get? b = some o) → M ∈ ns → (∀ a, a ∈ ns → a ≤ M) → Q (.int M t') { s with heap := h', toks := tk }) : wpAny (model prog w) A (call (.builtin "max") [.ref l]) Q E s := by
  obtain ⟨xs, e⟩ := hi.allInts.items
  have hn : numsOf (intItems xs).toList = ns := by rw [← e]; exact hi.numsOf
  rw [nums_intItems] at hn
  subst hn
  rw [e] at hl
  have hsz : 0 < xs.size := by simpa using hne
  have hlt : l < s.heap.objs.size := by obtain ⟨_, e, _⟩ := hl; exact Heap.lt_size e
  have hT : s.heap.IsTuple l (intItems xs) := hl
  refine call_max_walk (wpAny_pyIter_tuple hT ?_)
  refine ⟨_, _, _, _, _, _, _, rfl, Walks.tuple (A := A.in1) hh _ l (Nat.ne_of_lt hlt) (intItems xs), ⟨⟨_, Heap.get?_push_size _ rfl, rfl, rfl⟩, hT.push _⟩, fun c hc => tup_fp hlt hc, by simpa [intItems] using hsz, CmpOf.ints_gt (numAt xs) (fun _ _ => intItems_at), fun v h' tk hP hk => ?_⟩
  obtain ⟨t, rfl⟩ := intItems_at hP
  obtain ⟨h1, h2⟩ := argBest_gt (numAt xs) (xs.size - 1)
  have hs2 : (intItems xs).size = xs.size := by simp [intItems]
  rw [hs2]
  refine h h' tk _ t (tup_kept hk) ?_ fun a ha => ?_
  · rw [numAt_eq]; exact PySem.getD_mem (by rw [List.length_map, Array.length_toList]; omega)
  · obtain ⟨j, hj, rfl⟩ := mem_getD ha
    rw [List.length_map, Array.length_toList] at hj
    rw [← numAt_eq]; exact h2 j (by omega)
theorem min_tup_raw {its : List Value} {ns : List Int} {Q : Value → Shared → Prop} (hh : A.handled = none) (hl : IsTup s.heap l its.toArray) (hi : IntsAre its ns) (hne : 0 < ns.length)
    (h : ∀ h' tk M t', (∀ b o, s.heap.get? b = some o → h'.get? b = some o) → M ∈ ns → (∀ a, a ∈ ns → M ≤ a) → Q (.int M t') { s with heap := h', toks := tk }) : wpAny (model prog w) A (call (.builtin "min") [.ref l]) Q E s := by
  obtain ⟨xs, e⟩ := hi.allInts.items
  have hn : numsOf (intItems xs).toList = ns := by rw [← e]; exact hi.numsOf
  rw [nums_intItems] at hn
  subst hn
  rw [e] at hl
  have hsz : 0 < xs.size := by simpa using hne
  have hlt : l < s.heap.objs.size := by obtain ⟨_, e, _⟩ := hl; exact Heap.lt_size e
  have hT : s.heap.IsTuple l (intItems xs) := hl
  refine call_min_walk (wpAny_pyIter_tuple hT ?_)
  refine ⟨_, _, _, _, _, _, _, rfl, Walks.tuple (A := A.in1) hh _ l (Nat.ne_of_lt hlt) (intItems xs), ⟨⟨_, Heap.get?_push_size _ rfl, rfl, rfl⟩, hT.push _⟩, fun c hc => tup_fp hlt hc, by simpa [intItems] using hsz, CmpOf.ints_lt (numAt xs) (fun _ _ => intItems_at), fun v h' tk hP hk => ?_⟩
  obtain ⟨t, rfl⟩ := intItems_at hP
  obtain ⟨h1, h2⟩ := argBest_lt (numAt xs) (xs.size - 1)
  have hs2 : (intItems xs).size = xs.size := by simp [intItems]
  rw [hs2]
  refine h h' tk _ t (tup_kept hk) ?_ fun a ha => ?_
  · rw [numAt_eq]; exact PySem.getD_mem (by rw [List.length_map, Array.length_toList]; omega)
  · obtain ⟨j, hj, rfl⟩ := mem_getD ha
    rw [List.length_map, Array.length_toList] at hj
    rw [← numAt_eq]; exact h2 j (by omega)
end
def rMaxT (K : PySem.W.Frag) : List V → Hp → VK → Prop := fun vs H Q => ∃ (a : Addr) (ns : List Int), vs = [V.ref a] ∧ SqT K H a (ns.map V.int) ∧ 0 < ns.length ∧ ∀ m, m ∈ ns → (∀ y, y ∈ ns → y ≤ m) → Q (.int m) H
def rMinT (K : PySem.W.Frag) : List V → Hp → VK → Prop := fun vs H Q => ∃ (a : Addr) (ns : List Int), vs = [V.ref a] ∧ SqT K H a (ns.map V.int) ∧ 0 < ns.length ∧ ∀ m, m ∈ ns → (∀ y, y ∈ ns → m ≤ y) → Q (.int m) H
theorem cr_maxT {X : Cx} (hc : X.calm = true) : CallR X (.builtin "max") (rMaxT X.K) := by
  intro pins s σ H vs us Q I r h
  obtain ⟨a, ns, rfl, hs, hne, q⟩ := h
  obtain ⟨its, rv, hl, _⟩ := I.tuple hs
  rw [Vals.ref1 r]
  exact max_tup_raw (I.ok.hd hc) hl rv.ints hne fun h' tk m t' hk h1 h2 => ⟨.int _, H, I.kept hk, ⟨_, rfl⟩, q m h1 h2⟩
theorem cr_minT {X : Cx} (hc : X.calm = true) : CallR X (.builtin "min") (rMinT X.K) := by
  intro pins s σ H vs us Q I r h
  obtain ⟨a, ns, rfl, hs, hne, q⟩ := h
  obtain ⟨its, rv, hl, _⟩ := I.tuple hs
  rw [Vals.ref1 r]
  exact min_tup_raw (I.ok.hd hc) hl rv.ints hne fun h' tk m t' hk h1 h2 => ⟨.int _, H, I.kept hk, ⟨_, rfl⟩, q m h1 h2⟩
def gMaxX : List D → R (D × Bool)
  | [.tup xs] => (match intsD xs with | some (m :: r) => .ok (.int (maxL m r), false) | _ => .st)
  | ds => gMax ds
def gMinX : List D → R (D × Bool)
  | [.tup xs] => (match intsD xs with | some (m :: r) => .ok (.int (minL m r), false) | _ => .st)
  | ds => gMin ds
def rMaxX (K : PySem.W.Frag) : List V → Hp → VK → Prop := fun xs H Q => rMaxD K xs H Q ∨ rMaxT K xs H Q
def rMinX (K : PySem.W.Frag) : List V → Hp → VK → Prop := fun xs H Q => rMinD K xs H Q ∨ rMinT K xs H Q
theorem cr_maxX {X : Cx} (hc : X.calm = true) : CallR X (.builtin "max") (rMaxX X.K) := (Pd.cr_maxD hc).or (cr_maxT hc)
theorem cr_minX {X : Cx} (hc : X.calm = true) : CallR X (.builtin "min") (rMinX X.K) := (Pd.cr_minD hc).or (cr_minT hc)
theorem cd_maxX {K : PySem.W.Frag} : CallD K (rMaxX K) gMaxX := fun E F H xs ds Q s r h => by
  unfold gMaxX at h
  split at h
  · obtain ⟨x, rfl, rx⟩ := rpl1 r
    split at h
    · rename_i m l e
      cases rx with
      | tup h1 r1 =>
        rw [intsD_eq e] at r1
        have e2 := rpl_ints r1
        subst e2
        refine .inr ⟨_, _, rfl, .of (s _ _ h1), by simp, fun k hk hb => ?_⟩
        obtain ⟨q1, q2⟩ := maxL_mem m l
        have : k = maxL m l := Int.le_antisymm (q2 k hk) (hb _ q1)
        rw [this]
        exact h.here s (.int _)
    · exact h.elim
  · exact .inl (cd_max E F H xs ds Q s r h)
theorem cd_minX {K : PySem.W.Frag} : CallD K (rMinX K) gMinX := fun E F H xs ds Q s r h => by
  unfold gMinX at h
  split at h
  · obtain ⟨x, rfl, rx⟩ := rpl1 r
    split at h
    · rename_i m l e
      cases rx with
      | tup h1 r1 =>
        rw [intsD_eq e] at r1
        have e2 := rpl_ints r1
        subst e2
        refine .inr ⟨_, _, rfl, .of (s _ _ h1), by simp, fun k hk hb => ?_⟩
        obtain ⟨q1, q2⟩ := minL_mem m l
        have : k = minL m l := Int.le_antisymm (hb _ q1) (q2 k hk)
        rw [this]
        exact h.here s (.int _)
    · exact h.elim
  · exact .inl (cd_min E F H xs ds Q s r h)

/-! ### a list that is owned is shared from now on -/
def sShare (i : Nat) : SF := fun ρ => match ρ[i]? with
  | some (some (d, _)) => .nx (ρ.set i (some (d, false)))
  | _ => .nx ρ
theorem StOk.share {K : PySem.W.Frag} {F0 H0 F H : Hp} {σ : L2.St} {ρ : Env} {i : Nat} {d : D} (S : StOk K F0 H0 F H σ ρ) (h : ρ[i]? = some (some (d, true))) : ∃ F', StOk K F0 H0 F' H σ (ρ.set i (some (d, false))) := by
  obtain ⟨v, ev, a, rfl, hF, hH0, o⟩ := S.sl i d true h
  obtain ⟨u, hu, hnt⟩ := o.here
  obtain ⟨r, s1, s2⟩ := o.freeze hF S.sub u hu
  have nwF : ∀ b w, upd F a u b = some w → F b = some w ∨ b = a := fun b w e => by
    by_cases hb : b = a
    · exact .inr hb
    · rw [upd_ne hb] at e; exact .inl e
  refine ⟨upd F a u, ⟨⟨S.fr.sF.trans s1, s2, S.fr.kp, fun b w e => ?_⟩, by simpa using S.len, fun j e f hj => ?_, fun j k e e' b hjk h1 h2 h3 => ?_⟩⟩
  · rcases nwF b w e with e | rfl
    · exact S.fr.nw b w e
    · exact .inr (.inl hH0)
  · by_cases hij : i = j
    · subst hij
      have hl : i < ρ.length := by
        rcases Nat.lt_or_ge i ρ.length with c | c
        · exact c
        · rw [List.getElem?_eq_none c] at h; cases h
      rw [List.getElem?_set_self hl] at hj
      cases hj
      exact ⟨_, ev, r⟩
    · rw [List.getElem?_set_ne hij] at hj
      obtain ⟨w, ew, hw⟩ := S.sl j e f hj
      refine ⟨w, ew, ?_⟩
      cases f with
      | false => exact Rp.mono s1 hw
      | true =>
        obtain ⟨b, rfl, hb1, hb2, ob⟩ := hw
        have hne : b ≠ a := fun e2 => S.dj i j d e a hij h hj ev (e2 ▸ ew)
        exact ⟨b, rfl, by rw [upd_ne hne]; exact hb1, hb2, ob.mono s1 fun _ z => z⟩
  · by_cases hij : i = j
    · subst hij
      have hl : i < ρ.length := by
        rcases Nat.lt_or_ge i ρ.length with c | c
        · exact c
        · rw [List.getElem?_eq_none c] at h; cases h
      rw [List.getElem?_set_self hl] at h1
      cases h1
    · by_cases hik : i = k
      · subst hik
        have hl : i < ρ.length := by
          rcases Nat.lt_or_ge i ρ.length with c | c
          · exact c
          · rw [List.getElem?_eq_none c] at h; cases h
        rw [List.getElem?_set_self hl] at h2
        cases h2
      · rw [List.getElem?_set_ne hij] at h1
        rw [List.getElem?_set_ne hik] at h2
        exact S.dj j k e e' b hjk h1 h2 h3
theorem pz_share {X : Cx} {E : XE} {rest : List Stmt} {t : SF} (i : Nat) (h : PZs X E rest t) : PZs X E rest (sSeq (sShare i) t) := fun F0 H0 => by
  refine ⟨fun pins s' σ H D I hw => (h F0 H0).run pins s' σ H D I ?_⟩
  obtain ⟨F, ρ, S, hw⟩ := hw
  unfold sSeq sShare at hw
  cases e : ρ[i]? with
  | none => rw [e] at hw; exact ⟨F, ρ, S, hw⟩
  | some o =>
    cases o with
    | none => rw [e] at hw; exact ⟨F, ρ, S, hw⟩
    | some p =>
      obtain ⟨d, f⟩ := p
      rw [e] at hw
      cases f with
      | false =>
        have : ρ.set i (some (d, false)) = ρ := by
          apply List.ext_getElem?
          intro j
          by_cases hij : i = j
          · subst hij
            have hl : i < ρ.length := by
              rcases Nat.lt_or_ge i ρ.length with c | c
              · exact c
              · rw [List.getElem?_eq_none c] at e; cases e
            rw [List.getElem?_set_self hl, e]
          · rw [List.getElem?_set_ne hij]
        simp only [this] at hw
        exact ⟨F, ρ, S, hw⟩
      | true =>
        obtain ⟨F', S'⟩ := S.share e
        exact ⟨F', _, S', hw⟩
end Pd

/-! Pd16: a name is set to a comprehension over a dict. -/
namespace Pd
open PySem PySem.Spec PyProof.Rows L2
section
variable {X : Cx} {E : XE} {tg elt : Expr} {ifs : List Expr} {scope : Scope} {pos px py spos : Pos} {g : D → Env → Option Env} {t : TG} {tt : TT} {ft : Env → R Bool} {fe : EF} {x y : Str}
theorem pz_setLcD (j i : Nat) (own : List (Str × Nat)) (hc : X.calm = true) (hN : X.N.Nodup) (ok : blkC X.N X.env.scope scope own = true) (hg : InBlk X scope fun Y => PG Y tg t) (hd : TgD X.K t g) (ho : TgW g t (own.map (·.2)))
    (ht : InBlk X scope fun Y => PTs Y ifs tt) (htd : TtD X.K tt ft) (he : InBlk X scope fun Y => PX Y noE elt fe) (hNi : X.N[i]? = some x := by rfl)
    (hy : X.N[j]? = some y := by rfl) (hyl : X.env.scope.names.lookup y = some .local := by rfl)
    (hsw : swapsWith (.ListComp elt [⟨tg, .Name x px, ifs, 0⟩] scope pos) (some (.Name y py)) spos.line X.env = pure true := by exact sw_true rfl rfl rfl (by decide +kernel))
    (hv : Vis X.env.scope x := by first | exact Or.inl rfl | exact Or.inr (Or.inl rfl) | exact Or.inr (Or.inr rfl)) (hdb : (x == ("__debug__" : Str)) = false := by decide) (hcd : (x == ("__classdict__" : Str)) = false := by decide)
    (hs : ∀ y, foldedSetIterable (.Name x px) X.env y = pure y := by intro _; rfl) : PZ X E (.Assign [.Name y py] (.ListComp elt [⟨tg, .Name x px, ifs, 0⟩] scope pos) spos) (sSet j (fLcD i g ft fe (own.map (·.2)))) := fun F0 H0 => by
  have base := ps_setLc (i := j) (te := tE X.K noE fe) (pos := pos) hc hN hy hyl hsw (pi_keys (tg := tg) (pe_var (i := i) (pos := px) hNi hv hdb hcd)) (blkOk_by ok) hg ht he hs
  refine ⟨fun pins s σ H D I h => ?_⟩
  have h : tE X.K E (fLcD i g ft fe (own.map (·.2))) σ H (fun x H1 => L2.gName j x σ H1 D.nx) := set_data h
  obtain ⟨F0', H0', F, ρ, S, h⟩ := h
  unfold fLcD at h
  split at h
  · rename_i t0 kvs ei
    obtain ⟨v, ev, r⟩ := S.sl i _ false ei
    cases e2 : lcL g ft fe (wipeE ρ (own.map (·.2))) (kvs.map Prod.fst) with
    | ex c => rw [e2] at h; exact h.elim
    | st => rw [e2] at h; exact h.elim
    | ok out =>
      rw [e2] at h
      simp only at h
      by_cases hcp : out.length ≤ CAP
      case neg => rw [if_neg hcp] at h; exact h.elim
      rw [if_pos hcp] at h
      have h' : Post X.K F H noE (.ok (.lst out, true)) (fun x H1 => L2.gName j x σ H1 D.nx) := h
      cases r with
      | @dicK a vs _ hr rk =>
        rcases hr with hr | ⟨od, hr⟩
        · refine (ps_lock base).run pins s σ H D I ⟨a, .dK vs, S.sub _ _ hr, trivial, fun od => ?_⟩
          have S1 := S.lk (o := .frz od (.dK vs)) hr .lockK
          have hp := lock_postE (od := od) S hr .openK h'
          rw [lk_upd (S.sub _ _ hr)] at S1 hp
          exact ⟨_, ev, a, od, rfl, .inl ⟨vs, upd_same, lcd_loop hd ho htd S1 (walk_keys (lk_at hr) (rk.lk hr .lockK)) e2 hcp hp⟩⟩
        · exact base.run pins s σ H D I ⟨_, ev, a, od, rfl, .inl ⟨vs, S.sub _ _ hr, lcd_loop hd ho htd S (walk_keys hr rk) e2 hcp h'⟩⟩
      | @dicT a vs _ hr rk =>
        rcases hr with hr | ⟨od, hr⟩
        · refine (ps_lock base).run pins s σ H D I ⟨a, .dT vs, S.sub _ _ hr, trivial, fun od => ?_⟩
          have S1 := S.lk (o := .frz od (.dT vs)) hr .lockT
          have hp := lock_postE (od := od) S hr .openT h'
          rw [lk_upd (S.sub _ _ hr)] at S1 hp
          exact ⟨_, ev, a, od, rfl, .inr ⟨vs, upd_same, lcd_loop hd ho htd S1 (walk_keysT (lk_at hr) (rk.lk hr .lockT)) e2 hcp hp⟩⟩
        · exact base.run pins s σ H D I ⟨_, ev, a, od, rfl, .inr ⟨vs, S.sub _ _ hr, lcd_loop hd ho htd S (walk_keysT hr rk) e2 hcp h'⟩⟩
  · exact h.elim
end
end Pd

/-! Pd17: enumerate over a tuple (and a list). -/
namespace Pd
open PySem PySem.Spec PyProof.Rows L2
/-- enumerate(v): what the making of it does, for any v that begins to be walked -/
theorem made_enum {v : Value} {ob : Obj} {St : Heap → Prop} (B : Begins v ob St) :
    Meets (Builtin.«enumerate.__new__» ⟨[.type "enumerate", v], []⟩) fun _ R s =>
      St s.heap ∧ R (.ok (.ret (.ref (s.heap.push ob).objs.size))) { s with heap := (s.heap.push ob).push { cls := .type "enumerate", data := .fields #[.none, .bool false, .ref s.heap.objs.size, rawInt 0, .none, .none] } } :=
  .of_wp fun prog w A R s z => by
    obtain ⟨hp, g, d, tk, os⟩ := s
    obtain ⟨z1, z2⟩ := z
    have hs := sub_enumerate
    have go : ∀ {A' : Around} {E Q : Value → Shared → Prop}, Q (.ref hp.objs.size) ⟨hp.push ob, g, d, tk, os⟩ → wpAny (model prog w) A' (pyIter v) Q E ⟨hp, g, d, tk, os⟩ :=
      fun k => B.iter prog w _ _ ⟨hp, g, d, tk, os⟩ _ z1 k
    wp_walk using go
    refine wpAny_stack_any fun stk => wpAny_pure ?_
    split
    · rename_i c _ _ _ _ _
      cases (c == Value.type "enumerate") <;> (wp_walk using go; exact ⟨_, rfl, z2⟩)
    · wp_walk using go
      exact ⟨_, rfl, z2⟩
theorem call_enum {prog : Program} {w : World} {A : Around} {E Q : Value → Shared → Prop} {s : Shared} {v : Value} {ob : Obj} {St : Heap → Prop} (B : Begins v ob St) (z : St s.heap)
    (k : ∀ h2, IsEnum h2 (s.heap.objs.size + 1) s.heap.objs.size 0 .none → h2.get? s.heap.objs.size = some ob → h2.objs.size = s.heap.objs.size + 2 → (∀ b o, s.heap.get? b = some o → h2.get? b = some o) → Q (.ref (s.heap.objs.size + 1)) { s with heap := h2 }) :
    wpAny (model prog w) A (PySem.call (.type "enumerate") [v]) Q E s := by
  refine callType_new F.called_enumerate (by decide) (F.typeCall_enumerate_1 _) (F.newCall_enumerate_1 _) (fun o => F.args_object_init_2 o _) F.entry_enumerate_new (made_enum B) ⟨z, ?_⟩
  have sz : (s.heap.push ob).objs.size = s.heap.objs.size + 1 := Heap.size_push ..
  show _ ∧ _
  rw [sz]
  have ie : IsEnum ((s.heap.push ob).push { cls := .type "enumerate", data := .fields #[.none, .bool false, .ref s.heap.objs.size, rawInt 0, .none, .none] }) (s.heap.objs.size + 1) s.heap.objs.size 0 .none := by
    have q := Heap.get?_push_size (s.heap.push ob) (o := { cls := .type "enumerate", data := .fields #[.none, .bool false, .ref s.heap.objs.size, rawInt 0, .none, .none] }) rfl
    rwa [sz] at q
  exact ⟨⟨_, ie, rfl⟩, k _ ie (Heap.get?_push_of_some _ (Heap.get?_push_size _ B.free)) (by rw [Heap.size_push, sz]) fun b o x => Heap.get?_push_of_some _ (Heap.get?_push_of_some _ x)⟩
/-- the tuple at a, each item in a new pair with its place -/
def IteT (K : PySem.W.Frag) (a : Addr) : It :=
  ⟨fun i H => ∃ (xs : List V) (x : V), SqT K H a xs ∧ xs[i]? = some x, fun i H v H2 => ∃ T x, v = .ref T ∧ H T = none ∧ H2 = upd H T (.tup [.int (i : Nat), x]) ∧ ∀ xs, SqT K H a xs → xs[i]? = some x,
    fun i H => ∃ xs : List V, SqT K H a xs ∧ xs.length ≤ i⟩
theorem turn_enumT {P : Program} {w : World} {K : PySem.W.Frag} {elts : List Expr} {kk : Nat} {tpos : Pos} (a e it : Addr) :
    Turn P w K (.Tuple elts kk tpos) (IteT K a) [e, it] e (fun i h => (∃ old, IsEnum h e it ((i : Nat) : Int) old) ∧ h.IsTupleIter it a i ∧ e ≠ it) where
  mem := by simp
  obj := fun i h st b hb => by
    obtain ⟨⟨old, q1⟩, ⟨o, q2, _, q3⟩, _⟩ := st
    rcases (show b = e ∨ b = it by simpa using hb) with z | z
    · rw [z]; exact ⟨_, q1, fun v y => nomatch y⟩
    · rw [z]; exact ⟨o, q2, fun v y => by rw [q3] at y; cases y⟩
  keep := fun i h h2 st k => ⟨st.1.elim fun old q => ⟨old, k e (by simp) _ q⟩, st.2.1.at fun o q => k it (by simp) o q, st.2.2⟩
  item := by
    intro X eP ew eK hc i pins s σ H E I hf st hg
    subst eP ew eK
    obtain ⟨⟨old, q1⟩, q2, q3⟩ := st
    obtain ⟨xs, x, hq, hx⟩ := hg
    obtain ⟨its, rv, pt, _⟩ := I.tuple hq
    obtain ⟨u, hu, ru⟩ := rv.get hx
    have tp : s.heap.IsTuple a its.toArray := pt
    have nai : a ≠ it := fun z => by
      obtain ⟨o1, a1, a2, _⟩ := id q2
      obtain ⟨o2, b1, b2, _⟩ := id tp
      rw [z, a1] at b1
      cases b1
      rw [a2] at b2
      simp at b2
    have nea : e ≠ a := fun z => by
      obtain ⟨o2, b1, b2, _⟩ := id tp
      rw [← z, q1] at b1
      cases b1
      simp at b2
    have le : e < s.heap.objs.size := Heap.lt_size q1
    have li : it < s.heap.objs.size := by
      obtain ⟨_, a1, _⟩ := id q2
      exact Heap.lt_size a1
    have lt : i < its.toArray.size := by
      have := (List.getElem?_eq_some_iff.mp hu).1
      simpa using this
    refine wpAny_pyNext_enum_itemD (Draws.tuple (show X.A.in1.handled = none from I.ok.hd hc) it a nai its.toArray) q1 ⟨q2, tp⟩ lt q3 (by simp [q3, nea]) fun y h2 tk hy ho st2 hT hsz hk => ?_
    have ey : y = u := by
      have hu2 : its.toArray[i]? = some u := by simpa using hu
      rw [hu2] at hy
      exact (Option.some.inj hy).symm
    subst ey
    refine ⟨_, rfl, wpAny_letOwnedTupleGo_enum (s := { s with heap := h2, toks := tk + 1 }) ho fun h3 he3 sb => ?_⟩
    have hT3 : h3.get? s.heap.objs.size = some { cls := .type "tuple", data := .seq #[.int i tk, y] } := (sb.2 _ (Nat.ne_of_gt le)).trans hT
    have nw : ObjOk X.prog X.w (upd H s.heap.objs.size (.tup [.int (i : Nat), x])) h3 s.heap.objs.size (.tup [.int (i : Nat), x]) :=
      ⟨(by show 2 ≤ sizeLine; decide), [.int i tk, y], .cons ⟨_, rfl⟩ (.cons ru .nil), ⟨_, hT3, rfl, _, rfl⟩⟩
    have I2 : Inv X pins σ (upd H s.heap.objs.size (.tup [.int (i : Nat), x])) { s with heap := h3, toks := tk + 1 } :=
      I.turnedNew (ch := [e, it]) (fun b ob hb q => (sb.2 b fun z => hb (by simp [z])).trans (hk b ob (fun z => hb (by simp [z])) (fun z => hb (by simp [z])) q)) hf (Nat.le_refl _) nw
    refine ⟨.ref s.heap.objs.size, _, I2, rfl, ⟨_, x, rfl, I.hok.fresh (Nat.le_refl _), rfl, fun ys hy => by rw [I.tuple_inj hy hq]; exact hx⟩, ⟨⟨y, ?_⟩, st2.1.at fun o q => (sb.2 it q3.symm).trans q, q3⟩, fun b hb => ?_⟩
    · have e1 : ((i + 1 : Nat) : Int) = ((i : Nat) : Int) + 1 := by omega
      rw [e1]
      exact he3
    · have lb : b < s.heap.objs.size := by
        rcases (show b = e ∨ b = it by simpa using hb) with z | z
        · rw [z]; exact le
        · rw [z]; exact li
      rw [upd_ne (Nat.ne_of_lt lb)]
      exact (hf b hb).1
  done := by
    intro X eP ew eK hc i pins s σ H E I hf st hg
    subst eP ew eK
    obtain ⟨⟨old, q1⟩, q2, q3⟩ := st
    obtain ⟨xs, hq, hx⟩ := hg
    obtain ⟨its, rv, pt, _⟩ := I.tuple hq
    have tp : s.heap.IsTuple a its.toArray := pt
    have nai : a ≠ it := fun z => by
      obtain ⟨o1, a1, a2, _⟩ := id q2
      obtain ⟨o2, b1, b2, _⟩ := id tp
      rw [z, a1] at b1
      cases b1
      rw [a2] at b2
      simp at b2
    obtain ⟨f0, f1, f2, f3, f4, f5⟩ := hf it (by simp)
    have ln := rv.length
    have out : its.toArray[i]? = none := by simp; omega
    have Dn : Draws X.prog X.w X.A.in1 it [it, a] i (fun _ _ => False) fun j h => j = i ∧ h.IsTupleIter it a i ∧ h.IsTuple a its.toArray :=
      ⟨fun _ _ z => let ⟨o, ho, _⟩ := z.2.1; ⟨o, ho⟩, fun _ _ _ z k => ⟨z.1, z.2.1.at fun o q => k it (by simp) o q, z.2.2.at fun o q => k a (by simp) o q⟩, fun j _ _ _ lt z => absurd z.1 (Nat.ne_of_lt lt),
        fun _ _ _ z hE => wpAny_nextOf_tuple_end (show X.A.in1.handled = none from I.ok.hd hc) z.2.1 z.2.2 out hE⟩
    refine wpAny_pyNext_enum_endD Dn q1 ⟨rfl, q2, tp⟩ fun h2 eb => ⟨rfl, I.turned (t' := s.toks) (fun b o hb q => eb b o hb q) f0 f1 f3 f4 f5⟩
  self := fun A i s Q E st h => st.1.elim fun _ q => wpAny_pyIter_enum q h
/-- enumerate of a list or of a tuple -/
def iEnumA (K : PySem.W.Frag) (ta : TA) : TI := fun σ H R => ta σ H fun vs H1 => ∃ a xs, vs = [.ref a] ∧ ((SqL K H1 a xs ∧ R (Ite K a) H1) ∨ (SqT K H1 a xs ∧ R (IteT K a) H1))
theorem pi_enumA {X : Cx} {e : Expr} {ta : TA} {p pos tpos : Pos} {elts : List Expr} {kk : Nat} (hg : Gl X "enumerate") (hm : X.mg "enumerate" = none) (ha : PA X [e] ta) (he : starEach [e] X.env = [(false, eval e X.env)] := by rfl) :
    PI X (.Tuple elts kk tpos) (.Call (.Name "enumerate" p) [e] [] pos) (iEnumA X.K ta) := by
  refine ⟨fun pins s σ H R I h => Call_ (ld_blt I hg hm boot_enumerate (PyProof.Rows.callWith_type1 (thn (ha.run pos pins s σ H _ I h) fun us s1 ⟨vs, H1, I1, r1, a, xs, ev, q1⟩ => ?_) he rfl))⟩
  subst ev
  cases r1 with
  | cons r rr =>
    cases rr
    cases r
    have fp : ∀ b ∈ [s1.heap.objs.size + 1, s1.heap.objs.size], FpOk X pins H1 b := fun b hb => by
      have le : s1.heap.objs.size ≤ b := by
        rcases (show b = s1.heap.objs.size + 1 ∨ b = s1.heap.objs.size by simpa using hb) with z | z <;> omega
      exact I1.fpOk le (I1.hok.fresh le)
    rcases q1 with ⟨hq, q⟩ | ⟨hq, q⟩
    · obtain ⟨its, rv, pl, _⟩ := I1.list hq
      refine call_enum (begins_list a its.toArray) pl.isList fun h2 ie io _ hk => wpAny_pyIter_enum ie ?_
      exact ⟨s1.heap.objs.size + 1, [s1.heap.objs.size + 1, s1.heap.objs.size], _, _, H1, rfl, I1.kept (t' := s1.toks) hk, turn_enum a (s1.heap.objs.size + 1) s1.heap.objs.size, ⟨⟨.none, ie⟩, ⟨_, io, rfl, rfl⟩, Nat.succ_ne_self _⟩, fp, q⟩
    · obtain ⟨its, rv, pl, _⟩ := I1.tuple hq
      refine call_enum (begins_tuple a its.toArray) (show s1.heap.IsTuple a its.toArray from pl) fun h2 ie io _ hk => wpAny_pyIter_enum ie ?_
      exact ⟨s1.heap.objs.size + 1, [s1.heap.objs.size + 1, s1.heap.objs.size], _, _, H1, rfl, I1.kept (t' := s1.toks) hk, turn_enumT a (s1.heap.objs.size + 1) s1.heap.objs.size, ⟨⟨.none, ie⟩, ⟨_, io, rfl, rfl⟩, Nat.succ_ne_self _⟩, fp, q⟩
section
variable {K : PySem.W.Frag} {F1 : Hp}
theorem wd_enumT {a : Addr} {vs : List V} {ds : List D} (h : F1 a = some (.tup vs)) (r : RpL K F1 vs ds) : WalkD K (IteT K a) (enumD 0 ds) F1 where
  go := fun i F H s1 s2 hi => by
    have hl := r.length
    rw [enumD_len] at hi
    exact ⟨vs, vs[i]'(by omega), .of (s2 _ _ (s1 _ _ h)), by simp⟩
  yld := fun i F H x H' s1 s2 hi y => by
    obtain ⟨T, v, rfl, hT, rfl, y⟩ := y
    obtain ⟨d, e2, r2⟩ := r.getV (y vs (.of (s2 _ _ (s1 _ _ h))))
    have hF := none_of_sb s2 hT
    refine ⟨.tup [.int i, d], upd F T (.tup [.int (i : Nat), v]), ?_, fr_pair s2 hT, .tup upd_same (.cons (.int _) (.cons ((r2.mono s1).mono (sb_upd hF)) .nil))⟩
    rw [enumD_get, e2]
    simp
  stop := fun i F H s1 s2 hi => ⟨vs, .of (s2 _ _ (s1 _ _ h)), by rw [r.length]; rw [enumD_len] at hi; exact hi⟩
end
def gEnumA : List D → R (List D)
  | [.lst xs] => .ok (enumD 0 xs)
  | [.tup xs] => .ok (enumD 0 xs)
  | _ => .st
section
variable {X : Cx} {E : XE} {n : Nat} {e : Expr} {fa : Env → R (List D)} {p pos tpos : Pos} {elts : List Expr} {kk : Nat}
theorem pix_enumA (hm : X.mg "enumerate" = none) (ha : PLs X E [e] n fa) (hg : Gl X "enumerate" := by rfl) (hs : starEach [e] X.env = [(false, eval e X.env)] := by rfl) :
    PIx X E (.Tuple elts kk tpos) (.Call (.Name "enumerate" p) [e] [] pos) (fun ρ => (fa ρ).bind gEnumA) := pi_tE (pi_enumA hg hm ha.run hs) fun σ H Q ⟨F0, H0, F, ρ, S, h⟩ => by
  have h : PostI X.K F H E ((fa ρ).bind gEnumA) Q := h
  refine tA_bindI S h fun ds xs F1 H1 x1 S1 r1 h1 => ?_
  unfold gEnumA at h1
  split at h1
  · obtain ⟨x, rfl, rx⟩ := rpl1 r1
    cases rx with | lst g1 q1 => exact ⟨_, _, rfl, .inl ⟨.of (S1.sub _ _ g1), h1 _ F1 H1 (.refl S1.sub) (wd_enum g1 q1)⟩⟩
  · obtain ⟨x, rfl, rx⟩ := rpl1 r1
    cases rx with | tup g1 q1 => exact ⟨_, _, rfl, .inr ⟨.of (S1.sub _ _ g1), h1 _ F1 H1 (.refl S1.sub) (wd_enumT g1 q1)⟩⟩
  · exact h1.elim
end
end Pd

/-! Pd18: sorted(set(pairs of numbers)); defs with a star. -/
namespace Pd
open PySem PySem.Spec PyProof.Rows L2
/-- the order of pairs -/
def leQ (a b : Int × Int) : Bool := decide (a.1 < b.1 ∨ (a.1 = b.1 ∧ a.2 ≤ b.2))
theorem leQ_total : PySem.W.TotalLe leQ := ⟨fun a b c h1 h2 => by
  unfold leQ at *
  simp only [decide_eq_true_eq] at *
  omega, fun a b => by
  unfold leQ
  simp only [decide_eq_true_eq]
  omega⟩
def dedQ : List (Int × Int) → List (Int × Int)
  | [] => []
  | p :: ps => if p ∈ dedQ ps then dedQ ps else p :: dedQ ps
theorem dedQ_ok : ∀ ps : List (Int × Int), (dedQ ps).Nodup ∧ ∀ p, p ∈ dedQ ps ↔ p ∈ ps
  | [] => ⟨List.nodup_nil, fun _ => Iff.rfl⟩
  | q :: ps => by
    obtain ⟨h1, h2⟩ := dedQ_ok ps
    unfold dedQ
    by_cases c : q ∈ dedQ ps
    · rw [if_pos c]
      refine ⟨h1, fun p => ?_⟩
      rw [h2 p, List.mem_cons]
      exact ⟨.inr, fun z => z.elim (fun e => e ▸ (h2 q).mp c) id⟩
    · rw [if_neg c]
      refine ⟨List.nodup_cons.mpr ⟨c, h1⟩, fun p => ?_⟩
      rw [List.mem_cons, List.mem_cons, h2 p]
/-- sorted, each once -/
def sortQ (ps : List (Int × Int)) : List (Int × Int) := isort leQ (dedQ ps)
theorem insQ_perm (x : Int × Int) : ∀ l : List (Int × Int), (ins leQ x l).Perm (x :: l)
  | [] => .refl _
  | y :: ys => by
    unfold ins
    split
    · exact .refl _
    · exact ((insQ_perm x ys).cons y).trans (.swap x y ys)
theorem isortQ_perm : ∀ l : List (Int × Int), (isort leQ l).Perm l
  | [] => .refl _
  | x :: xs => (insQ_perm x _).trans ((isortQ_perm xs).cons x)
theorem sortQ_mem {ps : List (Int × Int)} {p : Int × Int} : p ∈ sortQ ps ↔ p ∈ ps := by
  unfold sortQ
  rw [(isortQ_perm _).mem_iff, (dedQ_ok ps).2]
theorem sortQ_nodup (ps : List (Int × Int)) : (sortQ ps).Nodup := (isortQ_perm _).nodup_iff.mpr (dedQ_ok ps).1
theorem leQ_anti {a b : Int × Int} (h1 : leQ a b = true) (h2 : leQ b a = true) : a = b := by
  unfold leQ at h1 h2
  simp only [decide_eq_true_eq] at h1 h2
  exact Prod.ext (by omega) (by omega)
/-- what is in order and the same each once is one -/
theorem sortedQ_one : ∀ {l m : List (Int × Int)}, l.Pairwise (fun a b => leQ a b = true) → m.Pairwise (fun a b => leQ a b = true) → l.Perm m → l = m
  | [], m, _, _, h => (List.Perm.nil_eq h)
  | a :: l, [], _, _, h => by have := h.length_eq; simp at this
  | a :: l, b :: m, h1, h2, h => by
    have p1 := List.pairwise_cons.mp h1
    have p2 := List.pairwise_cons.mp h2
    have e : a = b := by
      have ha : a ∈ b :: m := h.mem_iff.mp List.mem_cons_self
      have hb : b ∈ a :: l := h.mem_iff.mpr List.mem_cons_self
      rcases List.mem_cons.mp ha with e | ha
      · exact e
      · rcases List.mem_cons.mp hb with e | hb
        · exact e.symm
        · exact leQ_anti (p1.1 b hb) (p2.1 a ha)
    subst e
    rw [sortedQ_one p1.2 p2.2 (List.Perm.cons_inv h)]
abbrev encQ (p : Int × Int) : D := .tup [.int p.1, .int p.2]
def smallQ (p : Int × Int) : Prop := (0 ≤ p.1 ∧ p.1 < 64) ∧ (0 ≤ p.2 ∧ p.2 < 64)
instance (p : Int × Int) : Decidable (smallQ p) := inferInstanceAs (Decidable ((0 ≤ p.1 ∧ p.1 < 64) ∧ (0 ≤ p.2 ∧ p.2 < 64)))
def pairQ : D → Option (Int × Int)
  | .tup [.int a, .int b] => if smallQ (a, b) then some (a, b) else none
  | _ => none
theorem pairQ_eq {d : D} {p : Int × Int} (h : pairQ d = some p) : d = encQ p ∧ smallQ p := by
  unfold pairQ at h
  split at h
  · split at h
    · rename_i c; cases h; exact ⟨rfl, c⟩
    · cases h
  · cases h
def pairsQ : List D → Option (List (Int × Int))
  | [] => some []
  | d :: ds => match pairQ d with
    | some p => (match pairsQ ds with | some ps => some (p :: ps) | none => none)
    | none => none
theorem pairsQ_eq : ∀ {ds : List D} {ps : List (Int × Int)}, pairsQ ds = some ps → ds = ps.map encQ ∧ ∀ p ∈ ps, smallQ p
  | [], ps, h => by simp [pairsQ] at h; subst h; exact ⟨rfl, fun _ h => by (cases h)⟩
  | d :: ds, ps, h => by
    unfold pairsQ at h
    cases e1 : pairQ d with
    | none => rw [e1] at h; cases h
    | some p =>
      rw [e1] at h
      simp only at h
      cases e2 : pairsQ ds with
      | none => rw [e2] at h; cases h
      | some qs =>
        rw [e2] at h
        cases h
        obtain ⟨h1, h2⟩ := pairQ_eq e1
        obtain ⟨h3, h4⟩ := pairsQ_eq e2
        refine ⟨by rw [h1, h3]; rfl, fun q hq => ?_⟩
        rcases List.mem_cons.mp hq with rfl | hq
        · exact h2
        · exact h4 q hq
theorem pairsQ_map : ∀ {ps : List (Int × Int)}, (∀ p ∈ ps, smallQ p) → pairsQ (ps.map encQ) = some ps
  | [], _ => rfl
  | p :: ps, h => by
    have e1 : pairQ (encQ p) = some p := if_pos (h p List.mem_cons_self)
    rw [List.map_cons, pairsQ, e1]
    simp only [pairsQ_map fun q hq => h q (List.mem_cons_of_mem _ hq)]
def fSetSortedP (f : EF) : EF := fun ρ => (f ρ).bind fun x => match x.1 with
  | .lst ds => (match pairsQ ds with
    | some ps => if ps.length < 64 then .ok (.lst ((sortQ ps).map encQ), true) else .st
    | none => .st)
  | _ => .st
/-- the tuples' places and numbers -/
theorem tups_of {K : PySem.W.Frag} {F : Hp} : ∀ {ps : List (Int × Int)} {vs : List V}, RpL K F vs (ps.map encQ) → ∃ ks : List (Addr × List Int), vs = ks.map (fun k => V.ref k.1) ∧ (∀ k ∈ ks, F k.1 = some (.tup (k.2.map V.int))) ∧ ks.map (·.2) = ps.map fun p => [p.1, p.2]
  | [], _, h => by cases h; exact ⟨[], rfl, fun _ h => by (cases h), rfl⟩
  | p :: ps, _, h => by
    cases h with
    | cons h1 h2 =>
      obtain ⟨ks, e1, e2, e3⟩ := tups_of h2
      cases h1 with
      | tup g1 g2 =>
        rename_i a ws
        cases g2 with
        | cons i1 g2 =>
          cases g2 with
          | cons i2 g2 =>
            cases g2
            have j1 := int_of i1
            have j2 := int_of i2
            subst j1 j2
            refine ⟨(a, [p.1, p.2]) :: ks, by rw [e1]; rfl, fun k hk => ?_, by rw [List.map_cons, e3]; rfl⟩
            rcases List.mem_cons.mp hk with rfl | hk
            · exact g1
            · exact e2 k hk
section
variable {X : Cx} {E : XE} {e : Expr} {f : EF} {p p2 q pos : Pos}
theorem px_setSortedP (hc : X.calm = true) (hu : X.A.units + 64 < cLine) (he : PX X E e f) (hm : X.mg "sorted" = none) (hm2 : X.mg "set" = none) (hg : Gl X "sorted" := by rfl) (hg2 : Gl X "set" := by rfl)
    (hs1 : starEach [e] X.env = (false, eval e X.env) :: starEach [] X.env := by rfl) (hp1 : (backTo p2 (starEach [] X.env)).any (·.1) = false := by rfl)
    (hs2 : starEach [.Call (.Name "set" q) [e] [] p2] X.env = (false, eval (.Call (.Name "set" q) [e] [] p2) X.env) :: starEach [] X.env := by rfl) (hp2 : (backTo pos (starEach [] X.env)).any (·.1) = false := by rfl) :
    PX X E (.Call (.Name "sorted" p) [.Call (.Name "set" q) [e] [] p2] [] pos) (fSetSortedP f) := by
  have base := pe_callB (p := p) (pos := pos) (cr_sortedT hc) hg hm (by rfl) (pa_cons (pe_callTy (p := q) (pos := p2) (cr_setOfT hc hu) hg2 hm2 (by rfl) (pa_cons he pa_nil hs1) (by decide) (by decide) hs1 hp1) pa_nil hs2) (by decide) (by decide) hs2 hp2
  refine ⟨fun pins s σ H Q I h => base.run pins s σ H Q I ?_⟩
  obtain ⟨F0, H0, F, ρ, S, h⟩ := h
  refine tE_bind S h fun d g x F1 H1 x1 S1 r1 h1 => ?_
  cases d with
  | lst ds =>
    simp only at h1
    cases e1 : pairsQ ds with
    | none => rw [e1] at h1; exact h1.elim
    | some ps =>
      rw [e1] at h1
      simp only at h1
      by_cases c : ps.length < 64
      case neg => rw [if_neg c] at h1; exact h1.elim
      rw [if_pos c] at h1
      obtain ⟨ed, sm⟩ := pairsQ_eq e1
      subst ed
      obtain ⟨a, vs, rfl, ha, rl⟩ := rp_alive r1
      obtain ⟨ks, rfl, k1, k2⟩ := tups_of rl
      have lk : ks.length = ps.length := by have := congrArg List.length k2; simpa using this
      have two : ∀ k ∈ ks, ∃ p ∈ ps, k.2 = [p.1, p.2] := fun k hk => by
        have : k.2 ∈ ps.map fun p => [p.1, p.2] := by rw [← k2]; exact List.mem_map.mpr ⟨k, hk, rfl⟩
        obtain ⟨p, hp, ep⟩ := List.mem_map.mp this
        exact ⟨p, hp, ep.symm⟩
      refine ⟨a, ks, rfl, .of (S1.sub _ _ ha), fun k hk => .of (S1.sub _ _ (k1 k hk)), by omega, fun t L ht sub all => ?_⟩
      refine ⟨t, L, 2, 64, rfl, upd_same, fun k hk => ?_, by decide, fun k hk => ?_, fun L' b pm nd few pw hb => ?_⟩
      · refine .of ?_
        have hF := none_of_sb S1.sub ht
        rw [upd_ne (ne_of_none (k1 k (sub k hk)) hF)]
        exact S1.sub _ _ (k1 k (sub k hk))
      · obtain ⟨p, hp, ep⟩ := two k (sub k hk)
        rw [ep]
        have := sm p hp
        refine ⟨rfl, fun m hm => ?_⟩
        rcases List.mem_cons.mp hm with rfl | hm
        · exact this.1
        · rw [List.mem_singleton.mp hm]; exact this.2
      · -- the numbers, in order
        obtain ⟨qs, eq1⟩ : ∃ qs : List (Int × Int), L'.map (·.2) = qs.map fun p => [p.1, p.2] := by
          have : ∀ l : List (Addr × List Int), (∀ k ∈ l, k ∈ ks) → ∃ qs : List (Int × Int), l.map (·.2) = qs.map fun p => [p.1, p.2] := by
            intro l
            induction l with
            | nil => intro _; exact ⟨[], rfl⟩
            | cons k l ih =>
              intro hl
              obtain ⟨qs, e⟩ := ih fun z hz => hl z (List.mem_cons_of_mem _ hz)
              obtain ⟨p, _, ep⟩ := two k (hl k List.mem_cons_self)
              exact ⟨p :: qs, by rw [List.map_cons, List.map_cons, e, ep]⟩
          exact this L' fun k hk => sub k (pm.mem_iff.mp hk)
        have inj : ∀ {p q : Int × Int}, ([p.1, p.2] : List Int) = [q.1, q.2] → p = q := fun {p q} e => by
          simp only [List.cons.injEq, and_true] at e
          exact Prod.ext e.1 e.2
        have mq : ∀ p, p ∈ qs ↔ p ∈ ps := fun p => by
          constructor
          · intro hp
            have : ([p.1, p.2] : List Int) ∈ L'.map (·.2) := by rw [eq1]; exact List.mem_map.mpr ⟨p, hp, rfl⟩
            obtain ⟨k, hk, ek⟩ := List.mem_map.mp this
            obtain ⟨p', hp', ep'⟩ := two k (sub k (pm.mem_iff.mp hk))
            rw [ep'] at ek
            rw [← inj ek]; exact hp'
          · intro hp
            have : ([p.1, p.2] : List Int) ∈ ks.map (·.2) := by rw [k2]; exact List.mem_map.mpr ⟨p, hp, rfl⟩
            obtain ⟨k, hk, ek⟩ := List.mem_map.mp this
            have q2 := all k hk
            have : k.2 ∈ L'.map (·.2) := by
              obtain ⟨k', hk', ek'⟩ := List.mem_map.mp q2
              exact List.mem_map.mpr ⟨k', pm.mem_iff.mpr hk', ek'⟩
            rw [eq1] at this
            obtain ⟨p', hp', ep'⟩ := List.mem_map.mp this
            have ek : k.2 = [p.1, p.2] := ek
            have ep' : [p'.1, p'.2] = k.2 := ep'
            rw [ek] at ep'
            rw [← inj ep']; exact hp'
        have ndq : qs.Nodup := by
          rw [eq1] at nd
          exact List.Pairwise.of_map (fun p : Int × Int => ([p.1, p.2] : List Int)) (fun a b hab e => hab (by rw [e])) nd
        have pwq : qs.Pairwise (fun a b => leQ a b = true) := by
          have pw2 : (L'.map (·.2)).Pairwise (fun x y => TS.code 64 x ≤ TS.code 64 y) := List.pairwise_map.mpr pw
          rw [eq1] at pw2
          have pw3 := List.pairwise_map.mp pw2
          refine pw3.imp_of_mem fun {a b} ha hb h => ?_
          have sa := sm a ((mq a).mp ha)
          have sb := sm b ((mq b).mp hb)
          rw [code_pair, code_pair] at h
          unfold leQ
          rw [decide_eq_true_eq]
          have := sa.1; have := sa.2; have := sb.1; have := sb.2
          omega
        have es : qs = sortQ ps := sortedQ_one pwq (isort_pw leQ_total _) ((List.perm_ext_iff_of_nodup ndq (sortQ_nodup ps)).mpr fun p => by rw [mq, sortQ_mem])
        have hb1 : H1 b = none := by
          by_cases e : b = t
          · subst e; exact ht
          · rw [upd_ne e] at hb; exact hb
        have hF1 := none_of_sb S1.sub hb1
        have hFt := none_of_sb S1.sub ht
        have rl2 : RpL X.K F1 (L'.map fun k => V.ref k.1) ((sortQ ps).map encQ) := by
          rw [← es]
          have : ∀ (l : List (Addr × List Int)) (qs : List (Int × Int)), (∀ k ∈ l, k ∈ ks) → l.map (·.2) = qs.map (fun p => [p.1, p.2]) → RpL X.K F1 (l.map fun k => V.ref k.1) (qs.map encQ) := by
            intro l
            induction l with
            | nil =>
              intro qs _ e
              cases qs with
              | nil => exact .nil
              | cons q qs => cases e
            | cons k l ih =>
              intro qs hl e
              cases qs with
              | nil => cases e
              | cons q qs =>
                rw [List.map_cons, List.map_cons] at e
                obtain ⟨e1, e2⟩ := List.cons.inj e
                have hk := k1 k (hl k List.mem_cons_self)
                rw [e1] at hk
                exact .cons (.tup hk (.cons (.int _) (.cons (.int _) .nil))) (ih qs (fun z hz => hl z (List.mem_cons_of_mem _ hz)) e2)
          exact this L' qs (fun k hk => sub k (pm.mem_iff.mp hk)) eq1
        refine h1 (.ref b) F1 _ ⟨.refl _, fun y u q => ?_, fun y u q => ?_, fun _ _ q => .inl q⟩ ⟨b, rfl, hF1, hb1, .lst upd_same rl2⟩
        · rw [upd_ne (ne_of_none q hF1), upd_ne (ne_of_none q hFt)]; exact S1.sub _ _ q
        · rw [upd_ne (ne_of_none q hb1), upd_ne (ne_of_none q ht)]; exact q
  | _ => exact h1.elim
end
end Pd

/-! Pd19: a def with one starred parameter: it is called with the tuple of its arguments. -/
namespace Pd
open PySem PySem.Spec PyProof.Rows L2
/-- the state in which a body begins -/
theorem start_ok {K : PySem.W.Frag} {N : List Str} {G H : Hp} {vs : List V} {ds : List D} (sG : Sb G H) (r : RpL K G vs ds) : StOk K G H G H (L2.start N vs) (ds.map (fun d => some (d, false)) ++ List.replicate (N.length - ds.length) none) := by
  have lv := r.length
  refine ⟨.refl sG, by unfold L2.start; simp [lv], fun i d f e => ?_, fun i j d e a _ h1 _ _ => ?_⟩
  · have hi : i < ds.length := Nat.lt_of_not_le fun c => by
      rw [List.getElem?_append_right (by simpa using c), List.getElem?_replicate] at e
      split at e <;> cases e
    rw [List.getElem?_append_left (by simpa using hi), List.getElem?_map, List.getElem?_eq_getElem hi] at e
    simp only [Option.map_some, Option.some.injEq, Prod.mk.injEq] at e
    obtain ⟨e1, e2⟩ := e
    subst e1 e2
    obtain ⟨v, hv, rv⟩ := r.get (List.getElem?_eq_getElem hi)
    refine ⟨v, ?_, rv⟩
    unfold L2.start
    rw [List.getElem?_append_left (by rw [List.length_map, lv]; exact hi), List.getElem?_map, hv]
    rfl
  · rcases Nat.lt_or_ge i ds.length with c | c
    · rw [List.getElem?_append_left (by simpa using c), List.getElem?_map, List.getElem?_eq_getElem c] at h1
      cases h1
    · rw [List.getElem?_append_right (by simpa using c), List.getElem?_replicate] at h1
      split at h1 <;> cases h1
/-- what a starred def promises -/
def spV (K : PySem.W.Frag) (g : List D → R (D × Bool)) : Sp := fun vs H Q E => ∃ F ds, Sb F H ∧ RpL K F vs ds ∧ ds.length ≤ 1000 ∧ Post K F H (xe xa0 E) (g [.tup ds]) Q
structure ClV (P : Program) (w : World) (K : PySem.W.Frag) (mg : Str → Option Value) (base : Heap) (k : Nat) (x : Str) (g : List D → R (D × Bool)) : Prop where
  ex : ∃ f, FnR P w K mg base CX0 k f (spV K g) ∧ mg x = some (.ref f) ∧ PySem.W.keepIn K (.ref f) = true
def gV (g : List D → R (D × Bool)) : List D → R (D × Bool) := fun ds => if ds.length ≤ 1000 then g [.tup ds] else .st
section
variable {P : Program} {w : World} {K : PySem.W.Frag} {mg : Str → Option Value} {base : Heap}
theorem fn_dataV {x qual pv : Str} {st : Stmt} {f : Addr} {fd : FuncData} {N : List Str} {k m : Nat} {sf : SF} (F : Fun K x qual st f fd) (S : FnScope N [pv] (defScope st)) (hm : m = N.length)
    (hb : ∀ (kV doc pm : Value) (an : Option Addr) (cdv ct : Value) (rest : List Value), bindArgs (PySem.W.fnOf x qual (defArgs st) (defBody st) (defScope st) .none kV doc pm an cdv ct) ⟨rest, []⟩ = (newTuple rest >>= fun t => pure [(pv, t)]))
    (body : ∀ (cdv : Value) (A : Around) (outer : List PySem.Env) (s : Shared) (H : Hp) (E : XK), Room k (A.deeper (envOfC qual (defScope st) s.heap.objs.size f cdv)) →
      PZs (cxOf CX0 P w K mg base N qual (defScope st) f cdv A outer s H E).nox (fun _ _ => False) (defBody st) sf) : FnR P w K mg base CX0 (k + 1) f (spV K (fnD0 m sf)) := by
  subst hm
  obtain ⟨oc, od, kV, doc, pm, an, cdv, ct, osl, rfl, lk, hcd⟩ := F.ex
  refine (StX.fn_star (ps := []) (pv := pv) (sp := spD K xa0 1 (fnD0 N.length sf)) lk hcd S StX.cxUp_none (fun us rest hl => ?_) fun A outer s H vs Q E hr h => ?_).imp fun vs H Q E h => ?_
  · rw [List.length_eq_zero_iff.mp hl]
    exact hb kV doc pm an cdv ct rest
  · obtain ⟨G, ds, sG, r, l, h⟩ := h
    refine ⟨_, (body cdv A outer s H E hr G H).nox, G, _, start_ok sG r, ?_⟩
    unfold fnD0 at h
    cases e : sf (ds.map (fun d => some (d, false)) ++ List.replicate (N.length - ds.length) none) with
    | nx ρ => rw [e] at h; exact fun σ F2 H2 S2 => h .non F2 H2 S2.fr .non
    | rt d f => rw [e] at h; exact fun v F2 H2 y hh => h v F2 H2 y hh
    | ex c => rw [e] at h; exact h.elim
    | st => rw [e] at h; exact h.elim
  · obtain ⟨G, ds, sG, r, l, h⟩ := h
    refine ⟨[], vs, rfl, rfl, by rw [r.length]; exact Nat.le_of_lt (small1000 l), fun p hp => ?_⟩
    have hG : G p = none := none_of_sb sG hp
    have fr : Fr G H (upd G p (.tup vs)) (upd H p (.tup vs)) := fr_pair sG hp
    exact ⟨upd G p (.tup vs), [.tup ds], fr.sH, .cons (.tup upd_same (r.mono (sb_upd hG))) .nil, rfl, Post.step h fr⟩
end
section
variable {X : Cx} {pos p : Pos} {x : Str} {e : Expr} {es : List Expr} {k n : Nat} {g : List D → R (D × Bool)} {fa : Env → R (List D)}
theorem px_callV (C : ClV X.prog X.w X.K X.mg X.base k x g) (hr : Room k X.A) (hx : Passes CX0 X (fun _ _ _ => False)) (ha : PLs X noE (e :: es) n fa) (hg : Gl X x := by rfl) (hdb : (x == ("__debug__" : Str)) = false := by decide)
    (he : starEach (e :: es) X.env = (false, eval e X.env) :: starEach es X.env := by rfl) (hpl : (backTo pos (starEach es X.env)).any (·.1) = false := by rfl) : PX X noE (.Call (.Name x p) (e :: es) [] pos) (fCall (gV g) fa) := by
  obtain ⟨f, h1, h2, h3⟩ := C.ex
  refine ⟨fun pins s σ H Q I h => wpAny_Call_Name_kw (ld_glob I hg h2 (PySem.W.callWith_K (h₀ := X.base) I.ok.mod.kin h3 (thn (ha.run.run pos pins s σ H (fun vs H1 => spV X.K g vs H1 Q fun _ _ _ => False) I ?_) fun us s1 ⟨vs, H1, I1, r, q⟩ => ⟨I1.kIn, wpAny_call (run_fnR h1 hr hx I1 r q)⟩) he hpl) hdb)⟩
  obtain ⟨F0, H0, F, ρ, S, h⟩ := h
  refine tA_bind S h fun ds xs F1 H1 e1 x1 S1 r1 h1 => ?_
  unfold gV at h1
  split at h1
  · rename_i c
    exact ⟨F1, ds, S1.sub, r1, c, h1⟩
  · exact h1.elim
end
end Pd

/-! Pd20: a def that calls itself: it promises nothing at depth 0; an element of a list that a name owns. -/
namespace Pd
open PySem PySem.Spec PyProof.Rows L2
theorem fn_none {P : Program} {w : World} {K : PySem.W.Frag} {mg : Str → Option Value} {base : Heap} {f : Addr} {fd : FuncData} {ps : List Str} {k n : Nat} {xa : Xn → Addr} (hn : n = ps.length) : FnOk P w K mg base CX0 k f fd ps (spD K xa n (fun _ => .st)) := by
  subst hn
  refine ⟨fun vs H Q E h => ?_, fun A outer s H args us vs Q E hr e0 hb hv h => ?_⟩
  · obtain ⟨G, ds, s, r, l, h⟩ := h
    exact h.elim
  · obtain ⟨G, ds, s, r, l, h⟩ := h
    exact h.elim
/-- the element at a place of an owned list -/
def fIxO (i : Nat) (fk : EF) : EF := fun ρ => match ρ[i]? with
  | some (some (.lst ds, true)) => (fk ρ).bind fun y => match y.1 with
    | .int j => (match atI ds j with | some d => .ok (d, false) | none => .st)
    | _ => .st
  | _ => .st
section
variable {X : Cx} {E : XE} {pos p2 : Pos} {b : Expr} {fk : EF}
theorem px_ixO (i : Nat) {x : Str} (hu : X.A.units + 1 < cLine) (hb : PX X E b fk) (hs : PlainIx b := by exact fun _ _ => rfl) (hN : X.N[i]? = some x := by rfl) (hv : Vis X.env.scope x := by first | exact Or.inl rfl | exact Or.inr (Or.inl rfl) | exact Or.inr (Or.inr rfl)) (hd : (x == ("__debug__" : Str)) = false := by decide)
    (hcd : (x == ("__classdict__" : Str)) = false := by decide) : PX X E (.Subscript (.Name x p2) b pos) (fIxO i fk) := by
  refine ⟨fun pins s σ H Q I h => (pe_ix (ixr hu) (pe_var hN hv hd hcd) hb hs).run pins s σ H Q I ?_⟩
  obtain ⟨F0, H0, F, ρ, S, h⟩ := h
  unfold fIxO at h
  split at h
  · rename_i ds e
    obtain ⟨v, e1, q⟩ := S.sl i _ true e
    refine ⟨v, e1, ?_⟩
    refine tE_bind S h fun d f y F1 H1 x1 S1 r1 h1 => ?_
    obtain ⟨a, rfl, g1, g2, o⟩ := q.step x1
    cases d with
    | int j =>
      cases r1
      cases o with
      | lst h3 r3 =>
        simp only at h1
        split at h1
        · rename_i d e2
          obtain ⟨v, ev, rv⟩ := r3.atI e2
          exact .inl (.inl ⟨_, _, j, v, rfl, rfl, .of h3, ev, h1.here S1.sub rv⟩)
        · exact h1.elim
    | _ => exact h1.elim
  · exact h.elim
end
end Pd

/-! Pd21: t[::-1], a list or a tuple. -/
namespace HT
open PySem PySem.Spec PyProof.Rows L2
section
variable {prog : Program} {w : World} {A : Around} {E : Value → Shared → Prop} {s : Shared}
theorem adjust_back (n : Nat) : Builtin.Slice.sliceAdjust none none (-1) (n : Int) = ((n : Int) - 1, -1) := by
  unfold Builtin.Slice.sliceAdjust
  rfl
theorem places_back (n : Nat) : Builtin.Slice.slicePlaces ((n : Int) - 1) (-1) (-1) = n := by
  unfold Builtin.Slice.slicePlaces
  rw [if_neg (by decide)]
  have h2 : (-(-1 : Int)) = 1 := by omega
  rw [h2, Int.ediv_one]
  split <;> omega
theorem sliceApplied_back {sl : Addr} {vs : Value} {n : Nat} {Q : Int × Int × Nat → Shared → Prop} (hs : s.heap.IsSliceOf sl .none .none vs) (ps : IsPart vs (some (-1)))
    (h : Q ((n : Int) - 1, -1, n) s) : wpAny (model prog w) A (Builtin.Slice.sliceApplied (.ref sl) (pure (n : Int))) Q E s := by
  obtain ⟨os, hos, hcs, hds⟩ := id hs
  unfold Builtin.Slice.sliceApplied Builtin.Slice.sliceFields
  refine wpAny_bind (wpAny_bind (wpAny_field hos hds (x := .none) rfl (wpAny_bind (wpAny_field hos hds (x := .none) rfl (wpAny_bind (wpAny_field hos hds (x := vs) rfl (wpAny_pure ?_)))))))
  refine wpAny_bind (slicePart_ ps ?_)
  show wpAny _ _ (if ((-1 : Int) == 0) = true then _ else _) _ _ s
  rw [if_neg (by decide)]
  refine wpAny_bind (slicePart_ .none (wpAny_bind (slicePart_ .none (wpAny_bind (wpAny_pure ?_)))))
  show wpAny _ _ (match Builtin.Slice.sliceAdjust none none (-1) (n : Int) with | (lo, hi) => pure (lo, (-1 : Int), Builtin.Slice.slicePlaces lo hi (-1))) _ _ s
  rw [adjust_back n]
  show wpAny _ _ (pure ((n : Int) - 1, (-1 : Int), Builtin.Slice.slicePlaces ((n : Int) - 1) (-1) (-1))) _ _ s
  rw [places_back]
  exact wpAny_pure h
theorem fm_congr {α β : Type} {f g : α → Option β} : ∀ {l : List α}, (∀ m ∈ l, f m = g m) → l.filterMap f = l.filterMap g
  | [], _ => rfl
  | x :: l, h => by
    rw [List.filterMap_cons, List.filterMap_cons, h x List.mem_cons_self, fm_congr fun m hm => h m (List.mem_cons_of_mem _ hm)]
theorem pick_back (xs : Array Value) : ((List.range xs.size).filterMap fun (m : Nat) => xs[(((xs.size : Int) - 1) + (m : Int) * (-1)).toNat]?).toArray = xs.toList.reverse.toArray := by
  have h := PySem.W.krv_pick xs
  unfold slicePick at h
  rw [PySem.W.krv_bounds] at h
  have h : ((sliceRange ((xs.size : Int) - 1) (-1) (-1)).filterMap (xs[·]?)).toArray = _ := h
  rw [PySem.W.krv_sliceRange, List.filterMap_map] at h
  rw [← h]
  congr 1
  refine fm_congr fun m hm => ?_
  have := List.mem_range.mp hm
  have e : (((xs.size : Int) - 1) + (m : Int) * (-1)).toNat = xs.size - 1 - m := by omega
  rw [e]
  rfl
theorem getItem_tuple_back {t sl : Addr} {items : Array Value} {vs : Value} {Q : Value → Shared → Prop} (ht : IsTup s.heap t items) (hs : s.heap.IsSliceOf sl .none .none vs) (ps : IsPart vs (some (-1)))
    (h : Q (.ref s.heap.objs.size) { s with heap := s.heap.push { cls := .type "tuple", data := .seq items.toList.reverse.toArray } })
    (hsz : items.size ≤ sizeLine) : wpAny (model prog w) A (getItem (.ref t) (.ref sl)) Q E s := by
  have htake : sizeOk (.seq items.toList.reverse.toArray) := by
    show (items.toList.reverse.toArray).size ≤ sizeLine
    rw [List.size_toArray, List.length_reverse, Array.length_toList]
    exact hsz
  obtain ⟨os, hos, hcs, hds⟩ := id hs
  have hTs : s.TypeIs (.ref sl) "slice" := ⟨os, hos, hcs⟩
  unfold getItem
  try with_reducible refine wpAny_holding ?_
  first | refine wpAny_bind (wpAny_pure ?_) | skip
  refine wpAny_bind (wpAny_sequenceKey ht.typeIs (by decide) ?_)
  refine wpAny_bind (wpAny_callSpecial?_slot (name := Str.ofString "__getitem__") ht.typeIs PyProof.Rows.slot_tuple_getitem
    (wpAny_call_entry PyProof.Rows.slot_tuple_getitem ht.typeIs entry_tuple_getitem ?_ (args_tuple_getitem _ _)))
  show wpAny _ _ (Builtin.Tuple.tupleItemsOf (.ref t) >>= _) _ _ s
  refine wpAny_bind (tupleItemsOf_ ht ?_)
  refine wpAny_bind (wpAny_typeOf hTs ?_)
  rw [if_pos (by decide)]
  refine wpAny_bind (sliceApplied_back hs ps ?_)
  have hno : ¬ ((((items.size : Int) - 1) == 0 && (-1 : Int) == 1 && items.size == items.size) = true) := by
    intro q
    rw [Bool.and_eq_true, Bool.and_eq_true] at q
    exact absurd q.1.2 (by decide)
  show wpAny _ _ (if (((items.size : Int) - 1) == 0 && (-1 : Int) == 1 && items.size == items.size) = true then _ else _) _ _ s
  rw [if_neg hno, pick_back]
  first
    | exact wpAny_bind (m := Builtin.Tuple.tupleExact _) (wpAny_newObj_type (wpAny_pure ⟨_, rfl, wpAny_pure h⟩) htake)
    | exact wpAny_bind (m := Builtin.Tuple.tupleExact _) (wpAny_newObj_type (wpAny_bind (wpAny_pure (wpAny_pure ⟨_, rfl, wpAny_pure h⟩))) htake)
    | exact wpAny_bind (wpAny_bind (m := Builtin.Tuple.tupleExact _) (wpAny_newObj_type (wpAny_pure (wpAny_pure ⟨_, rfl, wpAny_pure h⟩)) htake))
    | exact wpAny_bind (wpAny_bind (m := Builtin.Tuple.tupleExact _) (wpAny_newObj_type (wpAny_pure ⟨_, rfl, wpAny_pure h⟩) htake))
end
end HT
namespace L2
open PySem PySem.Spec PyProof.Rows
section
variable {X : Cx}
def tRevA (K : PySem.W.Frag) (te : TE) : TE := fun σ H Q => te σ H fun x H1 => ∃ a xs, x = .ref a ∧ ((SqL K H1 a xs ∧ ∀ p, H1 p = none → Q (.ref p) (upd H1 p (.lst xs.reverse))) ∨ (SqT K H1 a xs ∧ ∀ p, H1 p = none → Q (.ref p) (upd H1 p (.tup xs.reverse))))
theorem pe_revA {e : Expr} {te : TE} {k : Nat} {p1 p2 p3 pos : Pos} (he : PE X e te) : PE X (.Subscript e (.Slice none none (some (.UnaryOp .USub (.Constant (.int 1) k p1) p2)) p3) pos) (tRevA X.K te) := by
  refine ⟨fun pins s σ H Q I h => ?_⟩
  refine Subscript_ (thn (he.run pins s σ H _ I h) fun v s1 ⟨x, H1, I1, r1, q1⟩ => ?_)
  obtain ⟨a, xs, ex, hx⟩ := q1
  subst ex
  cases r1
  have hst : PO X (some (.UnaryOp .USub (.Constant (.int 1) k p1) p2)) (tPart (tUn (rU fun i => .int (-i)) (tC (.int 1)))) := po_some (pe_un un_neg pe_int)
  refine wpAny_Slice (thn (po_none.run pins s1 σ H1 (fun o H2 => o = none ∧ H2 = H1) I1 ⟨rfl, rfl⟩) fun vl s2 ⟨l, H2, I2, pl, el, e2⟩ => ?_)
  subst el e2
  refine thn (po_none.run pins s2 σ H2 (fun o H3 => o = none ∧ H3 = H2) I2 ⟨rfl, rfl⟩) fun vu s3 ⟨u, H3, I3, pu, eu, e3⟩ => ?_
  subst eu e3
  refine thn (hst.run pins s3 σ H3 (fun o H4 => o = some (-1) ∧ H4 = H3) I3 ⟨1, rfl, -1, rfl, rfl, rfl⟩) fun vs s4 ⟨o, H4, I4, ps, eo, e4⟩ => ?_
  subst eo e4
  have I5 : Inv X pins σ H4 { s4 with heap := s4.heap.push { cls := .type "slice", data := .fields #[vl, vu, vs] } } := I4.kept (t' := s4.toks) fun b ob q => Heap.get?_push_of_some _ q
  show wpAny (model X.prog X.w) X.A (subscriptTail e (.Slice none none (some (.UnaryOp .USub (.Constant (.int 1) k p1) p2)) p3) (.ref a) (.ref s4.heap.objs.size)) (EP X pins σ Q) X.xe { s4 with heap := s4.heap.push { cls := .type "slice", data := .fields #[vl, vu, vs] } }
  rcases hx with ⟨hx, q⟩ | ⟨hx, q⟩
  · obtain ⟨its, r, ht, hz⟩ := I5.list hx
    have hlen := r.length
    refine tail_any (ops := [.ref a, .ref s4.heap.objs.size]) ht.isList.typeIs (PySem.slot_list_getitem.lookup) ?_ (by with_unfolding_all rfl)
    refine wpAny_getItem_list_slice ht.isList (Heap.IsSliceOf.new _ vl vu vs) pl pu ps (by decide) ?_ (by rw [List.size_toArray]; omega)
    rw [PySem.W.krv_pick]
    refine ⟨.ref _, _, I5.laid (t' := s4.toks) (o := .lst xs.reverse) (fun b ob q => Heap.get?_push_of_some _ q) (Nat.le_refl _) ?_, rfl, q _ (I5.hok.fresh (Nat.le_refl _))⟩
    exact ⟨by rw [List.length_reverse]; exact hz, _, 0, r.reverse, Heap.get?_push_size _ rfl⟩
  · obtain ⟨its, r, ht, hz⟩ := I5.tuple hx
    have hlen := r.length
    cases pl
    cases pu
    refine tail_any (ops := [.ref a, .ref s4.heap.objs.size]) ht.typeIs (PyProof.Rows.slot_tuple_getitem.lookup) ?_ (by with_unfolding_all rfl)
    refine HT.getItem_tuple_back ht (Heap.IsSliceOf.new _ .none .none vs) ps ?_ (by rw [List.size_toArray]; omega)
    refine ⟨.ref _, _, I5.laid (t' := s4.toks) (o := .tup xs.reverse) (fun b ob q => Heap.get?_push_of_some _ q) (Nat.le_refl _) ?_, rfl, q _ (I5.hok.fresh (Nat.le_refl _))⟩
    exact ⟨by rw [List.length_reverse]; exact hz, _, r.reverse, IsTup.new _ _⟩
end
end L2
namespace Pd
open PySem PySem.Spec PyProof.Rows L2
def fRevA (f : EF) : EF := fun ρ => (f ρ).bind fun x => match x.1 with | .lst xs => .ok (.lst xs.reverse, true) | .tup xs => .ok (.tup xs.reverse, false) | _ => .st
section
variable {X : Cx} {E : XE} {pos p2 : Pos} {e : Expr} {fa : EF}
theorem px_revA {k : Nat} {p1 p2 p3 : Pos} (he : PX X E e fa) : PX X E (.Subscript e (.Slice none none (some (.UnaryOp .USub (.Constant (.int 1) k p1) p2)) p3) pos) (fRevA fa) := by
  refine ⟨fun pins s σ H Q I h => (pe_revA he).run pins s σ H Q I ?_⟩
  obtain ⟨F0, H0, F, ρ, S, h⟩ := h
  refine tE_bind S h fun d f x F1 H1 x1 S1 r1 h1 => ?_
  cases d with
  | lst xs => cases r1 with | lst g1 q1 => exact ⟨_, _, rfl, .inl ⟨.of (S1.sub _ _ g1), fun p hp => h1.fresh S1.sub hp (.lst upd_same q1.reverse)⟩⟩
  | tup xs => cases r1 with | tup g1 q1 => exact ⟨_, _, rfl, .inr ⟨.of (S1.sub _ _ g1), fun p hp => h1.laid S1.sub hp (.tup upd_same (RpL.mono (sb_upd (none_of_sb S1.sub hp)) q1.reverse))⟩⟩
  | _ => exact h1.elim
end
end Pd

/-! Nt1: plain: generations of statements; who is joined with whom; classes of ancestors; that both ways to look at statements agree. -/
namespace Nt
/-- (one, up, down, other) -/
structure Row (α : Type) where
  one : α
  up : Int
  dn : Int
  oth : α
abbrev Tab (α : Type) := List (α × Int)
section
variable {α : Type} [DecidableEq α]
def tget : Tab α → α → Option Int
  | [], _ => none
  | (y, v) :: t, x => if y = x then some v else tget t x
def has (t : Tab α) (x : α) : Bool := (tget t x).isSome
def tv (t : Tab α) (x : α) : Int := (tget t x).getD 0
theorem tget_app (t u : Tab α) (x : α) : tget (t ++ u) x = (tget t x).or (tget u x) := by
  induction t with
  | nil => simp [tget]
  | cons p t ih =>
    obtain ⟨y, v⟩ := p
    simp only [List.cons_append, tget]
    split
    · rfl
    · exact ih
theorem has_app (t u : Tab α) (x : α) : has (t ++ u) x = (has t x || has u x) := by
  unfold has
  rw [tget_app]
  cases tget t x <;> simp
theorem has_one (y : α) (v : Int) (x : α) : has [(y, v)] x = decide (y = x) := by
  unfold has tget tget
  by_cases h : y = x <;> simp [h]
theorem tv_app {t u : Tab α} {x : α} (h : has t x = true) : tv (t ++ u) x = tv t x := by
  unfold has at h
  unfold tv
  rw [tget_app]
  cases e : tget t x with
  | none => rw [e] at h; cases h
  | some v => rfl

/-! ### generations -/
def both (t : Tab α) (r : Row α) : Bool := has t r.one && has t r.oth
def prop1 (t : Tab α) (r : Row α) : Tab α :=
  if (has t r.one && !has t r.oth) = true then t ++ [(r.oth, tv t r.one - r.dn + r.up)]
  else if (has t r.oth && !has t r.one) = true then t ++ [(r.one, tv t r.oth - r.up + r.dn)] else t
def pass (rows : List (Row α)) (t : Tab α) : Tab α := rows.foldl prop1 t
def enter (t : Tab α) (r : Row α) : Tab α := if (!has t r.one && !has t r.oth) = true then t ++ [(r.one, 0)] else t
def iter (f : Tab α → Tab α) : Nat → Tab α → Tab α
  | 0, t => t
  | n + 1, t => iter f n (f t)
def levels (rows : List (Row α)) : Tab α := rows.foldl (fun t r => iter (pass rows) rows.length (enter t r)) []
/-- while there is something new -/
def loop (rows : List (Row α)) : Nat → Tab α → Option (Tab α)
  | 0, _ => none
  | n + 1, t => if (pass rows t).length = t.length then some (pass rows t) else loop rows n (pass rows t)

theorem prop1_ext (t : Tab α) (r : Row α) : ∃ u, prop1 t r = t ++ u := by
  unfold prop1
  split
  · exact ⟨_, rfl⟩
  · split
    · exact ⟨_, rfl⟩
    · exact ⟨[], by simp⟩
theorem foldl_ext (rows : List (Row α)) (t : Tab α) : ∃ u, rows.foldl prop1 t = t ++ u := by
  induction rows generalizing t with
  | nil => exact ⟨[], by simp⟩
  | cons r rows ih =>
    obtain ⟨u, hu⟩ := prop1_ext t r
    obtain ⟨v, hv⟩ := ih (prop1 t r)
    exact ⟨u ++ v, by rw [List.foldl_cons, hv, hu, List.append_assoc]⟩
theorem pass_ext (rows : List (Row α)) (t : Tab α) : ∃ u, pass rows t = t ++ u := foldl_ext rows t
theorem pass_same {rows : List (Row α)} {t : Tab α} (h : (pass rows t).length = t.length) : pass rows t = t := by
  obtain ⟨u, hu⟩ := pass_ext rows t
  rw [hu, List.length_append] at h
  have : u = [] := List.length_eq_zero_iff.mp (by omega)
  rw [hu, this, List.append_nil]
theorem both_mono {t : Tab α} {u : Tab α} {r : Row α} (h : both t r = true) : both (t ++ u) r = true := by
  unfold both at h ⊢
  rw [has_app, has_app]
  simp only [Bool.and_eq_true] at h
  simp [h.1, h.2]
/-- a step that is no step of the row, or one behind which it has both -/
theorem prop1_cases (t : Tab α) (r : Row α) : (prop1 t r = t) ∨ (both t r = false ∧ both (prop1 t r) r = true) := by
  unfold prop1
  split
  · rename_i h
    simp only [Bool.and_eq_true, Bool.not_eq_true'] at h
    refine .inr ⟨by unfold both; simp [h.2], ?_⟩
    unfold both
    rw [has_app, has_app]
    simp [h.1, has_one]
  · split
    · rename_i h
      simp only [Bool.and_eq_true, Bool.not_eq_true'] at h
      refine .inr ⟨by unfold both; simp [h.2], ?_⟩
      unfold both
      rw [has_app, has_app]
      simp [h.1, has_one]
    · exact .inl rfl
theorem foldl_new {rows : List (Row α)} {t : Tab α} (h : rows.foldl prop1 t ≠ t) : ∃ r ∈ rows, both t r = false ∧ both (rows.foldl prop1 t) r = true := by
  induction rows generalizing t with
  | nil => exact absurd rfl h
  | cons r rows ih =>
    rw [List.foldl_cons] at h ⊢
    rcases prop1_cases t r with e | ⟨h1, h2⟩
    · rw [e] at h ⊢
      obtain ⟨q, hq, h1, h2⟩ := ih h
      exact ⟨q, List.mem_cons_of_mem _ hq, h1, h2⟩
    · obtain ⟨u, hu⟩ := foldl_ext rows (prop1 t r)
      exact ⟨r, List.mem_cons_self, h1, by rw [hu]; exact both_mono h2⟩
theorem countP_lt {β : Type} {p q : β → Bool} : ∀ {l : List β}, (∀ x ∈ l, p x = true → q x = true) → (∃ x ∈ l, p x = false ∧ q x = true) → l.countP p < l.countP q
  | [], _, ⟨x, hx, _⟩ => by cases hx
  | y :: l, h, ⟨x, hx, h1, h2⟩ => by
    have hm : l.countP p ≤ l.countP q := by
      clear hx h1 h2
      have h' : ∀ x ∈ l, p x = true → q x = true := fun x hx => h x (List.mem_cons_of_mem _ hx)
      clear h
      induction l with
      | nil => exact Nat.le_refl _
      | cons z l ih =>
        have i := ih (fun x hx => h' x (List.mem_cons_of_mem _ hx))
        have hz := h' z List.mem_cons_self
        rw [List.countP_cons, List.countP_cons]
        cases e : p z with
        | true => rw [hz e]; simp; omega
        | false => simp; split <;> omega
    rw [List.countP_cons, List.countP_cons]
    rcases List.mem_cons.mp hx with e | hx'
    · subst e
      rw [h1, h2]
      simp; omega
    · have i := countP_lt (fun x hx => h x (List.mem_cons_of_mem _ hx)) ⟨x, hx', h1, h2⟩
      have hy := h y List.mem_cons_self
      cases e : p y with
      | true => rw [hy e]; simp; omega
      | false => simp; split <;> omega
def cnt (rows : List (Row α)) (t : Tab α) : Nat := rows.countP (both t)
theorem pass_cnt {rows : List (Row α)} {t : Tab α} (h : pass rows t ≠ t) : cnt rows t < cnt rows (pass rows t) := by
  obtain ⟨u, hu⟩ := pass_ext rows t
  exact countP_lt (fun r _ hr => by rw [hu]; exact both_mono hr) (foldl_new h)
theorem pass_full {rows : List (Row α)} {t : Tab α} (h : cnt rows t = rows.length) : pass rows t = t := by
  rcases Decidable.em (pass rows t = t) with e | e
  · exact e
  · have h1 := pass_cnt e
    have h2 : cnt rows (pass rows t) ≤ rows.length := List.countP_le_length
    omega
theorem iter_succ (f : Tab α → Tab α) : ∀ (n : Nat) (t : Tab α), iter f (n + 1) t = f (iter f n t)
  | 0, _ => rfl
  | n + 1, t => iter_succ f n (f t)
theorem iter_fix {f : Tab α → Tab α} {t : Tab α} (h : f t = t) : ∀ n, iter f n t = t
  | 0 => rfl
  | n + 1 => by
    show iter f n (f t) = t
    rw [h]
    exact iter_fix h n
theorem iter_cnt (rows : List (Row α)) (t : Tab α) : ∀ n, pass rows (iter (pass rows) n t) = iter (pass rows) n t ∨ n ≤ cnt rows (iter (pass rows) n t)
  | 0 => .inr (Nat.zero_le _)
  | n + 1 => by
    rw [iter_succ]
    rcases iter_cnt rows t n with h | h
    · rw [h]; exact .inl h
    · rcases Decidable.em (pass rows (iter (pass rows) n t) = iter (pass rows) n t) with e | e
      · rw [e]; exact .inl e
      · have := pass_cnt e
        exact .inr (by omega)
/-- behind as many passes as there are rows nothing is new -/
theorem iter_stable (rows : List (Row α)) (t : Tab α) : pass rows (iter (pass rows) rows.length t) = iter (pass rows) rows.length t := by
  rcases iter_cnt rows t rows.length with h | h
  · exact h
  · have h2 : cnt rows (iter (pass rows) rows.length t) ≤ rows.length := List.countP_le_length
    exact pass_full (by omega)
theorem loop_iter (rows : List (Row α)) : ∀ (n k : Nat) (t : Tab α), pass rows (iter (pass rows) k t) = iter (pass rows) k t → k < n → loop rows n t = some (iter (pass rows) k t)
  | 0, k, _, _, h => by omega
  | n + 1, k, t, e, h => by
    unfold loop
    by_cases hl : (pass rows t).length = t.length
    · rw [if_pos hl, pass_same hl, iter_fix (pass_same hl)]
    · rw [if_neg hl]
      cases k with
      | zero =>
        exfalso
        have : pass rows t = t := e
        exact hl (by rw [this])
      | succ k => exact loop_iter rows n k (pass rows t) e (by omega)
/-- the loop comes to the same as so many passes -/
theorem loop_eq (rows : List (Row α)) (t : Tab α) {n : Nat} (h : rows.length < n) : loop rows n t = some (iter (pass rows) rows.length t) := loop_iter rows n _ t (iter_stable rows t) h
end
end Nt

/-! Nt2: plain: who is joined with whom, by a walk and by classes. -/
namespace Nt
section
variable {α : Type} [DecidableEq α]
/-- joined by rows -/
inductive Conn (E : Row α → Prop) : α → α → Prop
  | refl (a : α) : Conn E a a
  | step {a b : α} {r : Row α} : Conn E a b → E r → r.one = b → Conn E a r.oth
  | back {a b : α} {r : Row α} : Conn E a b → E r → r.oth = b → Conn E a r.one
variable {E E' : Row α → Prop} {a b c : α}
theorem Conn.trans (h1 : Conn E a b) (h2 : Conn E b c) : Conn E a c := by
  induction h2 with
  | refl => exact h1
  | step _ he e ih => exact .step ih he e
  | back _ he e ih => exact .back ih he e
theorem Conn.symm (h : Conn E a b) : Conn E b a := by
  induction h with
  | refl => exact .refl a
  | step _ he e ih => exact Conn.trans (.back (.refl _) he rfl) (e ▸ ih)
  | back _ he e ih => exact Conn.trans (.step (.refl _) he rfl) (e ▸ ih)
theorem Conn.mono (h : ∀ r, E r → E' r) (x : Conn E a b) : Conn E' a b := by
  induction x with
  | refl => exact .refl _
  | step _ he e ih => exact .step ih (h _ he) e
  | back _ he e ih => exact .back ih (h _ he) e
/-- a set that is closed holds whoever is joined -/
theorem Conn.closed {S : α → Prop} (hs : ∀ r, E r → (S r.one ↔ S r.oth)) (x : Conn E a b) (ha : S a) : S b := by
  induction x with
  | refl => exact ha
  | step _ he e ih => exact (hs _ he).mp (e ▸ ih)
  | back _ he e ih => exact (hs _ he).mpr (e ▸ ih)
/-- one row more -/
theorem conn_more {r : Row α} : Conn (fun q => E q ∨ q = r) a b ↔ Conn E a b ∨ (Conn E a r.one ∧ Conn E r.oth b) ∨ (Conn E a r.oth ∧ Conn E r.one b) := by
  constructor
  · intro x
    induction x with
    | refl => exact .inl (.refl _)
    | step _ he e ih =>
      rename_i b' q _
      rcases he with he | he
      · rcases ih with h | ⟨h1, h2⟩ | ⟨h1, h2⟩
        · exact .inl (.step h he e)
        · exact .inr (.inl ⟨h1, .step h2 he e⟩)
        · exact .inr (.inr ⟨h1, .step h2 he e⟩)
      · subst he
        subst e
        rcases ih with h | ⟨h1, h2⟩ | ⟨h1, h2⟩
        · exact .inr (.inl ⟨h, .refl _⟩)
        · exact .inr (.inl ⟨h1, .refl _⟩)
        · exact .inl h1
    | back _ he e ih =>
      rename_i b' q _
      rcases he with he | he
      · rcases ih with h | ⟨h1, h2⟩ | ⟨h1, h2⟩
        · exact .inl (.back h he e)
        · exact .inr (.inl ⟨h1, .back h2 he e⟩)
        · exact .inr (.inr ⟨h1, .back h2 he e⟩)
      · subst he
        subst e
        rcases ih with h | ⟨h1, h2⟩ | ⟨h1, h2⟩
        · exact .inr (.inr ⟨h, .refl _⟩)
        · exact .inl h1
        · exact .inr (.inr ⟨h1, .refl _⟩)
  · rintro (h | ⟨h1, h2⟩ | ⟨h1, h2⟩)
    · exact h.mono fun _ => .inl
    · exact ((Conn.step (h1.mono fun _ => .inl) (.inr rfl) rfl).trans (h2.mono fun _ => .inl))
    · exact ((Conn.back (h1.mono fun _ => .inl) (.inr rfl) rfl).trans (h2.mono fun _ => .inl))

/-! ### the walk -/
/-- what a row adds: (found, later) -/
def jput (s : List α × List α) (p : α × α) : List α × List α := if (s.1.contains p.1 && !s.1.contains p.2) = true then (s.1 ++ [p.2], s.2 ++ [p.2]) else s
def jrow (t : Tab α) (least : Int) (s : List α × List α) (r : Row α) : List α × List α :=
  if least ≤ tv t r.one - r.dn then jput (jput s (r.one, r.oth)) (r.oth, r.one) else s
def jpass (rows : List (Row α)) (t : Tab α) (least : Int) (found : List α) : List α × List α := rows.foldl (jrow t least) (found, [])
def jloop (rows : List (Row α)) (t : Tab α) (least : Int) : Nat → List α → Option (List α)
  | 0, _ => none
  | n + 1, f => if (jpass rows t least f).2 = [] then some (jpass rows t least f).1 else jloop rows t least n (jpass rows t least f).1
/-- the rows that meet at a generation or below -/
def Meets (rows : List (Row α)) (t : Tab α) (least : Int) : Row α → Prop := fun r => r ∈ rows ∧ least ≤ tv t r.one - r.dn

/-- later is what was added; both are joined -/
structure JInv (E : Row α → Prop) (start : α) (f0 : List α) (s : List α × List α) : Prop where
  eq : s.1 = f0 ++ s.2
  co : ∀ x ∈ s.1, Conn E start x
theorem jput_inv {start : α} {f0 : List α} {s : List α × List α} {p : α × α} (h : JInv E start f0 s) (hp : ∀ c, Conn E c p.1 → Conn E c p.2) : JInv E start f0 (jput s p) := by
  unfold jput
  split
  · rename_i hc
    simp only [Bool.and_eq_true, List.contains_iff_mem] at hc
    refine ⟨by simp [h.eq], fun x hx => ?_⟩
    rcases List.mem_append.mp hx with hx | hx
    · exact h.co x hx
    · rw [List.mem_singleton.mp hx]
      exact hp _ (h.co _ hc.1)
  · exact h
theorem jput_ext (s : List α × List α) (p : α × α) : ∃ u, (jput s p).1 = s.1 ++ u ∧ (jput s p).2 = s.2 ++ u := by
  unfold jput
  split
  · exact ⟨_, rfl, rfl⟩
  · exact ⟨[], by simp⟩
theorem jrow_ext (t : Tab α) (least : Int) (s : List α × List α) (r : Row α) : ∃ u, (jrow t least s r).1 = s.1 ++ u ∧ (jrow t least s r).2 = s.2 ++ u := by
  unfold jrow
  split
  · obtain ⟨u, h1, h2⟩ := jput_ext s (r.one, r.oth)
    obtain ⟨v, h3, h4⟩ := jput_ext (jput s (r.one, r.oth)) (r.oth, r.one)
    exact ⟨u ++ v, by rw [h3, h1, List.append_assoc], by rw [h4, h2, List.append_assoc]⟩
  · exact ⟨[], by simp⟩
theorem jfold_ext (t : Tab α) (least : Int) (rows : List (Row α)) (s : List α × List α) : ∃ u, (rows.foldl (jrow t least) s).1 = s.1 ++ u ∧ (rows.foldl (jrow t least) s).2 = s.2 ++ u := by
  induction rows generalizing s with
  | nil => exact ⟨[], by simp⟩
  | cons r rows ih =>
    obtain ⟨u, h1, h2⟩ := jrow_ext t least s r
    obtain ⟨v, h3, h4⟩ := ih (jrow t least s r)
    exact ⟨u ++ v, by rw [List.foldl_cons, h3, h1, List.append_assoc], by rw [List.foldl_cons, h4, h2, List.append_assoc]⟩
def jboth (f : List α) (r : Row α) : Bool := f.contains r.one && f.contains r.oth
theorem jboth_mono {f u : List α} {r : Row α} (h : jboth f r = true) : jboth (f ++ u) r = true := by
  unfold jboth at h ⊢
  simp only [Bool.and_eq_true, List.contains_iff_mem, List.mem_append] at h ⊢
  exact ⟨.inl h.1, .inl h.2⟩
/-- a row either adds nothing and is closed, or it has both now and had not before -/
theorem jrow_cases {t : Tab α} {least : Int} {s : List α × List α} {r : Row α} (hm : least ≤ tv t r.one - r.dn) :
    (jrow t least s r = s ∧ (r.one ∈ s.1 ↔ r.oth ∈ s.1)) ∨ (jboth s.1 r = false ∧ jboth (jrow t least s r).1 r = true) := by
  unfold jrow
  rw [if_pos hm]
  by_cases h1 : r.one ∈ s.1 <;> by_cases h2 : r.oth ∈ s.1
  · left
    simp [jput, h1, h2]
  · right
    simp [jput, jboth, h1, h2]
  · right
    simp [jput, jboth, h1, h2]
  · left
    simp [jput, h1, h2]
theorem jfold_new {t : Tab α} {least : Int} : ∀ (rows : List (Row α)) (s : List α × List α), (rows.foldl (jrow t least) s = s ∧ ∀ r, Meets rows t least r → (r.one ∈ s.1 ↔ r.oth ∈ s.1)) ∨ ∃ r ∈ rows, jboth s.1 r = false ∧ jboth (rows.foldl (jrow t least) s).1 r = true
  | [], s => .inl ⟨rfl, fun r ⟨h, _⟩ => by cases h⟩
  | r :: rows, s => by
    rw [List.foldl_cons]
    by_cases hm : least ≤ tv t r.one - r.dn
    · rcases jrow_cases (s := s) hm with ⟨e, hc⟩ | ⟨h1, h2⟩
      · rw [e]
        rcases jfold_new rows s with ⟨e', hc'⟩ | ⟨q, hq, h1, h2⟩
        · refine .inl ⟨e', fun q ⟨hq, hl⟩ => ?_⟩
          rcases List.mem_cons.mp hq with rfl | hq
          · exact hc
          · exact hc' q ⟨hq, hl⟩
        · exact .inr ⟨q, List.mem_cons_of_mem _ hq, h1, h2⟩
      · obtain ⟨u, hu, _⟩ := jfold_ext t least rows (jrow t least s r)
        exact .inr ⟨r, List.mem_cons_self, h1, by rw [hu]; exact jboth_mono h2⟩
    · have e : jrow t least s r = s := by unfold jrow; rw [if_neg hm]
      rw [e]
      rcases jfold_new rows s with ⟨e', hc'⟩ | ⟨q, hq, h1, h2⟩
      · refine .inl ⟨e', fun q ⟨hq, hl⟩ => ?_⟩
        rcases List.mem_cons.mp hq with rfl | hq
        · exact absurd hl hm
        · exact hc' q ⟨hq, hl⟩
      · exact .inr ⟨q, List.mem_cons_of_mem _ hq, h1, h2⟩
theorem jfold_inv {start : α} {f0 : List α} {t : Tab α} {least : Int} : ∀ (rows : List (Row α)) (s : List α × List α), (∀ r, Meets rows t least r → E r) → JInv E start f0 s → JInv E start f0 (rows.foldl (jrow t least) s)
  | [], s, _, h => h
  | r :: rows, s, hE, h => by
    rw [List.foldl_cons]
    refine jfold_inv rows _ (fun q hq => hE q ⟨List.mem_cons_of_mem _ hq.1, hq.2⟩) ?_
    unfold jrow
    split
    · rename_i hm
      have he : E r := hE r ⟨List.mem_cons_self, hm⟩
      exact jput_inv (jput_inv h fun c x => .step x he rfl) fun c x => .back x he rfl
    · exact h
def jcnt (rows : List (Row α)) (f : List α) : Nat := rows.countP (jboth f)
/-- the loop comes to an end, with all who are joined -/
theorem jloop_ok (rows : List (Row α)) (t : Tab α) (least : Int) (start : α) : ∀ (n : Nat) (f : List α), rows.length < n + jcnt rows f → start ∈ f → (∀ x ∈ f, Conn (Meets rows t least) start x) →
    ∃ g, jloop rows t least n f = some g ∧ ∀ x, x ∈ g ↔ Conn (Meets rows t least) start x
  | 0, f, h, _, _ => by
    have : jcnt rows f ≤ rows.length := List.countP_le_length
    omega
  | n + 1, f, h, hs, hc => by
    have hi : JInv (Meets rows t least) start f (jpass rows t least f) := jfold_inv rows (f, []) (fun _ h => h) ⟨by simp, hc⟩
    obtain ⟨u, hu, hu2⟩ := jfold_ext t least rows (f, [])
    have hu : (jpass rows t least f).1 = f ++ u := hu
    have hu2 : (jpass rows t least f).2 = u := by rw [show (jpass rows t least f).2 = _ from hu2]; simp
    unfold jloop
    rcases jfold_new (t := t) (least := least) rows (f, []) with ⟨e, hcl⟩ | ⟨r, hr, h1, h2⟩
    · have e : jpass rows t least f = (f, []) := e
      rw [e]
      refine ⟨f, rfl, fun x => ⟨hc x, fun x => ?_⟩⟩
      exact Conn.closed (S := (· ∈ f)) (fun r hr => hcl r hr) x hs
    · have hlt : jcnt rows f < jcnt rows (jpass rows t least f).1 := countP_lt (fun q _ hq => by rw [hu]; exact jboth_mono hq) ⟨r, hr, h1, h2⟩
      have hne : (jpass rows t least f).2 ≠ [] := fun z => by
        rw [hu2] at z
        subst z
        rw [hu, List.append_nil] at hlt
        omega
      rw [if_neg hne]
      exact jloop_ok rows t least start n _ (by omega) (by rw [hu]; exact List.mem_append_left _ hs) hi.co

/-! ### classes -/
def cls1 (t : Tab α) (C : α → Int → α) (r : Row α) : α → Int → α := fun a l => if l ≤ tv t r.one - r.dn ∧ C a l = C r.one l then C r.oth l else C a l
def cls (rows : List (Row α)) (t : Tab α) : α → Int → α := rows.foldl (cls1 t) fun a _ => a
theorem cls_fold (t : Tab α) (l : Int) : ∀ (rows : List (Row α)) (E : Row α → Prop) (C : α → Int → α), (∀ a b, C a l = C b l ↔ Conn E a b) →
    ∀ a b, rows.foldl (cls1 t) C a l = rows.foldl (cls1 t) C b l ↔ Conn (fun r => E r ∨ Meets rows t l r) a b
  | [], E, C, h, a, b => by
    rw [List.foldl_nil, h]
    exact ⟨fun x => x.mono fun _ => .inl, fun x => x.mono fun r hr => hr.elim id fun z => by cases z.1⟩
  | r :: rows, E, C, h, a, b => by
    rw [List.foldl_cons]
    by_cases hm : l ≤ tv t r.one - r.dn
    · have h' : ∀ a b, cls1 t C r a l = cls1 t C r b l ↔ Conn (fun q => E q ∨ q = r) a b := fun a b => by
        rw [conn_more]
        unfold cls1
        by_cases h1 : C a l = C r.one l <;> by_cases h2 : C b l = C r.one l
        · rw [if_pos ⟨hm, h1⟩, if_pos ⟨hm, h2⟩]
          exact ⟨fun _ => .inl ((h a b).mp (h1.trans h2.symm)), fun _ => rfl⟩
        · rw [if_pos ⟨hm, h1⟩, if_neg (fun z => h2 z.2), h]
          refine ⟨fun x => .inr (.inl ⟨(h _ _).mp h1, x⟩), ?_⟩
          rintro (x | ⟨_, x⟩ | ⟨x, y⟩)
          · exact absurd (((h a b).mpr x).symm.trans h1) h2
          · exact x
          · exact absurd ((h _ _).mpr y).symm h2
        · rw [if_neg (fun z => h1 z.2), if_pos ⟨hm, h2⟩, h]
          refine ⟨fun x => .inr (.inr ⟨x, ((h _ _).mp h2).symm⟩), ?_⟩
          rintro (x | ⟨x, _⟩ | ⟨x, _⟩)
          · exact absurd (((h a b).mpr x).trans h2) h1
          · exact absurd ((h _ _).mpr x) h1
          · exact x
        · rw [if_neg (fun z => h1 z.2), if_neg (fun z => h2 z.2), h]
          refine ⟨.inl, ?_⟩
          rintro (x | ⟨x, _⟩ | ⟨_, x⟩)
          · exact x
          · exact absurd ((h _ _).mpr x) h1
          · exact absurd ((h _ _).mpr x).symm h2
      rw [cls_fold t l rows _ _ h']
      refine ⟨fun x => x.mono fun q hq => ?_, fun x => x.mono fun q hq => ?_⟩
      · rcases hq with (hq | rfl) | ⟨hq, hl⟩
        · exact .inl hq
        · exact .inr ⟨List.mem_cons_self, hm⟩
        · exact .inr ⟨List.mem_cons_of_mem _ hq, hl⟩
      · rcases hq with hq | ⟨hq, hl⟩
        · exact .inl (.inl hq)
        · rcases List.mem_cons.mp hq with rfl | hq
          · exact .inl (.inr rfl)
          · exact .inr ⟨hq, hl⟩
    · have e : ∀ a, cls1 t C r a l = C a l := fun a => by unfold cls1; rw [if_neg (fun z => hm z.1)]
      rw [cls_fold t l rows E (cls1 t C r) (fun a b => by rw [e, e]; exact h a b)]
      refine ⟨fun x => x.mono fun q hq => ?_, fun x => x.mono fun q hq => ?_⟩
      · rcases hq with hq | ⟨hq, hl⟩
        · exact .inl hq
        · exact .inr ⟨List.mem_cons_of_mem _ hq, hl⟩
      · rcases hq with hq | ⟨hq, hl⟩
        · exact .inl hq
        · rcases List.mem_cons.mp hq with rfl | hq
          · exact absurd hl hm
          · exact .inr ⟨hq, hl⟩
theorem cls_iff (rows : List (Row α)) (t : Tab α) (l : Int) (a b : α) : cls rows t a l = cls rows t b l ↔ Conn (Meets rows t l) a b := by
  unfold cls
  rw [cls_fold t l rows (fun _ => False) (fun a _ => a) (fun a b => ⟨fun e => (show a = b from e) ▸ .refl a, fun x => by
    induction x with
    | refl => rfl
    | step _ he => exact he.elim
    | back _ he => exact he.elim⟩)]
  exact ⟨fun x => x.mono fun r hr => hr.elim False.elim id, fun x => x.mono fun r => .inr⟩
end
end Nt

/-! Nt3: plain: whether statements fit, said in one way. -/
namespace Nt
section
variable {α : Type} [DecidableEq α]
/-- the generations agree -/
def okT (rows : List (Row α)) (t : Tab α) : Bool := rows.all fun r => decide (tv t r.one - r.dn = tv t r.oth - r.up)
/-- all the same, by who is joined -/
structure Fit (rows : List (Row α)) (t : Tab α) : Prop where
  ok : okT rows t = true
  ring : ∀ r ∈ rows, ¬ Conn (Meets rows t (tv t r.one - r.dn + 1)) r.one r.oth
  apart : ∀ a b, has t a = true → has t b = true → a ≠ b → tv t a = tv t b → ¬ Conn (Meets rows t (tv t a)) a b
/-- the program's way: J a l are those who are joined with a at l -/
def fitJ (rows : List (Row α)) (t : Tab α) (J : α → Int → List α) : Bool :=
  okT rows t && (rows.all fun r => !(J r.one (tv t r.one - r.dn + 1)).contains r.oth) && t.all fun p => (J p.1 (tv t p.1)).all fun y => !(decide (y ≠ p.1) && decide (tv t y = tv t p.1))
/-- the law's way -/
def fitC (rows : List (Row α)) (t : Tab α) (C : α → Int → α) : Bool :=
  okT rows t && (rows.all fun r => !(decide (tv t r.one - r.dn + 1 ≤ min (tv t r.one) (tv t r.oth)) && decide (C r.one (tv t r.one - r.dn + 1) = C r.oth (tv t r.one - r.dn + 1)))) &&
    t.all fun p => t.all fun q => !(decide (p.1 ≠ q.1) && decide (tv t p.1 = tv t q.1) && decide (C p.1 (tv t p.1) = C q.1 (tv t p.1)))
theorem has_mem {t : Tab α} {a : α} : has t a = true ↔ ∃ v, (a, v) ∈ t := by
  induction t with
  | nil => simp [has, tget]
  | cons p t ih =>
    obtain ⟨y, v⟩ := p
    unfold has tget
    by_cases e : y = a
    · subst e
      simp
    · rw [if_neg e]
      show has t a = true ↔ _
      rw [ih]
      constructor
      · rintro ⟨w, hw⟩; exact ⟨w, List.mem_cons_of_mem _ hw⟩
      · rintro ⟨w, hw⟩
        rcases List.mem_cons.mp hw with z | z
        · cases z; exact absurd rfl e
        · exact ⟨w, z⟩
theorem conn_has {rows : List (Row α)} {t : Tab α} {l : Int} {a b : α} (hb : ∀ r ∈ rows, both t r = true) (x : Conn (Meets rows t l) a b) (ha : has t a = true) : has t b = true := by
  refine x.closed (S := fun x => has t x = true) (fun r hr => ?_) ha
  have := hb r hr.1
  unfold both at this
  simp only [Bool.and_eq_true] at this
  exact ⟨fun _ => this.2, fun _ => this.1⟩
theorem fitJ_iff {rows : List (Row α)} {t : Tab α} {J : α → Int → List α} (hb : ∀ r ∈ rows, both t r = true) (hJ : ∀ a l x, has t a = true → (x ∈ J a l ↔ Conn (Meets rows t l) a x)) : fitJ rows t J = true ↔ Fit rows t := by
  unfold fitJ
  simp only [Bool.and_eq_true, List.all_eq_true, Bool.not_eq_true', List.contains_eq_mem, decide_eq_false_iff_not, Bool.and_eq_false_iff, decide_eq_true_eq]
  have h1 : ∀ r ∈ rows, has t r.one = true := fun r hr => by
    have := hb r hr
    unfold both at this
    simp only [Bool.and_eq_true] at this
    exact this.1
  constructor
  · rintro ⟨⟨a, b⟩, c⟩
    refine ⟨a, fun r hr x => b r hr ((hJ _ _ _ (h1 r hr)).mpr x), fun p q hp hq hne he x => ?_⟩
    obtain ⟨v, hv⟩ := has_mem.mp hp
    rcases c (p, v) hv q ((hJ _ _ _ hp).mpr x) with z | z
    · exact z (Ne.symm hne)
    · exact z he.symm
  · rintro ⟨a, b, c⟩
    refine ⟨⟨a, fun r hr x => b r hr ((hJ _ _ _ (h1 r hr)).mp x)⟩, fun p hp y hy => ?_⟩
    have hpt : has t p.1 = true := has_mem.mpr ⟨p.2, hp⟩
    have x := (hJ _ _ _ hpt).mp hy
    by_cases e : y = p.1
    · exact .inl (fun z => z e)
    · right
      intro e2
      exact c p.1 y hpt (conn_has hb x hpt) (fun z => e z.symm) e2.symm x
theorem fitC_iff {rows : List (Row α)} {t : Tab α} {C : α → Int → α} (hd : ∀ r ∈ rows, 0 ≤ r.up ∧ 0 ≤ r.dn ∧ r.one ≠ r.oth) (hb : ∀ r ∈ rows, both t r = true)
    (hC : ∀ a b l, (C a l = C b l ↔ Conn (Meets rows t l) a b)) : fitC rows t C = true ↔ Fit rows t := by
  unfold fitC
  simp only [Bool.and_eq_true, List.all_eq_true, Bool.not_eq_true', Bool.and_eq_false_iff, decide_eq_false_iff_not]
  constructor
  · rintro ⟨⟨a, b⟩, c⟩
    have hok : ∀ r ∈ rows, tv t r.one - r.dn = tv t r.oth - r.up := fun r hr => by
      have := List.all_eq_true.mp a r hr
      exact of_decide_eq_true this
    refine ⟨a, fun r hr x => ?_, fun p q hp hq hne he x => ?_⟩
    · rcases b r hr with z | z
      · -- above one of them nothing is joined
        have hk : ∀ q, Meets rows t (tv t r.one - r.dn + 1) q → (q.one ≠ r.one ∧ q.oth ≠ r.one) ∨ (q.one ≠ r.oth ∧ q.oth ≠ r.oth) := fun q hq => by
          have h1 := hq.2
          have h2 := hok q hq.1
          have h3 := hd q hq.1
          rcases Int.lt_or_le (tv t r.one) (tv t r.one - r.dn + 1) with w | w
          · left
            exact ⟨fun e => by rw [e] at h1; omega, fun e => by rw [e] at h2; omega⟩
          · right
            have w2 : tv t r.oth < tv t r.one - r.dn + 1 := by
              by_cases h : tv t r.oth < tv t r.one - r.dn + 1
              · exact h
              · exact absurd (Int.le_min.mpr ⟨w, by omega⟩) z
            exact ⟨fun e => by rw [e] at h1; omega, fun e => by rw [e] at h2; omega⟩
        rcases Int.lt_or_le (tv t r.one) (tv t r.one - r.dn + 1) with w | w
        · have : r.oth = r.one := Conn.closed (S := fun x => x = r.one) (fun q hq => by
            have h1 := hq.2
            have h2 := hok q hq.1
            have h3 := hd q hq.1
            constructor <;> intro e <;> exfalso
            · rw [e] at h1; omega
            · rw [e] at h2; omega) x rfl
          exact (hd r hr).2.2 this.symm
        · have w2 : tv t r.oth < tv t r.one - r.dn + 1 := by
            by_cases h : tv t r.oth < tv t r.one - r.dn + 1
            · exact h
            · exact absurd (Int.le_min.mpr ⟨w, by omega⟩) z
          have : r.one = r.oth := Conn.closed (S := fun x => x = r.oth) (fun q hq => by
            have h1 := hq.2
            have h2 := hok q hq.1
            have h3 := hd q hq.1
            constructor <;> intro e <;> exfalso
            · rw [e] at h1; omega
            · rw [e] at h2; omega) x.symm rfl
          exact (hd r hr).2.2 this
      · exact z ((hC _ _ _).mpr x)
    · obtain ⟨v, hv⟩ := has_mem.mp hp
      obtain ⟨w, hw⟩ := has_mem.mp hq
      rcases c (p, v) hv (q, w) hw with (z | z) | z
      · exact z hne
      · exact z he
      · exact z ((hC _ _ _).mpr x)
  · rintro ⟨a, b, c⟩
    refine ⟨⟨a, fun r hr => .inr fun e => b r hr ((hC _ _ _).mp e)⟩, fun p hp q hq => ?_⟩
    by_cases e : p.1 = q.1
    · exact .inl (.inl fun z => z e)
    · by_cases e2 : tv t p.1 = tv t q.1
      · exact .inr fun z => c p.1 q.1 (has_mem.mpr ⟨_, hp⟩) (has_mem.mpr ⟨_, hq⟩) e e2 ((hC _ _ _).mp z)
      · exact .inl (.inr e2)
/-- both ways say the same -/
theorem fit_same {rows : List (Row α)} {t : Tab α} {J : α → Int → List α} {C : α → Int → α} (hd : ∀ r ∈ rows, 0 ≤ r.up ∧ 0 ≤ r.dn ∧ r.one ≠ r.oth) (hb : ∀ r ∈ rows, both t r = true)
    (hJ : ∀ a l x, has t a = true → (x ∈ J a l ↔ Conn (Meets rows t l) a x)) (hC : ∀ a b l, (C a l = C b l ↔ Conn (Meets rows t l) a b)) : fitJ rows t J = fitC rows t C := by
  have h := (fitJ_iff hb hJ).trans (fitC_iff hd hb hC).symm
  cases e : fitJ rows t J <;> cases e' : fitC rows t C
  · rfl
  · exact (h.mpr e').symm.trans e |>.symm ▸ rfl
  · exact (h.mp e).symm.trans e' ▸ rfl
  · rfl
/-- behind the levels every row has both -/
theorem levels_both (rows : List (Row α)) : ∀ r ∈ rows, both (levels rows) r = true := by
  have key : ∀ (l : List (Row α)) (t : Tab α), ∀ r, (r ∈ l ∨ both t r = true) → r ∈ rows → (∀ q ∈ l, q ∈ rows) → both (l.foldl (fun t r => iter (pass rows) rows.length (enter t r)) t) r = true := by
    intro l
    induction l with
    | nil => intro t r h _ _; exact h.elim (fun z => by cases z) id
    | cons q l ih =>
      intro t r h hr hl
      rw [List.foldl_cons]
      have ext : ∀ (n : Nat) (t : Tab α), ∃ u, iter (pass rows) n t = t ++ u := by
        intro n
        induction n with
        | zero => intro t; exact ⟨[], by simp [iter]⟩
        | succ n ihn =>
          intro t
          obtain ⟨u, hu⟩ := pass_ext rows t
          obtain ⟨v, hv⟩ := ihn (pass rows t)
          exact ⟨u ++ v, by rw [show iter (pass rows) (n + 1) t = iter (pass rows) n (pass rows t) from rfl, hv, hu, List.append_assoc]⟩
      have ent : ∃ u, enter t q = t ++ u := by
        unfold enter
        split
        · exact ⟨_, rfl⟩
        · exact ⟨[], by simp⟩
      obtain ⟨u, hu⟩ := ent
      obtain ⟨v, hv⟩ := ext rows.length (enter t q)
      refine ih _ r ?_ hr fun z hz => hl z (List.mem_cons_of_mem _ hz)
      rcases h with h | h
      · rcases List.mem_cons.mp h with rfl | h
        · right
          -- one of the two is in: the pass that adds nothing has both
          have hst := iter_stable rows (enter t r)
          have h1 : has (enter t r) r.one = true ∨ has (enter t r) r.oth = true := by
            unfold enter
            split
            · left; rw [has_app, has_one]; simp
            · rename_i hc
              simp only [Bool.and_eq_true, Bool.not_eq_true', not_and, Bool.not_eq_false] at hc
              cases e : has t r.one with
              | true => exact .inl rfl
              | false => exact .inr (hc e)
          have h2 : has (iter (pass rows) rows.length (enter t r)) r.one = true ∨ has (iter (pass rows) rows.length (enter t r)) r.oth = true := by
            rw [hv, has_app, has_app]
            rcases h1 with h1 | h1
            · left; simp [h1]
            · right; simp [h1]
          generalize hT : iter (pass rows) rows.length (enter t r) = T at hst h2 ⊢
          -- with a fixed pass, a row with one has both
          have fixed : ∀ (l : List (Row α)), l.foldl prop1 T = T → ∀ q ∈ l, prop1 T q = T := by
            intro l
            induction l with
            | nil => intro _ q hq; cases hq
            | cons p l ihl =>
              intro e q hq
              rw [List.foldl_cons] at e
              have hp : prop1 T p = T := by
                obtain ⟨u, hu⟩ := prop1_ext T p
                obtain ⟨v, hv⟩ := foldl_ext l (prop1 T p)
                rw [hv, hu] at e
                have := congrArg List.length e
                simp only [List.length_append] at this
                have : u = [] := List.length_eq_zero_iff.mp (by omega)
                rw [hu, this, List.append_nil]
              rcases List.mem_cons.mp hq with rfl | hq
              · exact hp
              · rw [hp] at e
                exact ihl e q hq
          have hp := fixed rows hst r hr
          unfold prop1 at hp
          unfold both
          split at hp
          · have := congrArg List.length hp
            simp at this
          · rename_i c1
            split at hp
            · have := congrArg List.length hp
              simp at this
            · rename_i c2
              simp only [Bool.and_eq_true, Bool.not_eq_true', not_and, Bool.not_eq_false] at c1 c2 ⊢
              rcases h2 with h2 | h2
              · exact ⟨h2, c1 h2⟩
              · exact ⟨c2 h2, h2⟩
        · exact .inl h
      · right
        rw [hv, hu]
        exact both_mono (both_mono h)
  intro r hr
  exact key rows [] r (.inl hr) hr fun _ h => h
end
end Nt

/-! Nt4: plain: statements fit exactly if there are generations with which they do. -/
namespace Nt
section
variable {α : Type} [DecidableEq α]
def MeetsF (rows : List (Row α)) (t : α → Int) (least : Int) : Row α → Prop := fun r => r ∈ rows ∧ least ≤ t r.one - r.dn
/-- .. by any generations -/
structure FitF (rows : List (Row α)) (t : α → Int) : Prop where
  ok : ∀ r ∈ rows, t r.one - r.dn = t r.oth - r.up
  ring : ∀ r ∈ rows, ¬ Conn (MeetsF rows t (t r.one - r.dn + 1)) r.one r.oth
  apart : ∀ a b, a ≠ b → t a = t b → ¬ Conn (MeetsF rows t (t a)) a b
abbrev Any (rows : List (Row α)) : Row α → Prop := fun r => r ∈ rows
/-- what the table and the generations differ by is the same for all who are joined -/
def Same (rows : List (Row α)) (t : α → Int) (T : Tab α) : Prop := ∀ x y, has T x = true → has T y = true → Conn (Any rows) x y → tv T x - t x = tv T y - t y
def Closed (rows : List (Row α)) (T : Tab α) : Prop := ∀ r ∈ rows, (has T r.one = true ↔ has T r.oth = true)
theorem tv_new {T : Tab α} {z : α} {v : Int} (h : has T z = false) : tv (T ++ [(z, v)]) z = v := by
  unfold has at h
  unfold tv
  rw [tget_app]
  cases e : tget T z with
  | some w => rw [e] at h; cases h
  | none => simp [tget]
theorem has_snoc {T : Tab α} {z x : α} {v : Int} : has (T ++ [(z, v)]) x = true ↔ has T x = true ∨ x = z := by
  rw [has_app, has_one]
  simp only [Bool.or_eq_true, decide_eq_true_eq]
  exact ⟨fun h => h.imp id Eq.symm, fun h => h.imp id Eq.symm⟩
theorem Same.put {rows : List (Row α)} {t : α → Int} {T : Tab α} (h : Same rows t T) {a z : α} {v : Int} (ha : has T a = true) (hz : has T z = false) (hc : Conn (Any rows) a z) (hv : v - t z = tv T a - t a) : Same rows t (T ++ [(z, v)]) := by
  have key : ∀ y, has T y = true → Conn (Any rows) z y → v - t z = tv T y - t y := fun y hy c => by rw [hv]; exact h a y ha hy (hc.trans c)
  intro x y hx hy c
  rcases has_snoc.mp hx with hx' | e
  · rcases has_snoc.mp hy with hy' | e
    · rw [tv_app hx', tv_app hy']; exact h x y hx' hy' c
    · rw [e, tv_app hx', tv_new hz, key x hx' (e ▸ c.symm)]
  · rcases has_snoc.mp hy with hy' | e2
    · rw [e, tv_app hy', tv_new hz, key y hy' (e ▸ c)]
    · rw [e, e2]
theorem Same.prop1 {rows : List (Row α)} {t : α → Int} {T : Tab α} (ok : ∀ r ∈ rows, t r.one - r.dn = t r.oth - r.up) (h : Same rows t T) {r : Row α} (hr : r ∈ rows) : Same rows t (prop1 T r) := by
  have o := ok r hr
  unfold Nt.prop1
  split
  · rename_i c
    simp only [Bool.and_eq_true, Bool.not_eq_true'] at c
    exact h.put c.1 c.2 (.step (.refl _) hr rfl) (by omega)
  · split
    · rename_i c
      simp only [Bool.and_eq_true, Bool.not_eq_true'] at c
      exact h.put c.1 c.2 (.back (.refl _) hr rfl) (by omega)
    · exact h
theorem Same.pass {rows : List (Row α)} {t : α → Int} (ok : ∀ r ∈ rows, t r.one - r.dn = t r.oth - r.up) : ∀ {l : List (Row α)} {T : Tab α}, (∀ r ∈ l, r ∈ rows) → Same rows t T → Same rows t (l.foldl Nt.prop1 T)
  | [], _, _, h => h
  | r :: l, T, hl, h => Same.pass ok (l := l) (fun q hq => hl q (List.mem_cons_of_mem _ hq)) (h.prop1 ok (hl r List.mem_cons_self))
theorem closed_of {rows : List (Row α)} {T : Tab α} (h : pass rows T = T) : Closed rows T := by
  have fixed : ∀ (l : List (Row α)), l.foldl prop1 T = T → ∀ q ∈ l, prop1 T q = T := by
    intro l
    induction l with
    | nil => intro _ q hq; cases hq
    | cons p l ihl =>
      intro e q hq
      rw [List.foldl_cons] at e
      have hp : prop1 T p = T := by
        obtain ⟨u, hu⟩ := prop1_ext T p
        obtain ⟨v, hv⟩ := foldl_ext l (prop1 T p)
        rw [hv, hu] at e
        have := congrArg List.length e
        simp only [List.length_append] at this
        have : u = [] := List.length_eq_zero_iff.mp (by omega)
        rw [hu, this, List.append_nil]
      rcases List.mem_cons.mp hq with rfl | hq
      · exact hp
      · rw [hp] at e
        exact ihl e q hq
  intro r hr
  have hp := fixed rows h r hr
  unfold prop1 at hp
  split at hp
  · have := congrArg List.length hp
    simp at this
  · rename_i c1
    split at hp
    · have := congrArg List.length hp
      simp at this
    · rename_i c2
      simp only [Bool.and_eq_true, Bool.not_eq_true', not_and, Bool.not_eq_false] at c1 c2
      exact ⟨c1, c2⟩
theorem Same.iter {rows : List (Row α)} {t : α → Int} (ok : ∀ r ∈ rows, t r.one - r.dn = t r.oth - r.up) : ∀ (n : Nat) {T : Tab α}, Same rows t T → Same rows t (iter (Nt.pass rows) n T)
  | 0, _, h => h
  | n + 1, _, h => Same.iter ok n (Same.pass ok (fun _ h => h) h)
theorem Same.levels {rows : List (Row α)} {t : α → Int} (ok : ∀ r ∈ rows, t r.one - r.dn = t r.oth - r.up) : Same rows t (levels rows) := by
  have key : ∀ (l : List (Row α)) (T : Tab α), (∀ r ∈ l, r ∈ rows) → Same rows t T → Closed rows T → Same rows t (l.foldl (fun T r => Nt.iter (Nt.pass rows) rows.length (enter T r)) T) := by
    intro l
    induction l with
    | nil => intro T _ h _; exact h
    | cons r l ih =>
      intro T hl h hc
      rw [List.foldl_cons]
      refine ih _ (fun q hq => hl q (List.mem_cons_of_mem _ hq)) (Same.iter ok _ ?_) (closed_of (iter_stable rows _))
      unfold enter
      split
      · rename_i c
        simp only [Bool.and_eq_true, Bool.not_eq_true'] at c
        have no : ∀ y, has T y = true → ¬ Conn (Any rows) r.one y := fun y hy x => by
          have := Conn.closed (S := fun z => has T z = true) hc x.symm hy
          rw [c.1] at this
          cases this
        intro x y hx hy x'
        rcases has_snoc.mp hx with hx1 | e
        · rcases has_snoc.mp hy with hy1 | e
          · rw [tv_app hx1, tv_app hy1]; exact h x y hx1 hy1 x'
          · exact absurd (e ▸ x'.symm) (no x hx1)
        · rcases has_snoc.mp hy with hy1 | e2
          · exact absurd (e ▸ x') (no y hy1)
          · rw [e, e2]
      · exact h
  exact key rows [] (fun _ h => h) (fun x y hx => by cases hx) fun r _ => (Iff.of_eq (by rfl) : has ([] : Tab α) r.one = true ↔ has ([] : Tab α) r.oth = true)
/-- who is joined by the table is joined by the generations -/
theorem conn_shift {rows : List (Row α)} {t : α → Int} {T : Tab α} (hs : Same rows t T) (hb : ∀ r ∈ rows, both T r = true) {l : Int} {a b : α} (ha : has T a = true) (x : Conn (Meets rows T l) a b) : Conn (MeetsF rows t (l - (tv T a - t a))) a b := by
  have all : ∀ {b}, Conn (Meets rows T l) a b → Conn (Any rows) a b := fun x => x.mono fun r hr => hr.1
  induction x with
  | refl => exact .refl a
  | step x he e ih =>
    rename_i b r
    have hbr := hb r he.1
    unfold both at hbr
    simp only [Bool.and_eq_true] at hbr
    have d := hs a r.one ha hbr.1 (by rw [e]; exact all x)
    exact .step ih ⟨he.1, by have := he.2; omega⟩ e
  | back x he e ih =>
    rename_i b r
    have hbr := hb r he.1
    unfold both at hbr
    simp only [Bool.and_eq_true] at hbr
    have d := hs a r.one ha hbr.1 ((all x).trans (by rw [← e]; exact .back (.refl _) he.1 rfl))
    exact .back ih ⟨he.1, by have := he.2; omega⟩ e
theorem conn_out {rows : List (Row α)} {E : Row α → Prop} (hE : ∀ r, E r → r ∈ rows) {a b : α} (ha : ∀ r ∈ rows, r.one ≠ a ∧ r.oth ≠ a) (x : Conn E a b) : b = a := by
  induction x with
  | refl => rfl
  | step x he e ih => exact absurd (e.trans ih) (ha _ (hE _ he)).1
  | back x he e ih => exact absurd (e.trans ih) (ha _ (hE _ he)).2
theorem fit_iff (rows : List (Row α)) : Fit rows (levels rows) ↔ ∃ t, FitF rows t := by
  constructor
  · rintro ⟨h1, h2, h3⟩
    refine ⟨tv (levels rows), fun r hr => of_decide_eq_true (List.all_eq_true.mp h1 r hr), h2, fun a b hne he x => ?_⟩
    by_cases ha : has (levels rows) a = true
    · exact h3 a b ha (conn_has (levels_both rows) x ha) hne he x
    · refine hne (conn_out (rows := rows) (fun r hr => hr.1) (fun r hr => ?_) x).symm
      have := levels_both rows r hr
      unfold both at this
      simp only [Bool.and_eq_true] at this
      exact ⟨fun e => ha (e ▸ this.1), fun e => ha (e ▸ this.2)⟩
  · rintro ⟨t, h1, h2, h3⟩
    have hs := Same.levels (rows := rows) h1
    have hb : ∀ r ∈ rows, has (levels rows) r.one = true ∧ has (levels rows) r.oth = true := fun r hr => by
      have := levels_both rows r hr
      unfold both at this
      simpa using this
    refine ⟨List.all_eq_true.mpr fun r hr => decide_eq_true ?_, fun r hr x => ?_, fun a b ha hb' hne he x => ?_⟩
    · have := hs r.one r.oth (hb r hr).1 (hb r hr).2 (.step (.refl _) hr rfl)
      have := h1 r hr
      omega
    · have := conn_shift hs (levels_both rows) (hb r hr).1 x
      have e : tv (levels rows) r.one - r.dn + 1 - (tv (levels rows) r.one - t r.one) = t r.one - r.dn + 1 := by omega
      rw [e] at this
      exact h2 r hr this
    · have c := conn_shift hs (levels_both rows) ha x
      have d := hs a b ha hb' (x.mono fun r hr => hr.1)
      have e : tv (levels rows) a - (tv (levels rows) a - t a) = t a := by omega
      rw [e] at c
      exact h3 a b hne (by omega) c
end
end Nt

/-! Nd1: from data to plain functions: loops by an invariant; what the operators give on what kind of data. -/
namespace Pd
open PySem PySem.Spec PyProof.Rows L2
section
variable {S τ : Type} {g : D → Env → Option Env} {sb : SF} {enc : τ → D}
/-- a for loop that runs through -/
theorem forL_nx (I : S → Env → Prop) (step : S → τ → S) : ∀ (xs : List τ) (s : S) (ρ : Env), I s ρ →
    (∀ x ∈ xs, ∀ s ρ, I s ρ → ∃ ρ1 ρ2, g (enc x) ρ = some ρ1 ∧ sb ρ1 = .nx ρ2 ∧ I (step s x) ρ2) → ∃ ρ', forL g sb (xs.map enc) ρ = .nx ρ' ∧ I (xs.foldl step s) ρ'
  | [], s, ρ, h, _ => ⟨ρ, rfl, h⟩
  | x :: xs, s, ρ, h, k => by
    obtain ⟨ρ1, ρ2, e1, e2, h2⟩ := k x List.mem_cons_self s ρ h
    obtain ⟨ρ', e3, h3⟩ := forL_nx I step xs (step s x) ρ2 h2 fun y hy => k y (List.mem_cons_of_mem _ hy)
    refine ⟨ρ', ?_, h3⟩
    rw [List.map_cons, forL, e1]
    simp only [e2]
    exact e3
/-- .. that may return d at an item -/
theorem forL_any (I : Env → Prop) (p : τ → Bool) (d : D) (f : Bool) : ∀ (xs : List τ) (ρ : Env), I ρ →
    (∀ x ∈ xs, ∀ ρ, I ρ → ∃ ρ1, g (enc x) ρ = some ρ1 ∧ if p x = true then sb ρ1 = .rt d f else ∃ ρ2, sb ρ1 = .nx ρ2 ∧ I ρ2) →
    if xs.any p = true then forL g sb (xs.map enc) ρ = .rt d f else ∃ ρ', forL g sb (xs.map enc) ρ = .nx ρ' ∧ I ρ'
  | [], ρ, h, _ => by
    simp only [List.any_nil, Bool.false_eq_true, if_false]
    exact ⟨ρ, rfl, h⟩
  | x :: xs, ρ, h, k => by
    obtain ⟨ρ1, e1, h1⟩ := k x List.mem_cons_self ρ h
    rw [List.map_cons, forL, e1, List.any_cons]
    cases hp : p x with
    | true =>
      rw [hp, if_pos rfl] at h1
      simp only [Bool.true_or, if_true, h1]
    | false =>
      rw [hp] at h1
      simp only [Bool.false_eq_true, if_false] at h1
      obtain ⟨ρ2, e2, h2⟩ := h1
      simp only [Bool.false_or, e2]
      exact forL_any I p d f xs ρ2 h2 fun y hy => k y (List.mem_cons_of_mem _ hy)
end
/-! ### texts in lists -/
abbrev LS (xs : List Str) : D := .lst (xs.map .str)
theorem any_str (xs : List Str) (x : Str) : ((xs.map D.str).any fun z => eqv z (.str x)) = xs.contains x := by
  induction xs with
  | nil => rfl
  | cons y ys ih =>
    rw [List.map_cons, List.any_cons, ih, List.contains_cons]
    congr 1
    show strEq y x = _
    rw [strEq_dec, Bool.eq_iff_iff]
    simp only [decide_eq_true_eq, beq_iff_eq]
    exact eq_comm
theorem ok_strs {xs : List Str} (h : ∀ x ∈ xs, okS x = true) (n : Nat) : okN (n + 1) (LS xs) = true := by
  show (xs.map D.str).all (okN n) = true
  rw [List.all_map, List.all_eq_true]
  intro x hx
  have : okN n (.str x) = okS x := by cases n <;> rfl
  show okN n (.str x) = true
  rw [this]
  exact h x hx
theorem in_strs {xs : List Str} {x : Str} (hx : okS x = true) (h : ∀ x ∈ xs, okS x = true) : gIn (.str x) (LS xs) = .ok (.bl (xs.contains x), false) := by
  have e : inD (.str x) (LS xs) = if okN 64 (.str x) && okN 64 (LS xs) then .ok ((xs.map D.str).any fun z => eqv z (.str x)) else .st := rfl
  unfold gIn
  rw [e, ok_strs h 63, show okN 64 (.str x) = true from hx, any_str]
  rfl
theorem notIn_strs {xs : List Str} {x : Str} (hx : okS x = true) (h : ∀ x ∈ xs, okS x = true) : gNotIn (.str x) (LS xs) = .ok (.bl (!xs.contains x), false) := by
  have e : inD (.str x) (LS xs) = if okN 64 (.str x) && okN 64 (LS xs) then .ok ((xs.map D.str).any fun z => eqv z (.str x)) else .st := rfl
  unfold gNotIn
  rw [e, ok_strs h 63, show okN 64 (.str x) = true from hx, any_str]
  rfl
end Pd

/-! Nd2: tables of texts and numbers, rows. -/
namespace Pd
open PySem PySem.Spec PyProof.Rows L2 Nt
abbrev TD (t : Tab Str) : D := .dic false (t.map fun p => (.str p.1, .int p.2))
abbrev RD (r : Row Str) : D := .tup [.str r.one, .int r.up, .int r.dn, .str r.oth]
abbrev RsD (rows : List (Row Str)) : D := .lst (rows.map RD)
theorem keq_str (a b : Str) : keq (.str a) (.str b) = decide (a = b) := strEq_dec a b
theorem dGet_tab (t : Tab Str) (x : Str) : dGet (t.map fun p => (D.str p.1, D.int p.2)) (.str x) = (tget t x).map .int := by
  induction t with
  | nil => rfl
  | cons p t ih =>
    obtain ⟨y, v⟩ := p
    rw [List.map_cons, dGet, keq_str]
    unfold tget
    by_cases e : y = x
    · simp [e]
    · simp only [e, decide_false, Bool.false_eq_true, if_false]
      exact ih
theorem okKey_str (x : Str) : okKey false (.str x) = true := rfl
theorem ix_tab {t : Tab Str} {x : Str} (h : has t x = true) : gIx (TD t) (.str x) = .ok (.int (tv t x), false) := by
  show (if okKey false (.str x) = true then (match dGet (t.map fun p => (D.str p.1, D.int p.2)) (.str x) with | some d => R.ok (d, false) | none => .st) else .st) = _
  rw [okKey_str, if_pos rfl, dGet_tab]
  unfold has at h
  unfold tv
  cases e : tget t x with
  | none => rw [e] at h; cases h
  | some v => rfl
theorem in_tab (t : Tab Str) (x : Str) : gIn (.str x) (TD t) = .ok (.bl (has t x), false) := by
  have e : inD (.str x) (TD t) = if okKey false (.str x) then .ok (dGet (t.map fun p => (D.str p.1, D.int p.2)) (.str x)).isSome else .st := rfl
  unfold gIn
  rw [e, okKey_str, if_pos rfl, dGet_tab]
  unfold has
  cases tget t x <;> rfl
theorem notIn_tab (t : Tab Str) (x : Str) : gNotIn (.str x) (TD t) = .ok (.bl (!has t x), false) := by
  have e : inD (.str x) (TD t) = if okKey false (.str x) then .ok (dGet (t.map fun p => (D.str p.1, D.int p.2)) (.str x)).isSome else .st := rfl
  unfold gNotIn
  rw [e, okKey_str, if_pos rfl, dGet_tab]
  unfold has
  cases tget t x <;> rfl
/-- a new key -/
theorem put_tab {t : Tab Str} {x : Str} (h : has t x = false) (v : Int) : dPut (t.map fun p => (D.str p.1, D.int p.2)) (.str x) (.int v) = (t ++ [(x, v)]).map fun p => (D.str p.1, D.int p.2) := by
  have e : (t.map fun p => (D.str p.1, D.int p.2)).any (fun p => keq p.1 (.str x)) = has t x := by
    clear h
    induction t with
    | nil => rfl
    | cons p t ih =>
      obtain ⟨y, w⟩ := p
      rw [List.map_cons, List.any_cons, ih]
      show (keq (.str y) (.str x) || has t x) = has ((y, w) :: t) x
      rw [keq_str]
      unfold has
      by_cases e : y = x
      · simp [tget, e]
      · simp [tget, e]
  unfold dPut
  rw [e, h]
  simp
end Pd

/-! Rn1: running what is generated: symbolic steps; lists of encoded things. -/
namespace Pd
open PySem PySem.Spec PyProof.Rows L2

/-- the steps, as rules -/
theorem RUN :
    (∀ s t ρ, sSeq s t ρ = match s ρ with | .nx ρ' => t ρ' | .rt d f => .rt d f | .ex c => .ex c | .st => .st) ∧
    (∀ c s t ρ, sIf c s t ρ = match c ρ with | .ok b => if b then s ρ else t ρ | .ex c => .ex c | .st => .st) ∧
    (∀ i f ρ, sSet i f ρ = match f ρ with | .ok x => .nx (ρ.set i (some (x.1, false))) | .ex c => .ex c | .st => .st) ∧
    (∀ i f ρ, sOwn i f ρ = match f ρ with | .ok (d, true) => .nx (ρ.set i (some (d, true))) | .ok (_, false) => .st | .ex c => .ex c | .st => .st) ∧
    (∀ f ρ, sRet f ρ = match f ρ with | .ok (d, g) => .rt d g | .ex c => .ex c | .st => .st) ∧
    (∀ i ρ, sRetV i ρ = match ρ[i]? with | some (some (d, f)) => .rt d f | _ => .st) ∧
    (∀ ρ, sNil ρ = .nx ρ) ∧
    (∀ g f ρ, sAsg g f ρ = match f ρ with | .ok x => (match g x.1 ρ with | some ρ' => .nx ρ' | none => .st) | .ex c => .ex c | .st => .st) ∧
    (∀ i j fa fb ρ, sPar i j fa fb ρ = match fa ρ with | .ok x => (match fb ρ with | .ok y => .nx ((ρ.set i (some (x.1, false))).set j (some (y.1, false))) | .ex c => .ex c | .st => .st) | .ex c => .ex c | .st => .st) ∧
    (∀ i j fa fb ρ, sParO i j fa fb ρ = match fa ρ with | .ok (d, true) => (match fb ρ with | .ok y => .nx ((ρ.set i (some (d, true))).set j (some (y.1, false))) | .ex c => .ex c | .st => .st) | .ok (_, false) => .st | .ex c => .ex c | .st => .st) ∧
    (∀ i j fa fb ρ, sParP i j fa fb ρ = match fa ρ with | .ok x => (match fb ρ with | .ok (d, true) => .nx ((ρ.set i (some (x.1, false))).set j (some (d, true))) | .ok (_, false) => .st | .ex c => .ex c | .st => .st) | .ex c => .ex c | .st => .st) ∧
    (∀ g fa fb ρ, fOp g fa fb ρ = (fa ρ).bind fun x => (fb ρ).bind fun y => g x.1 y.1) ∧
    (∀ f ρ, fY f ρ = (f ρ).bind toB) ∧
    (∀ f ρ, fNotT f ρ = (f ρ).bind fun b => .ok (!b)) ∧
    (∀ f g ρ, fAndT f g ρ = (f ρ).bind fun b => if b then g ρ else .ok false) ∧
    (∀ f g ρ, fOrT f g ρ = (f ρ).bind fun b => if b then .ok true else g ρ) ∧
    (∀ t f g ρ, fIf t f g ρ = (t ρ).bind fun b => if b then f ρ else g ρ) ∧
    (∀ g f ρ, fCall g f ρ = (f ρ).bind g) ∧
    (∀ f g ρ, fCons f g ρ = (f ρ).bind fun x => (g ρ).bind fun xs => .ok (x.1 :: xs)) ∧
    (∀ ρ, fNil ρ = .ok []) ∧
    (∀ g ρ, fTup g ρ = (g ρ).bind fun ds => if ds.length ≤ CAP then .ok (.tup ds, false) else .st) ∧
    (∀ g ρ, fLst g ρ = (g ρ).bind fun ds => if ds.length ≤ CAP then .ok (.lst ds, true) else .st) ∧
    (∀ i ρ, eVar i ρ = match ρ[i]? with | some (some (d, false)) => .ok (d, false) | _ => .st) ∧
    (∀ d ρ, eC d ρ = .ok (d, false)) ∧
    (∀ k f ρ, fIt k f ρ = (f ρ).bind fun x => k x.1) ∧
    (∀ f ρ, fPeekB f ρ = f (unown ρ)) ∧
    (∀ f ρ, fPeek f ρ = match f (unown ρ) with | .ok (d, false) => (if imm d then .ok (d, false) else .st) | .ok (.lst ds, true) => (if immL ds then .ok (.lst ds, true) else .st) | .ok _ => .st | .ex c => .ex c | .st => .st) ∧
    (unown [] = []) ∧ (∀ x ρ, unown (x :: ρ) = x.map (fun p => (p.1, false)) :: unown ρ) ∧ (∀ (x : D × Bool) (f : D × Bool → D × Bool), Option.map f (some x) = some (f x)) ∧ (∀ (f : D × Bool → D × Bool), Option.map f none = none) ∧
    (∀ (α β : Type) (x : α) (f : α → R β), (R.ok x).bind f = f x) ∧ (∀ (α β : Type) (f : α → R β), R.bind (R.st : R α) f = R.st) ∧
    (∀ b f, toB (.bl b, f) = .ok b) ∧
    (∀ i d ρ, gN i d ρ = some (ρ.set i (some (d, false)))) ∧
    (∀ is ds ρ, gT is (.tup ds) ρ = gNs is ds ρ) ∧ (∀ ρ, gNs [] [] ρ = some ρ) ∧ (∀ i is d ds ρ, gNs (i :: is) (d :: ds) ρ = gNs is ds (ρ.set i (some (d, false)))) ∧
    (∀ xs, seqA (.lst xs) = .ok xs) ∧ (∀ xs, seqA (.tup xs) = .ok xs) ∧
    (∀ a b, gSub (.int a) (.int b) = .ok (.int (a - b), false)) ∧ (∀ a b, gAdd (.int a) (.int b) = .ok (.int (a + b), false)) ∧
    (∀ a b, gLt (.int a) (.int b) = .ok (.bl (decide (a < b)), false)) ∧ (∀ a b, gLe (.int a) (.int b) = .ok (.bl (decide (a ≤ b)), false)) ∧
    (∀ x y, gGt x y = gLt y x) ∧ (∀ x y, gGe x y = gLe y x) ∧
    (∀ a b, gEq (.int a) (.int b) = .ok (.bl (decide (a = b)), false)) ∧ (∀ a b, gNe (.int a) (.int b) = .ok (.bl (!decide (a = b)), false)) ∧
    ([] : List D).length = 0 ∧ (∀ (x : D) l, (x :: l).length = l.length + 1) ∧ (0 + 1 ≤ CAP) = True ∧ (0 ≤ CAP) = True ∧ (1 ≤ CAP) = True ∧ (2 ≤ CAP) = True ∧ (3 ≤ CAP) = True ∧ (4 ≤ CAP) = True ∧ (5 ≤ CAP) = True ∧ (6 ≤ CAP) = True ∧ (7 ≤ CAP) = True ∧ (8 ≤ CAP) = True ∧ 0 + 1 = 1 ∧ 1 + 1 = 2 ∧ 2 + 1 = 3 ∧ 3 + 1 = 4 ∧ 4 + 1 = 5 ∧ 5 + 1 = 6 ∧ 6 + 1 = 7 ∧ 7 + 1 = 8 ∧
    (∀ ρ, wipeE ρ [] = ρ) ∧ (∀ ρ v vs, wipeE ρ (v :: vs) = (wipeE ρ vs).set v none) ∧
    (∀ b c : Bool, (if b = true then R.ok c else R.ok false) = R.ok (b && c)) ∧ (∀ b c : Bool, (if b = true then R.ok true else R.ok c) = R.ok (b || c)) ∧ (∀ i, imm (.int i) = true) ∧ (∀ i, imm (.str i) = true) ∧ (∀ i, imm (.bl i) = true) ∧
    (∀ b, (b && true) = b) ∧ (∀ b, (true && b) = b) ∧ (∀ b, (b && false) = false) ∧ (∀ b, (false && b) = false) ∧ (∀ b, (b || true) = true) ∧ (∀ b, (true || b) = true) ∧ (∀ b, (b || false) = b) ∧ (∀ b, (false || b) = b) ∧ (!true) = false ∧ (!false) = true ∧
    (false = true) = False ∧ (true = true) = True ∧ (∀ (α : Type) (x y : α), (if True then x else y) = x) ∧ (∀ (α : Type) (x y : α), (if False then x else y) = y) ∧ decide True = true ∧ decide False = false ∧
    (∀ (x : Option (D × Bool)) l, (x :: l)[0]? = some x) ∧ (∀ (x : Option (D × Bool)) l i, (x :: l)[i + 1]? = l[i]?) ∧
    (∀ (x y : Option (D × Bool)) l, (x :: l).set 0 y = y :: l) ∧ (∀ (x y : Option (D × Bool)) l i, (x :: l).set (i + 1) y = x :: l.set i y) := by
  refine ⟨fun _ _ _ => rfl, fun _ _ _ _ => rfl, fun _ _ _ => rfl, fun _ _ _ => rfl, fun _ _ => rfl, fun _ _ => rfl, fun _ => rfl, fun _ _ _ => rfl, fun _ _ _ _ _ => rfl, fun _ _ _ _ _ => rfl, fun _ _ _ _ _ => rfl, fun _ _ _ _ => rfl, fun _ _ => rfl, fun _ _ => rfl, fun _ _ _ => rfl, fun _ _ _ => rfl,
    fun _ _ _ _ => rfl, fun _ _ _ => rfl, fun _ _ _ => rfl, fun _ => rfl, fun _ _ => rfl, fun _ _ => rfl, fun _ _ => rfl, fun _ _ => rfl, fun _ _ _ => rfl, fun _ _ => rfl, fun _ _ => rfl, rfl, fun _ _ => rfl, fun _ _ => rfl, fun _ => rfl, fun _ _ _ _ => rfl, fun _ _ _ => rfl, fun _ _ => rfl, fun _ _ _ => rfl,
    fun _ _ _ => rfl, fun _ => rfl, fun _ _ _ _ _ => rfl, fun _ => rfl, fun _ => rfl, fun _ _ => rfl, fun _ _ => rfl, fun _ _ => rfl, fun _ _ => rfl, fun _ _ => rfl, fun _ _ => rfl,
    fun _ _ => rfl, fun _ _ => rfl, rfl, fun _ _ => rfl, eq_true (by decide), eq_true (by decide), eq_true (by decide), eq_true (by decide), eq_true (by decide), eq_true (by decide), eq_true (by decide), eq_true (by decide), eq_true (by decide), eq_true (by decide), rfl, rfl, rfl, rfl, rfl, rfl, rfl, rfl,
    fun _ => rfl, fun _ _ _ => rfl, fun b c => by cases b <;> rfl, fun b c => by cases b <;> rfl, fun _ => rfl, fun _ => rfl, fun _ => rfl, fun b => by cases b <;> rfl, fun b => by cases b <;> rfl, fun b => by cases b <;> rfl, fun b => by cases b <;> rfl, fun b => by cases b <;> rfl, fun b => by cases b <;> rfl, fun b => by cases b <;> rfl, fun b => by cases b <;> rfl, rfl, rfl,
    by simp, by simp, fun _ _ _ => if_pos trivial, fun _ _ _ => if_neg id, rfl, rfl, fun _ _ => rfl, fun _ _ _ => rfl, fun _ _ _ => rfl, fun _ _ _ _ => rfl⟩

/-! ### comprehensions -/
section
variable {τ : Type} {g : D → Env → Option Env} {ft : Env → R Bool} {fe : EF} {enc : τ → D} {ρ : Env} {p : τ → Bool} {f : τ → D}
theorem lcL_map : ∀ (xs : List τ), (∀ x ∈ xs, ∃ ρ1, g (enc x) ρ = some ρ1 ∧ ft ρ1 = .ok (p x) ∧ (p x = true → ∃ b, fe ρ1 = .ok (f x, b))) → lcL g ft fe ρ (xs.map enc) = .ok ((xs.filter p).map f)
  | [], _ => rfl
  | x :: xs, h => by
    obtain ⟨ρ1, e1, e2, e3⟩ := h x List.mem_cons_self
    have ih := lcL_map xs fun y hy => h y (List.mem_cons_of_mem _ hy)
    rw [List.map_cons, lcL, e1]
    simp only [e2]
    cases c : p x with
    | true =>
      obtain ⟨b, e3⟩ := e3 c
      simp only [e3, ih, List.filter_cons, c, if_true, List.map_cons]
    | false => simp only [ih, List.filter_cons, c, Bool.false_eq_true, if_false]
theorem fLc_map {fi : Env → R (List D)} {vs : List Nat} {ρ0 : Env} {xs : List τ} (hi : fi ρ0 = .ok (xs.map enc)) (h : ∀ x ∈ xs, ∃ ρ1, g (enc x) (wipeE ρ0 vs) = some ρ1 ∧ ft ρ1 = .ok (p x) ∧ (p x = true → ∃ b, fe ρ1 = .ok (f x, b))) (hl : xs.length ≤ CAP) :
    fLc fi g ft fe vs ρ0 = .ok (.lst ((xs.filter p).map f), true) := by
  unfold fLc
  rw [hi]
  simp only [lcL_map xs h]
  rw [if_pos]
  rw [List.length_map]
  exact Nat.le_trans (List.length_filter_le _ _) hl
/-- .. without a test -/
theorem fLc_all {fi : Env → R (List D)} {vs : List Nat} {ρ0 : Env} {xs : List τ} (hi : fi ρ0 = .ok (xs.map enc)) (h : ∀ x ∈ xs, ∃ ρ1 b, g (enc x) (wipeE ρ0 vs) = some ρ1 ∧ fe ρ1 = .ok (f x, b)) (hl : xs.length ≤ CAP) :
    fLc fi g fYes fe vs ρ0 = .ok (.lst (xs.map f), true) := by
  have := fLc_map (p := fun _ => true) (ft := fYes) (f := f) hi (fun x hx => by obtain ⟨ρ1, b, e1, e2⟩ := h x hx; exact ⟨ρ1, e1, rfl, fun _ => ⟨b, e2⟩⟩) hl
  rwa [List.filter_eq_self.mpr (fun _ _ => rfl)] at this
end
/-! ### lists of encoded things -/
section
variable {τ : Type} [DecidableEq τ] {enc : τ → D}
theorem any_enc (x : τ) (xs : List τ) (hi : ∀ y ∈ xs, eqv (enc y) (enc x) = decide (y = x)) : ((xs.map enc).any fun z => eqv z (enc x)) = decide (x ∈ xs) := by
  induction xs with
  | nil => rfl
  | cons y ys ih =>
    rw [List.map_cons, List.any_cons, ih fun z hz => hi z (List.mem_cons_of_mem _ hz), hi y List.mem_cons_self]
    rw [Bool.eq_iff_iff]
    simp only [Bool.or_eq_true, decide_eq_true_eq, List.mem_cons]
    exact ⟨fun h => h.imp Eq.symm id, fun h => h.imp Eq.symm id⟩
theorem ok_enc {n : Nat} {xs : List τ} (h : ∀ y ∈ xs, okN n (enc y) = true) : okN (n + 1) (.lst (xs.map enc)) = true := by
  show (xs.map enc).all (okN n) = true
  rw [List.all_map, List.all_eq_true]
  exact h
theorem in_enc {x : τ} {xs : List τ} (hx : okN 63 (enc x) = true) (h : ∀ y ∈ xs, okN 63 (enc y) = true) (hi : ∀ y ∈ xs, eqv (enc y) (enc x) = decide (y = x)) : gIn (enc x) (.lst (xs.map enc)) = .ok (.bl (decide (x ∈ xs)), false) := by
  have e : inD (enc x) (.lst (xs.map enc)) = if okN 64 (enc x) && okN 64 (.lst (xs.map enc)) then .ok ((xs.map enc).any fun z => eqv z (enc x)) else .st := rfl
  unfold gIn
  rw [e, ok_enc h, okN_up 63 _ hx, any_enc x xs hi]
  rfl
theorem notIn_enc {x : τ} {xs : List τ} (hx : okN 63 (enc x) = true) (h : ∀ y ∈ xs, okN 63 (enc y) = true) (hi : ∀ y ∈ xs, eqv (enc y) (enc x) = decide (y = x)) : gNotIn (enc x) (.lst (xs.map enc)) = .ok (.bl (!decide (x ∈ xs)), false) := by
  have e : inD (enc x) (.lst (xs.map enc)) = if okN 64 (enc x) && okN 64 (.lst (xs.map enc)) then .ok ((xs.map enc).any fun z => eqv z (enc x)) else .st := rfl
  unfold gNotIn
  rw [e, ok_enc h, okN_up 63 _ hx, any_enc x xs hi]
  rfl
theorem eqvL_enc : ∀ (xs ys : List τ), (∀ x ∈ xs, ∀ y ∈ ys, eqv (enc x) (enc y) = decide (x = y)) → eqvL (xs.map enc) (ys.map enc) = decide (xs = ys)
  | [], [], _ => by simp [eqvL]
  | [], _ :: _, _ => by simp [eqvL]
  | _ :: _, [], _ => by simp [eqvL]
  | x :: xs, y :: ys, h => by
    simp only [List.map_cons, eqvL, h x List.mem_cons_self y List.mem_cons_self, eqvL_enc xs ys fun a ha b hb => h a (List.mem_cons_of_mem _ ha) b (List.mem_cons_of_mem _ hb), List.cons.injEq, Bool.decide_and]
theorem eq_enc {xs ys : List τ} (h1 : ∀ y ∈ xs, okN 63 (enc y) = true) (h2 : ∀ y ∈ ys, okN 63 (enc y) = true) (hi : ∀ x ∈ xs, ∀ y ∈ ys, eqv (enc x) (enc y) = decide (x = y)) : gEq (.lst (xs.map enc)) (.lst (ys.map enc)) = .ok (.bl (decide (xs = ys)), false) := by
  unfold gEq
  rw [ok_enc h1, ok_enc h2]
  show R.ok (D.bl (eqvL (xs.map enc) (ys.map enc)), false) = _
  rw [eqvL_enc xs ys hi]
theorem ne_enc {xs ys : List τ} (h1 : ∀ y ∈ xs, okN 63 (enc y) = true) (h2 : ∀ y ∈ ys, okN 63 (enc y) = true) (hi : ∀ x ∈ xs, ∀ y ∈ ys, eqv (enc x) (enc y) = decide (x = y)) : gNe (.lst (xs.map enc)) (.lst (ys.map enc)) = .ok (.bl (!decide (xs = ys)), false) := by
  unfold gNe
  rw [ok_enc h1, ok_enc h2]
  show R.ok (D.bl (!eqvL (xs.map enc) (ys.map enc)), false) = _
  rw [eqvL_enc xs ys hi]
theorem ins_enc {le : τ → τ → Bool} (x : τ) : ∀ (xs : List τ), (∀ y ∈ xs, leD (enc x) (enc y) = le x y) → ins leD (enc x) (xs.map enc) = (ins le x xs).map enc
  | [], _ => rfl
  | y :: ys, h => by
    rw [List.map_cons, ins, ins, h y List.mem_cons_self]
    cases le x y with
    | true => rfl
    | false =>
      simp only [Bool.false_eq_true, if_false, List.map_cons]
      rw [ins_enc x ys fun z hz => h z (List.mem_cons_of_mem _ hz)]
theorem isort_enc {le : τ → τ → Bool} : ∀ (xs : List τ), (∀ x ∈ xs, ∀ y ∈ xs, leD (enc x) (enc y) = le x y) → isort leD (xs.map enc) = (isort le xs).map enc
  | [], _ => rfl
  | x :: xs, h => by
    rw [List.map_cons, isort, isort, isort_enc xs fun a ha b hb => h a (List.mem_cons_of_mem _ ha) b (List.mem_cons_of_mem _ hb)]
    exact ins_enc x _ fun y hy => h x List.mem_cons_self y (List.mem_cons_of_mem _ (isort_mem hy))
theorem canSort_enc {xs : List τ} (h1 : ∀ x ∈ xs, okN 63 (enc x) = true) (h2 : ∀ x ∈ xs, ∀ y ∈ xs, alk (enc x) (enc y) = true) (h3 : (∀ x ∈ xs, tupNE (enc x) = true) ∨ ∀ x ∈ xs, noTup (enc x) = true) : canSort (xs.map enc) = true := by
  unfold canSort
  simp only [List.all_map, Bool.and_eq_true, Bool.or_eq_true, List.all_eq_true, Function.comp]
  exact ⟨h1, .inr ⟨h2, h3⟩⟩
theorem sort_enc {le : τ → τ → Bool} {xs : List τ} (h1 : ∀ x ∈ xs, okN 63 (enc x) = true) (h2 : ∀ x ∈ xs, ∀ y ∈ xs, alk (enc x) (enc y) = true) (h3 : (∀ x ∈ xs, tupNE (enc x) = true) ∨ ∀ x ∈ xs, noTup (enc x) = true) (h4 : ∀ x ∈ xs, ∀ y ∈ xs, leD (enc x) (enc y) = le x y) :
    gSortX [.lst (xs.map enc)] = .ok (.lst ((isort le xs).map enc), true) := by
  rw [sortX_lst (canSort_enc h1 h2 h3), isort_enc xs h4]
end
/-! ### at a place -/
theorem atI_nat {α : Type} (l : List α) (i : Nat) : L2.atI l (i : Int) = l[i]? := by
  unfold L2.atI L2.ixN
  by_cases h : i < l.length
  · rw [if_pos (by omega), if_pos (by omega), Int.toNat_natCast]
    rfl
  · rw [if_pos (by omega), if_neg (by omega)]
    rw [List.getElem?_eq_none (by omega)]
    rfl
theorem ix_nat {ds : List D} {i : Nat} {d : D} (h : ds[i]? = some d) : gIx (.lst ds) (.int (i : Int)) = .ok (d, false) := by
  simp only [gIx, atI_nat, h]
theorem ixT_nat {ds : List D} {i : Nat} {d : D} (h : ds[i]? = some d) : gIx (.tup ds) (.int (i : Int)) = .ok (d, false) := by
  simp only [gIx, atI_nat, h]
/-- ints in lists -/
abbrev LI (xs : List Int) : D := .lst (xs.map .int)
def dg (l : List Int) (i : Int) : Int := l.getD i.toNat 0
theorem ix_dg {l : List Int} {i : Int} (h0 : 0 ≤ i) (h1 : i < l.length) : gIx (LI l) (.int i) = .ok (.int (dg l i), false) := by
  obtain ⟨n, rfl⟩ := Int.eq_ofNat_of_zero_le h0
  refine ix_nat ?_
  rw [List.getElem?_map]
  unfold dg
  rw [Int.toNat_natCast, List.getD_eq_getElem?_getD]
  have hn : n < l.length := by omega
  rw [List.getElem?_eq_getElem hn]
  rfl
theorem dg_range {l : List Int} {b : Int} (hb : 0 < b) (h : ∀ z ∈ l, 0 ≤ z ∧ z < b) (i : Int) : 0 ≤ dg l i ∧ dg l i < b := by
  unfold dg
  rw [List.getD_eq_getElem?_getD]
  cases e : l[i.toNat]? with
  | none => exact ⟨Int.le_refl 0, hb⟩
  | some z => exact h z (List.mem_of_getElem? e)
/-! ### ranges -/
theorem rngD_map (lo : Int) (n : Nat) : rngD lo 1 n = ((List.range n).map fun i : Nat => lo + i).map D.int := by
  unfold rngD
  rw [List.map_map]
  refine List.map_congr_left fun i _ => ?_
  show D.int (lo + i * 1) = D.int (lo + i)
  rw [Int.mul_one]
theorem gR1_int {j : Int} (h0 : 0 ≤ j) (h1 : j ≤ 1000000) : gR1 [.int j] = .ok (((List.range j.toNat).map fun i : Nat => (i : Int)).map D.int) := by
  have : -RB ≤ j ∧ j < RB := by rw [RB_eq]; omega
  simp only [gR1]
  rw [if_pos this, rngD_map]
  simp
theorem gR2_int {i j : Int} (h0 : -1000000 ≤ i ∧ i ≤ 1000000) (h1 : -1000000 ≤ j ∧ j ≤ 1000000) : gR2 [.int i, .int j] = .ok (((List.range (j - i).toNat).map fun k : Nat => i + k).map D.int) := by
  have : (-RB ≤ i ∧ i < RB) ∧ -RB ≤ j ∧ j < RB := by rw [RB_eq]; omega
  simp only [gR2]
  rw [if_pos this, rngD_map]
theorem mod_int {a b : Int} (h : 0 < b) : gMod (.int a) (.int b) = .ok (.int (a % b), false) := by simp only [gMod]; rw [if_pos h]
theorem add_int (a b : Int) : gAdd (.int a) (.int b) = .ok (.int (a + b), false) := rfl
theorem sub_int (a b : Int) : gSub (.int a) (.int b) = .ok (.int (a - b), false) := rfl
theorem fnD0_rt {n : Nat} {s : SF} {ds : List D} {d : D} {b : Bool} (h : s (ds.map (fun d => some (d, false)) ++ List.replicate (n - ds.length) none) = .rt d b) : fnD0 n s ds = .ok (d, b) := by unfold fnD0; rw [h]
section
variable {s t : SF} {ρ ρ' : Env} {o : Out} {d : D} {f : Bool}
theorem seq_to (h : s ρ = .nx ρ') (k : t ρ' = o) : sSeq s t ρ = o := by unfold sSeq; rw [h]; exact k
theorem seq_ret (h : s ρ = .rt d f) : sSeq s t ρ = .rt d f := by unfold sSeq; rw [h]
theorem if_yes {c : Env → R Bool} (h : c ρ = .ok true) (k : s ρ = o) : sIf c s t ρ = o := by unfold sIf; rw [h]; exact k
theorem if_no {c : Env → R Bool} (h : c ρ = .ok false) (k : t ρ = o) : sIf c s t ρ = o := by unfold sIf; rw [h]; exact k
theorem for_to {fi : Env → R (List D)} {g : D → Env → Option Env} {ds : List D} (h : fi ρ = .ok ds) (k : forL g s ds ρ = o) : sFor fi g s ρ = o := by unfold sFor; rw [h]; exact k
theorem set_to {i : Nat} {e : EF} {b : Bool} (h : e ρ = .ok (d, b)) : sSet i e ρ = .nx (ρ.set i (some (d, false))) := by unfold sSet; rw [h]
theorem own_to {i : Nat} {e : EF} (h : e ρ = .ok (d, true)) : sOwn i e ρ = .nx (ρ.set i (some (d, true))) := by unfold sOwn; rw [h]
theorem ret_to {e : EF} {b : Bool} (h : e ρ = .ok (d, b)) : sRet e ρ = .rt d b := by unfold sRet; rw [h]
theorem app_to {i : Nat} {e : EF} {b : Bool} {ds : List D} (hi : ρ[i]? = some (some (.lst ds, true))) (h : e ρ = .ok (d, b)) (hl : ds.length < CAP) : sApp i e ρ = .nx (ρ.set i (some (.lst (ds ++ [d]), true))) := by unfold sApp; rw [hi]; simp only [h]; rw [if_pos hl]
theorem rng_to {g : List D → R (List D)} {e : Env → R (List D)} {ds : List D} {r : R (List D)} (h : e ρ = .ok ds) (k : g ds = r) : (e ρ).bind g = r := by rw [h]; exact k
theorem call_to {g : List D → R (D × Bool)} {e : Env → R (List D)} {ds : List D} {r : R (D × Bool)} (h : e ρ = .ok ds) (k : g ds = r) : fCall g e ρ = r := by unfold fCall; rw [h]; exact k
theorem it_to {e : EF} {b : Bool} {r : R (List D)} (h : e ρ = .ok (d, b)) (k : seqA d = r) : fIt seqA e ρ = r := by unfold fIt; rw [h]; exact k
theorem cons_to {e : EF} {l : Env → R (List D)} {b : Bool} {ds : List D} (h : e ρ = .ok (d, b)) (k : l ρ = .ok ds) : fCons e l ρ = .ok (d :: ds) := by unfold fCons; rw [h]; simp only [R.bind, k]
end
end Pd

/-! Rn2: tables of texts. -/
namespace Pd
open PySem PySem.Spec PyProof.Rows L2 Nt
theorem nodup_len {α : Type} [DecidableEq α] : ∀ (l u : List α), l.Nodup → (∀ x ∈ l, x ∈ u) → l.length ≤ u.length
  | [], _, _, _ => Nat.zero_le _
  | x :: l, u, h, k => by
    have hx := k x List.mem_cons_self
    have h' := List.nodup_cons.mp h
    have := nodup_len l (u.erase x) h'.2 fun y hy => (List.mem_erase_of_ne (by rintro rfl; exact h'.1 hy)).mpr (k y (List.mem_cons_of_mem _ hy))
    rw [List.length_erase_of_mem hx] at this
    have := List.length_pos_of_mem hx
    simp only [List.length_cons]
    omega
/-- the keys are different people of U -/
structure TOk (U : List Str) (t : Tab Str) : Prop where
  nd : (t.map Prod.fst).Nodup
  sub : ∀ x ∈ t.map Prod.fst, x ∈ U
theorem TOk.len {U : List Str} {t : Tab Str} (h : TOk U t) : t.length ≤ U.length := by
  have := nodup_len _ U h.nd h.sub
  rwa [List.length_map] at this
theorem has_fst {t : Tab Str} {x : Str} : has t x = true ↔ x ∈ t.map Prod.fst := by
  rw [has_mem, List.mem_map]
  constructor
  · rintro ⟨v, h⟩; exact ⟨_, h, rfl⟩
  · rintro ⟨⟨y, v⟩, h, rfl⟩; exact ⟨v, h⟩
theorem TOk.put {U : List Str} {t : Tab Str} (h : TOk U t) {x : Str} (hx : x ∈ U) (hn : has t x = false) (v : Int) : TOk U (t ++ [(x, v)]) := by
  refine ⟨?_, fun y hy => ?_⟩
  · rw [List.map_append]
    refine List.nodup_append.mpr ⟨h.nd, by simp, fun a ha b hb => ?_⟩
    simp only [List.map_cons, List.map_nil, List.mem_singleton] at hb
    subst hb
    rintro rfl
    have := has_fst.mpr ha
    rw [hn] at this
    cases this
  · rw [List.map_append] at hy
    rcases List.mem_append.mp hy with hy | hy
    · exact h.sub y hy
    · simp only [List.map_cons, List.map_nil, List.mem_singleton] at hy
      rw [hy]; exact hx
theorem sput_tab {t : Tab Str} {x : Str} {v : Int} {b b' : Bool} {fk fv : EF} {i : Nat} {ρ : Env} (hv : fv ρ = .ok (.int v, b)) (hk : fk ρ = .ok (.str x, b')) (hi : ρ[i]? = some (some (TD t, true))) (hn : has t x = false) (hl : t.length < CAP) :
    sPut i fk fv ρ = .nx (ρ.set i (some (TD (t ++ [(x, v)]), true))) := by
  unfold sPut
  rw [hv]
  simp only [hk, hi]
  rw [List.length_map, put_tab hn, okKey_str]
  simp only [hl, Bool.true_and, decide_true, if_true]
theorem imm_int (i : Int) : imm (.int i) = true := rfl
theorem imm_str (i : Str) : imm (.str i) = true := rfl
theorem prop1_ok {U : List Str} {t : Tab Str} {r : Row Str} (h : TOk U t) (h1 : r.one ∈ U) (h2 : r.oth ∈ U) : TOk U (prop1 t r) := by
  unfold prop1
  split
  · rename_i c; simp only [Bool.and_eq_true, Bool.not_eq_true'] at c; exact h.put h2 c.2 _
  · split
    · rename_i c; simp only [Bool.and_eq_true, Bool.not_eq_true'] at c; exact h.put h1 c.2 _
    · exact h
theorem enter_ok {U : List Str} {t : Tab Str} {r : Row Str} (h : TOk U t) (h1 : r.one ∈ U) : TOk U (enter t r) := by
  unfold enter
  split
  · rename_i c; simp only [Bool.and_eq_true, Bool.not_eq_true'] at c; exact h.put h1 c.1 _
  · exact h
theorem pass_ok {U : List Str} : ∀ {rows : List (Row Str)} {t : Tab Str}, TOk U t → (∀ r ∈ rows, r.one ∈ U ∧ r.oth ∈ U) → TOk U (pass rows t)
  | [], _, h, _ => h
  | r :: rows, t, h, hr => by
    show TOk U (rows.foldl prop1 (prop1 t r))
    exact pass_ok (rows := rows) (prop1_ok h (hr r List.mem_cons_self).1 (hr r List.mem_cons_self).2) fun q hq => hr q (List.mem_cons_of_mem _ hq)
end Pd

/-! Rn3: more of loops, sorting, tables; pairs of numbers. -/
namespace Pd
open PySem PySem.Spec PyProof.Rows L2 Nt
theorem ins_perm {α : Type} (le : α → α → Bool) (x : α) : ∀ l : List α, (ins le x l).Perm (x :: l)
  | [] => .refl _
  | y :: ys => by
    unfold ins
    split
    · exact .refl _
    · exact ((ins_perm le x ys).cons y).trans (.swap x y ys)
theorem isort_perm {α : Type} (le : α → α → Bool) : ∀ l : List α, (isort le l).Perm l
  | [] => .refl _
  | x :: xs => (ins_perm le x _).trans ((isort_perm le xs).cons x)
/-- a loop, by what was walked so far -/
theorem forL_pre {τ : Type} {g : D → Env → Option Env} {sb : SF} {enc : τ → D} (I : List τ → Env → Prop) : ∀ (xs pre : List τ) (ρ : Env), I pre ρ →
    (∀ pre' x suf, pre ++ xs = pre' ++ x :: suf → ∀ ρ, I pre' ρ → ∃ ρ1 ρ2, g (enc x) ρ = some ρ1 ∧ sb ρ1 = .nx ρ2 ∧ I (pre' ++ [x]) ρ2) → ∃ ρ', forL g sb (xs.map enc) ρ = .nx ρ' ∧ I (pre ++ xs) ρ'
  | [], pre, ρ, h, _ => ⟨ρ, rfl, by rw [List.append_nil]; exact h⟩
  | x :: xs, pre, ρ, h, k => by
    obtain ⟨ρ1, ρ2, e1, e2, h2⟩ := k pre x xs rfl ρ h
    obtain ⟨ρ', e3, h3⟩ := forL_pre I xs (pre ++ [x]) ρ2 h2 fun pre' y suf e => k pre' y suf (by rw [← e]; simp)
    refine ⟨ρ', ?_, by simpa using h3⟩
    rw [List.map_cons, forL, e1]
    simp only [e2]
    exact e3
theorem intsD_map : ∀ l : List Int, intsD (l.map D.int) = some l
  | [] => rfl
  | x :: l => by rw [List.map_cons, intsD, intsD_map l]
theorem gMin_ints (m : Int) (l : List Int) : gMin [.lst ((m :: l).map D.int)] = .ok (.int (minL m l), false) := by
  simp only [gMin, intsD_map]
theorem gMax_ints (m : Int) (l : List Int) : gMax [.lst ((m :: l).map D.int)] = .ok (.int (maxL m l), false) := by
  simp only [gMax, intsD_map]

theorem sort_strs {xs : List Str} (h : ∀ x ∈ xs, okS x = true) : gSortX [LS xs] = .ok (LS (isort leS xs), true) := by
  refine sort_enc (enc := D.str) (le := leS) (fun x hx => ?_) (fun _ _ _ _ => rfl) (.inr fun _ _ => rfl) fun _ _ _ _ => rfl
  exact h x hx
theorem sort_tab {t : Tab Str} (h : ∀ x ∈ t.map Prod.fst, okS x = true) : gSortX [TD t] = .ok (LS (isort leS (t.map Prod.fst)), true) := by
  have e : (t.map fun p => (D.str p.1, D.int p.2)).map Prod.fst = (t.map Prod.fst).map D.str := by rw [List.map_map, List.map_map]; rfl
  show (if canSort ((t.map fun p => (D.str p.1, D.int p.2)).map Prod.fst) = true then R.ok (D.lst (isort leD ((t.map fun p => (D.str p.1, D.int p.2)).map Prod.fst)), true) else .st) = _
  rw [e, if_pos (canSort_enc (enc := D.str) (xs := t.map Prod.fst) (fun x hx => h x hx) (fun _ _ _ _ => rfl) (.inr fun _ _ => rfl)), isort_enc (enc := D.str) (le := leS) _ fun _ _ _ _ => rfl]
theorem tv_mem {t : Tab Str} {x : Str} (h : has t x = true) : (x, tv t x) ∈ t := by
  induction t with
  | nil => cases h
  | cons p t ih =>
    obtain ⟨y, v⟩ := p
    unfold has tget at h
    unfold tv tget
    by_cases e : y = x
    · rw [if_pos e, e]; exact List.mem_cons_self
    · rw [if_neg e] at h ⊢
      exact List.mem_cons_of_mem _ (ih h)
/-- no generation is farther than so much for each person -/
def Bd (M : Nat) (t : Tab Str) : Prop := ∀ p ∈ t, -((M * t.length : Nat) : Int) ≤ p.2 ∧ p.2 ≤ ((M * t.length : Nat) : Int)
theorem Bd.put {M : Nat} {t : Tab Str} (h : Bd M t) {x : Str} {v : Int} (hv : (v = 0) ∨ ∃ p ∈ t, p.2 - M ≤ v ∧ v ≤ p.2 + M) : Bd M (t ++ [(x, v)]) := by
  intro p hp
  have e : ((M * (t ++ [(x, v)]).length : Nat) : Int) = ((M * t.length : Nat) : Int) + M := by
    rw [List.length_append, List.length_singleton, Nat.mul_succ]; omega
  rw [e]
  rcases List.mem_append.mp hp with hp | hp
  · have := h p hp; omega
  · rw [List.mem_singleton] at hp
    subst hp
    show _ ≤ v ∧ v ≤ _
    rcases hv with rfl | ⟨q, hq, h1, h2⟩
    · omega
    · have := h q hq; omega
theorem Bd.prop1 {M : Nat} {t : Tab Str} {r : Row Str} (h : Bd M t) (hr : -(M : Int) ≤ r.up - r.dn ∧ r.up - r.dn ≤ M) : Bd M (prop1 t r) := by
  unfold Nt.prop1
  split
  · rename_i c
    simp only [Bool.and_eq_true] at c
    have hm := tv_mem c.1
    exact h.put (.inr ⟨_, hm, by show tv t r.one - M ≤ _; omega, by show _ ≤ tv t r.one + M; omega⟩)
  · split
    · rename_i c
      simp only [Bool.and_eq_true] at c
      have hm := tv_mem c.1
      exact h.put (.inr ⟨_, hm, by show tv t r.oth - M ≤ _; omega, by show _ ≤ tv t r.oth + M; omega⟩)
    · exact h
theorem Bd.pass {M : Nat} : ∀ {rows : List (Row Str)} {t : Tab Str}, Bd M t → (∀ r ∈ rows, -(M : Int) ≤ r.up - r.dn ∧ r.up - r.dn ≤ M) → Bd M (pass rows t)
  | [], _, h, _ => h
  | r :: rows, t, h, hr => by
    show Bd M (rows.foldl Nt.prop1 (Nt.prop1 t r))
    exact Bd.pass (rows := rows) (h.prop1 (hr r List.mem_cons_self)) fun q hq => hr q (List.mem_cons_of_mem _ hq)
theorem iter_keep {P : Tab Str → Prop} {f : Tab Str → Tab Str} (hf : ∀ t, P t → P (f t)) : ∀ (n : Nat) {t : Tab Str}, P t → P (iter f n t)
  | 0, _, h => h
  | n + 1, _, h => iter_keep hf n (hf _ h)
theorem levels_keep {P : Tab Str → Prop} {rows : List (Row Str)} (h0 : P []) (he : ∀ t, ∀ r ∈ rows, P t → P (enter t r)) (hp : ∀ t, P t → P (pass rows t)) : P (levels rows) := by
  unfold levels
  have key : ∀ (l : List (Row Str)) (t : Tab Str), (∀ r ∈ l, r ∈ rows) → P t → P (l.foldl (fun t r => iter (Nt.pass rows) rows.length (enter t r)) t) := by
    intro l
    induction l with
    | nil => intro t _ h; exact h
    | cons r l ih =>
      intro t hl h
      rw [List.foldl_cons]
      exact ih _ (fun q hq => hl q (List.mem_cons_of_mem _ hq)) (iter_keep hp _ (he t r (hl r List.mem_cons_self) h))
  exact key rows [] (fun _ h => h) h0
theorem levels_bd {M : Nat} {rows : List (Row Str)} (hr : ∀ r ∈ rows, -(M : Int) ≤ r.up - r.dn ∧ r.up - r.dn ≤ M) : Bd M (levels rows) := by
  refine levels_keep (P := Bd M) (fun p hp => by cases hp) (fun t r _ h => ?_) fun t h => h.pass hr
  unfold enter
  split
  · exact h.put (.inl rfl)
  · exact h
theorem levels_ok {U : List Str} {rows : List (Row Str)} (hr : ∀ r ∈ rows, r.one ∈ U ∧ r.oth ∈ U) : TOk U (levels rows) :=
  levels_keep (P := TOk U) ⟨by simp, by simp⟩ (fun t r hm h => enter_ok h (hr r hm).1) fun t h => pass_ok h hr
/-- the people of rows -/
def ppl (rows : List (Row Str)) : List Str := rows.flatMap fun r => [r.one, r.oth]
theorem ppl_mem {rows : List (Row Str)} : ∀ r ∈ rows, r.one ∈ ppl rows ∧ r.oth ∈ ppl rows := fun r h => ⟨List.mem_flatMap.mpr ⟨r, h, by simp⟩, List.mem_flatMap.mpr ⟨r, h, by simp⟩⟩
theorem ppl_len (rows : List (Row Str)) : (ppl rows).length = 2 * rows.length := by
  unfold ppl
  induction rows with
  | nil => rfl
  | cons r rows ih => rw [List.flatMap_cons, List.length_append, ih]; simp; omega
theorem mem_ppl {rows : List (Row Str)} {x : Str} (h : x ∈ ppl rows) : ∃ r ∈ rows, x = r.one ∨ x = r.oth := by
  obtain ⟨r, h1, h2⟩ := List.mem_flatMap.mp h
  exact ⟨r, h1, by simpa using h2⟩
theorem levels_ppl (rows : List (Row Str)) : TOk (ppl rows) (levels rows) := levels_ok ppl_mem
/-- rows as they are given -/
structure RW (rows : List (Row Str)) : Prop where
  s : ∀ r ∈ rows, okS r.one = true ∧ okS r.oth = true
  n : rows.length ≤ 12
  up : ∀ r ∈ rows, 0 ≤ r.up ∧ r.up ≤ 100
  dn : ∀ r ∈ rows, 0 ≤ r.dn ∧ r.dn ≤ 100
  ne : ∀ r ∈ rows, r.one ≠ r.oth
theorem RW.okT {rows : List (Row Str)} (w : RW rows) : ∀ x ∈ (levels rows).map Prod.fst, okS x = true := fun x hx => by
  obtain ⟨r, hr, rfl | rfl⟩ := mem_ppl ((levels_ppl rows).sub x hx)
  · exact (w.s r hr).1
  · exact (w.s r hr).2
theorem RW.len {rows : List (Row Str)} (w : RW rows) : (levels rows).length ≤ 24 := by
  have := (levels_ppl rows).len
  rw [ppl_len] at this
  have := w.n
  omega
theorem RW.bd {rows : List (Row Str)} (w : RW rows) {x : Str} (h : has (levels rows) x = true) : -2400 ≤ tv (levels rows) x ∧ tv (levels rows) x ≤ 2400 := by
  have h1 := levels_bd (M := 100) (rows := rows) (fun r hr => by have := w.up r hr; have := w.dn r hr; omega) _ (tv_mem h)
  have h2 := w.len
  have h3 : 100 * (levels rows).length ≤ 2400 := by omega
  have h4 : ((100 * (levels rows).length : Nat) : Int) ≤ 2400 := by omega
  show -2400 ≤ (x, tv (levels rows) x).2 ∧ (x, tv (levels rows) x).2 ≤ 2400
  omega

theorem eq_str {a b : Str} (ha : okS a = true) (hb : okS b = true) : gEq (.str a) (.str b) = .ok (.bl (decide (a = b)), false) := by
  show (if okS a && okS b then R.ok (D.bl (strEq a b), false) else .st) = _
  rw [ha, hb, strEq_dec]; rfl
theorem ne_str {a b : Str} (ha : okS a = true) (hb : okS b = true) : gNe (.str a) (.str b) = .ok (.bl (!decide (a = b)), false) := by
  show (if okS a && okS b then R.ok (D.bl (!strEq a b), false) else .st) = _
  rw [ha, hb, strEq_dec]; rfl
theorem min_int (a b : Int) : gMin [.int a, .int b] = .ok (.int (min a b), false) := by
  show R.ok (D.int (if b < a then b else a), false) = _
  have : (if b < a then b else a) = min a b := by split <;> omega
  rw [this]
theorem max_int (a b : Int) : gMax [.int a, .int b] = .ok (.int (max a b), false) := by
  show R.ok (D.int (if b > a then b else a), false) = _
  have : (if b > a then b else a) = max a b := by split <;> omega
  rw [this]
theorem isNon_tab (t : Tab Str) : gIs (TD t) .non = .ok (.bl false, false) := rfl
theorem forD_to {i : Nat} {g : D → Env → Option Env} {s : SF} {ρ : Env} {o : Out} {b : Bool} {kvs : List (D × D)} (h : ρ[i]? = some (some (.dic b kvs, false))) (k : noEx (forL g s (kvs.map Prod.fst) ρ) = o) : sForD i g s ρ = o := by unfold sForD; rw [h]; exact k

/-- pairs of numbers -/
abbrev PD (p : Int × Int) : D := .tup [.int p.1, .int p.2]
def leP (a b : Int × Int) : Bool := leD (PD a) (PD b)
theorem eqv_PD (a b : Int × Int) : eqv (PD a) (PD b) = decide (a = b) := by
  show (decide (a.1 = b.1) && (decide (a.2 = b.2) && true)) = _
  rw [Bool.and_true, Bool.eq_iff_iff]
  simp [Prod.ext_iff]
theorem ne_PD (a b : Int × Int) : gNe (PD a) (PD b) = .ok (.bl (!decide (a = b)), false) := by
  show R.ok (D.bl (!eqv (PD a) (PD b)), false) = _
  rw [eqv_PD]
theorem ok_PD (a : Int × Int) : okN 63 (PD a) = true := rfl
theorem neL_PD (xs ys : List (Int × Int)) : gNe (.lst (xs.map PD)) (.lst (ys.map PD)) = .ok (.bl (!decide (xs = ys)), false) :=
  ne_enc (fun _ _ => rfl) (fun _ _ => rfl) fun x _ y _ => eqv_PD x y
theorem sort_PD (xs : List (Int × Int)) : gSortX [.lst (xs.map PD)] = .ok (.lst ((isort leP xs).map PD), true) :=
  sort_enc (fun _ _ => rfl) (fun _ _ _ _ => rfl) (.inl fun _ _ => rfl) fun _ _ _ _ => rfl
theorem foldl_filter {τ : Type} (p : τ → Bool) : ∀ (l acc : List τ), l.foldl (fun acc x => if p x = true then acc ++ [x] else acc) acc = acc ++ l.filter p
  | [], acc => by simp
  | x :: l, acc => by
    rw [List.foldl_cons, foldl_filter p l, List.filter_cons]
    split <;> simp
end Pd

namespace Gen
open PySem PySem.Spec PyProof.Rows L2 Pd
def top (i : Nat) : Stmt := PySem.Challenge.pw_cousinwords_k04_statements.main.body.getD i (.Pass ⟨0, 0, 0, 0⟩)
/-- what the module holds, as far as the defs ask -/
structure Txt (mg : Str → Option Value) : Prop where
  c_LETTERS : ∃ u, mg "LETTERS" = some u ∧ RelV (.str "abcdefghijklmnopqrstuvwxyz") u
  c_MOST : ∃ u, mg "MOST" = some u ∧ RelV (.int 12) u
  n_abs : mg "abs" = none
  n_all : mg "all" = none
  n_bool : mg "bool" = none
  n_enumerate : mg "enumerate" = none
  n_int : mg "int" = none
  n_isinstance : mg "isinstance" = none
  n_len : mg "len" = none
  n_list : mg "list" = none
  n_max : mg "max" = none
  n_min : mg "min" = none
  n_range : mg "range" = none
  n_set : mg "set" = none
  n_sorted : mg "sorted" = none
  n_str : mg "str" = none
  n_tuple : mg "tuple" = none
/-! greats -/ -- slots: 0 number, 1 word
abbrev st_greats : Stmt := top 2
theorem sc_greats : FnScope ["number", "word"] ["number", "word"] (defScope st_greats) := ⟨rfl, rfl, rfl, by decide +kernel, rfl, by decide +kernel, by decide +kernel⟩
def s_greats : SF := (sSeq (sIf (fY (fOp gEq (eVar 0) (eC (.int 0)))) (sRet (eVar 1)) sNil)
    (sRet (fOp gAdd (fOp gAdd (fOp gMul (eC (.str ⟨⟨[103, 114, 101, 97, 116, 45]⟩⟩)) (fOp gSub (eVar 0) (eC (.int 1)))) (eC (.str ⟨⟨[103, 114, 97, 110, 100]⟩⟩))) (eVar 1))))
def g_greats : List D → R (D × Bool) := fnD0 2 s_greats
theorem ok_greats {P : Program} {w : World} {K : PySem.W.Frag} {mg : Str → Option Value} {base : Heap} {f : Addr} {fd : FuncData} (F : Fun K "greats" "greats" st_greats f fd) (T : Txt mg) :
    FnOk P w K mg base CX0 1 f fd ["number", "word"] (spD K xa0 2 g_greats) :=
  fn_data F sc_greats rfl rfl fun cdv A outer s H E hr => (pz_cons (pz_if (py_cmp (op_eqD (u64 hr)) od_eq (px_var 0) px_int) (pz_one (pz_ret (px_var 1))) pz_nil)
    (pz_one (pz_ret (px_op or_add od_add (px_op or_add od_add (px_op or_mul od_mul px_strE (px_op op_sub od_sub (px_var 0) px_int)) px_strE) (px_var 1)))))
/-! word_of -/ -- slots: 0 up, 1 down, 2 removed, 3 word
abbrev st_word_of : Stmt := top 3
theorem sc_word_of : FnScope ["up", "down", "removed", "word"] ["up", "down"] (defScope st_word_of) := ⟨rfl, rfl, rfl, by decide +kernel, rfl, by decide +kernel, by decide +kernel⟩
def s_word_of : SF := (sSeq (sIf (fY (fOp gEq (eVar 1) (eC (.int 0)))) (sRet (fCall g_greats (fCons (fOp gSub (eVar 0) (eC (.int 1))) (fCons (eC (.str ⟨⟨[112, 97, 114, 101, 110, 116]⟩⟩)) fNil)))) sNil)
    (sSeq (sIf (fY (fOp gEq (eVar 0) (eC (.int 0)))) (sRet (fCall g_greats (fCons (fOp gSub (eVar 1) (eC (.int 1))) (fCons (eC (.str ⟨⟨[99, 104, 105, 108, 100]⟩⟩)) fNil)))) sNil)
    (sSeq (sIf (fAndT (fY (fOp gEq (eVar 0) (eC (.int 1)))) (fY (fOp gEq (eVar 1) (eC (.int 1))))) (sRet (eC (.str ⟨⟨[115, 105, 98, 108, 105, 110, 103]⟩⟩))) sNil)
    (sSeq (sIf (fY (fOp gEq (eVar 1) (eC (.int 1)))) (sRet (fCall g_greats (fCons (fOp gSub (eVar 0) (eC (.int 2))) (fCons (eC (.str ⟨⟨[112, 105, 98, 108, 105, 110, 103]⟩⟩)) fNil)))) sNil)
    (sSeq (sIf (fY (fOp gEq (eVar 0) (eC (.int 1)))) (sRet (fCall g_greats (fCons (fOp gSub (eVar 1) (eC (.int 2))) (fCons (eC (.str ⟨⟨[110, 105, 98, 108, 105, 110, 103]⟩⟩)) fNil)))) sNil)
    (sSeq (sSet 2 (fCall gAbs (fCons (fOp gSub (eVar 0) (eVar 1)) fNil)))
    (sSeq (sSet 3 (joinE [(eC (.str ⟨⟨[99, 111, 117, 115, 105, 110, 32]⟩⟩)), (fFmtD (fOp gSub (fCall gMin (fCons (eVar 0) (fCons (eVar 1) fNil))) (eC (.int 1))))] Str.empty))
    (sRet (fIf (fY (fOp gEq (eVar 2) (eC (.int 0)))) (eVar 3) (fOp gAdd (eVar 3) (joinE [(eC (.str ⟨⟨[32, 114, 101, 109, 111, 118, 101, 100, 32]⟩⟩)), (fFmtD (eVar 2))] Str.empty)))))))))))
def g_word_of : List D → R (D × Bool) := fnD0 4 s_word_of
theorem ok_word_of {P : Program} {w : World} {K : PySem.W.Frag} {mg : Str → Option Value} {base : Heap} {f : Addr} {fd : FuncData} (F : Fun K "word_of" "word_of" st_word_of f fd) (T : Txt mg) (C_greats : Cl P w K mg base 1 "greats" ["number", "word"] g_greats) :
    FnOk P w K mg base CX0 2 f fd ["up", "down"] (spD K xa0 2 g_word_of) :=
  fn_data F sc_word_of rfl rfl fun cdv A outer s H E hr => (pz_cons (pz_if (py_cmp (op_eqD (u64 hr)) od_eq (px_var 1) px_int) (pz_one (pz_ret (px_callC C_greats (hr.mono (by decide)) pass0 (pl_cons (px_op op_sub od_sub (px_var 0) px_int) (pl_cons px_strE pl_nil))))) pz_nil)
    (pz_cons (pz_if (py_cmp (op_eqD (u64 hr)) od_eq (px_var 0) px_int) (pz_one (pz_ret (px_callC C_greats (hr.mono (by decide)) pass0 (pl_cons (px_op op_sub od_sub (px_var 1) px_int) (pl_cons px_strE pl_nil))))) pz_nil)
    (pz_cons (pz_if (py_w (pw'_and (py_cmp (op_eqD (u64 hr)) od_eq (px_var 0) px_int) (pw'_and1 (py_cmp (op_eqD (u64 hr)) od_eq (px_var 1) px_int)))) (pz_one (pz_ret px_strE)) pz_nil)
    (pz_cons (pz_if (py_cmp (op_eqD (u64 hr)) od_eq (px_var 1) px_int) (pz_one (pz_ret (px_callC C_greats (hr.mono (by decide)) pass0 (pl_cons (px_op op_sub od_sub (px_var 0) px_int) (pl_cons px_strE pl_nil))))) pz_nil)
    (pz_cons (pz_if (py_cmp (op_eqD (u64 hr)) od_eq (px_var 0) px_int) (pz_one (pz_ret (px_callC C_greats (hr.mono (by decide)) pass0 (pl_cons (px_op op_sub od_sub (px_var 1) px_int) (pl_cons px_strE pl_nil))))) pz_nil)
    (pz_cons (pz_set 2 (px_callB call_abs cd_abs T.n_abs rfl (pl_cons (px_op op_sub od_sub (px_var 0) (px_var 1)) pl_nil)) sc_word_of.nd)
    (pz_cons (pz_set 3 (px_joined (.cons px_strE (.cons (px_fmtD (px_op op_sub od_sub (px_callB (cr_minD rfl) cd_min T.n_min rfl (pl_cons (px_var 0) (pl_cons (px_var 1) pl_nil))) px_int)) .nil))) sc_word_of.nd)
    (pz_one (pz_ret (px_if (py_cmp (op_eqD (u64 hr)) od_eq (px_var 2) px_int) (px_var 3) (px_op or_add od_add (px_var 3) (px_joined (.cons px_strE (.cons (px_fmtD (px_var 2)) .nil))))))))))))))
/-! all_pairs -/ -- slots: 0 up, 1 down
abbrev st_all_pairs : Stmt := top 4
theorem sc_all_pairs : FnScope ["up", "down"] [] (defScope st_all_pairs) := ⟨rfl, rfl, rfl, by decide +kernel, rfl, by decide +kernel, by decide +kernel⟩
def s_all_pairs : SF := (sRet (fLc2 (fun ρ => ((fCons (fOp gAdd (eC (.int 12)) (eC (.int 1))) fNil) ρ).bind gR1) (gN 0) fYes (fun ρ => ((fCons (fOp gAdd (eC (.int 12)) (eC (.int 1))) fNil) ρ).bind gR1) (gN 1) (fY (fOp gNe (fTup (fCons (eVar 0) (fCons (eVar 1) fNil))) (fTup (fCons (eC (.int 0)) (fCons (eC (.int 0)) fNil))))) (fTup (fCons (eVar 0) (fCons (eVar 1) fNil))) [0, 1] [1]))
def g_all_pairs : List D → R (D × Bool) := fnD0 2 s_all_pairs
theorem ok_all_pairs {P : Program} {w : World} {K : PySem.W.Frag} {mg : Str → Option Value} {base : Heap} {f : Addr} {fd : FuncData} (F : Fun K "all_pairs" "all_pairs" st_all_pairs f fd) (T : Txt mg) :
    FnOk P w K mg base CX0 1 f fd [] (spD K xa0 0 g_all_pairs) :=
  fn_data F sc_all_pairs rfl rfl fun cdv A outer s H E hr => (pz_one (pz_ret (px_lc2 [("up", 0), ("down", 1)] [1] rfl sc_all_pairs.nd (pix_range1 T.n_range (pl_cons (px_op or_add od_add (px_gI T.c_MOST) px_int) pl_nil)) (by first | rfl | decide +kernel) (by decide) (fun _ _ _ _ _ => (pg_name (i := 0) sc_all_pairs.nd rfl (by first | exact Or.inl rfl | exact Or.inr rfl))) (tg_name 0) (tw_name (by decide)) (fun _ _ _ _ _ => pts_nil) tt_yes (fun _ _ _ _ _ => (pix_range1 T.n_range (pl_cons (px_op or_add od_add (px_gI T.c_MOST) px_int) pl_nil))) (fun _ _ _ _ _ => (pg_name (i := 1) sc_all_pairs.nd rfl (by first | exact Or.inl rfl | exact Or.inr rfl))) (tg_name 1) (tw_name (by decide)) (fun _ _ _ _ _ => pts_one (py_cmp (op_neD (u64 hr)) od_ne (px_tup (pl_cons (px_var 0) (pl_cons (px_var 1) pl_nil))) (px_tup (pl_cons px_int (pl_cons px_int pl_nil))))) tt_one (fun _ _ _ _ _ => (px_tup (pl_cons (px_var 0) (pl_cons (px_var 1) pl_nil)))))))
/-! readings -/ -- slots: 0 word, 1 pair
abbrev st_readings : Stmt := top 5
theorem sc_readings : FnScope ["word", "pair"] ["word"] (defScope st_readings) := ⟨rfl, rfl, rfl, by decide +kernel, rfl, by decide +kernel, by decide +kernel⟩
def s_readings : SF := (sRet (fLc (fIt seqA (fCall g_all_pairs fNil)) (gN 1) (fY (fOp gEq (fCall g_word_of (fCons (fOp gIx (eVar 1) (eC (.int 0))) (fCons (fOp gIx (eVar 1) (eC (.int 1))) fNil))) (eVar 0))) (eVar 1) [1]))
def g_readings : List D → R (D × Bool) := fnD0 2 s_readings
theorem ok_readings {P : Program} {w : World} {K : PySem.W.Frag} {mg : Str → Option Value} {base : Heap} {f : Addr} {fd : FuncData} (F : Fun K "readings" "readings" st_readings f fd) (T : Txt mg) (C_all_pairs : Cl P w K mg base 1 "all_pairs" [] g_all_pairs) (C_word_of : Cl P w K mg base 2 "word_of" ["up", "down"] g_word_of) :
    FnOk P w K mg base CX0 3 f fd ["word"] (spD K xa0 1 g_readings) :=
  fn_data F sc_readings rfl rfl fun cdv A outer s H E hr => (pz_one (pz_ret (px_lc [("pair", 1)] rfl sc_readings.nd (pix_any (px_callC0 C_all_pairs (hr.mono (by decide)) pass0)) (by first | rfl | decide +kernel) (fun _ _ _ _ _ => (pg_name (i := 1) sc_readings.nd rfl (by first | exact Or.inl rfl | exact Or.inr rfl))) (tg_name 1) (tw_name (by decide)) (fun _ _ _ _ _ => pts_one (py_cmp (op_eqD (u64 hr)) od_eq (px_callC C_word_of (hr.mono (by decide)) pass0 (pl_cons (px_ix (u1 hr) (px_var 1) px_int) (pl_cons (px_ix (u1 hr) (px_var 1) px_int) pl_nil))) (px_var 0))) tt_one (fun _ _ _ _ _ => (px_var 1)))))
/-! is_word -/ -- slots: 0 value
abbrev st_is_word : Stmt := top 6
theorem sc_is_word : FnScope ["value"] ["value"] (defScope st_is_word) := ⟨rfl, rfl, rfl, by decide +kernel, rfl, by decide +kernel, by decide +kernel⟩
def s_is_word : SF := (sRet (fAnd (fIsi "str" (eVar 0)) (fOp gNe (fCall g_readings (fCons (eVar 0) fNil)) (fLst fNil))))
def g_is_word : List D → R (D × Bool) := fnD0 1 s_is_word
theorem ok_is_word {P : Program} {w : World} {K : PySem.W.Frag} {mg : Str → Option Value} {base : Heap} {f : Addr} {fd : FuncData} (F : Fun K "is_word" "is_word" st_is_word f fd) (T : Txt mg) (C_readings : Cl P w K mg base 3 "readings" ["word"] g_readings) :
    FnOk P w K mg base CX0 4 f fd ["value"] (spD K xa0 1 g_is_word) :=
  fn_data F sc_is_word rfl rfl fun cdv A outer s H E hr => (pz_one (pz_ret (px_and (px_isi "str" T.n_isinstance T.n_str rfl (by decide) (px_var 0)) (px_one (px_cmp (op_neD (u64 hr)) od_ne (px_callC C_readings (hr.mono (by decide)) pass0 (pl_cons (px_var 0) pl_nil)) (px_lst pl_nil))))))
/-! is_name -/ -- slots: 0 value, 1 sign
abbrev st_is_name : Stmt := top 9
theorem sc_is_name : FnScope ["value", "sign"] ["value"] (defScope st_is_name) := ⟨rfl, rfl, rfl, by decide +kernel, rfl, by decide +kernel, by decide +kernel⟩
def s_is_name : SF := (sRet (fAnd (fIsi "str" (eVar 0)) (fAnd (fChain gLe gLe (eC (.int 1)) (fCall gLen (fCons (eVar 0) fNil)) (eC (.int 8))) (fCall gAll (fCons (fLc (fIt seqA (eVar 0)) (gN 1) fYes (fOp gIn (eVar 1) (eC (.str "abcdefghijklmnopqrstuvwxyz"))) [1]) fNil)))))
def g_is_name : List D → R (D × Bool) := fnD0 2 s_is_name
theorem ok_is_name {P : Program} {w : World} {K : PySem.W.Frag} {mg : Str → Option Value} {base : Heap} {f : Addr} {fd : FuncData} (F : Fun K "is_name" "is_name" st_is_name f fd) (T : Txt mg) :
    FnOk P w K mg base CX0 1 f fd ["value"] (spD K xa0 1 g_is_name) :=
  fn_data F sc_is_name rfl rfl fun cdv A outer s H E hr => (pz_one (pz_ret (px_and (px_isi "str" T.n_isinstance T.n_str rfl (by decide) (px_var 0)) (px_and (px_chain or_le or_le od_le od_le q_le px_int (px_callB cr_len cd_len T.n_len rfl (pl_cons (px_var 0) pl_nil)) px_int) (px_one (px_callB (cr_all rfl) cd_all T.n_all rfl (pl_cons (px_lc [("sign", 1)] rfl sc_is_name.nd (pix_any (px_var 0)) (by first | rfl | decide +kernel) (fun _ _ _ _ _ => (pg_name (i := 1) sc_is_name.nd rfl (by first | exact Or.inl rfl | exact Or.inr rfl))) (tg_name 1) (tw_name (by decide)) (fun _ _ _ _ _ => pts_nil) tt_yes (fun _ _ _ _ _ => (px_cmp (or_in (u65 hr)) od_in (px_var 1) (px_gS T.c_LETTERS)))) pl_nil)))))))
/-! is_statement -/ -- slots: 0 value
abbrev st_is_statement : Stmt := top 10
theorem sc_is_statement : FnScope ["value"] ["value"] (defScope st_is_statement) := ⟨rfl, rfl, rfl, by decide +kernel, rfl, by decide +kernel, by decide +kernel⟩
def s_is_statement : SF := (sSeq (sIf (fOrT (fNotT (fY (fIsi "tuple" (eVar 0)))) (fOrT (fY (fOp gNe (fCall gLen (fCons (eVar 0) fNil)) (eC (.int 3)))) (fOrT (fNotT (fY (fCall g_is_name (fCons (fOp gIx (eVar 0) (eC (.int 0))) fNil)))) (fNotT (fY (fCall g_is_name (fCons (fOp gIx (eVar 0) (eC (.int 2))) fNil))))))) (sRet (eC (.bl false))) sNil)
    (sRet (fAnd (fOp gNe (fOp gIx (eVar 0) (eC (.int 0))) (fOp gIx (eVar 0) (eC (.int 2)))) (fCall g_is_word (fCons (fOp gIx (eVar 0) (eC (.int 1))) fNil)))))
def g_is_statement : List D → R (D × Bool) := fnD0 1 s_is_statement
theorem ok_is_statement {P : Program} {w : World} {K : PySem.W.Frag} {mg : Str → Option Value} {base : Heap} {f : Addr} {fd : FuncData} (F : Fun K "is_statement" "is_statement" st_is_statement f fd) (T : Txt mg) (C_is_name : Cl P w K mg base 1 "is_name" ["value"] g_is_name) (C_is_word : Cl P w K mg base 4 "is_word" ["value"] g_is_word) :
    FnOk P w K mg base CX0 5 f fd ["value"] (spD K xa0 1 g_is_statement) :=
  fn_data F sc_is_statement rfl rfl fun cdv A outer s H E hr => (pz_cons (pz_if (py_w (pw'_or (py_not (py_val (px_isi "tuple" T.n_isinstance T.n_tuple rfl (by decide) (px_var 0)))) (pw'_or (py_cmp (op_neD (u64 hr)) od_ne (px_callB cr_len cd_len T.n_len rfl (pl_cons (px_var 0) pl_nil)) px_int) (pw'_or (py_not (py_val (px_callC C_is_name (hr.mono (by decide)) pass0 (pl_cons (px_ix (u1 hr) (px_var 0) px_int) pl_nil)))) (pw'_or1 (py_not (py_val (px_callC C_is_name (hr.mono (by decide)) pass0 (pl_cons (px_ix (u1 hr) (px_var 0) px_int) pl_nil))))))))) (pz_one (pz_ret px_bl)) pz_nil)
    (pz_one (pz_ret (px_and (px_cmp (op_neD (u64 hr)) od_ne (px_ix (u1 hr) (px_var 0) px_int) (px_ix (u1 hr) (px_var 0) px_int)) (px_one (px_callC C_is_word (hr.mono (by decide)) pass0 (pl_cons (px_ix (u1 hr) (px_var 0) px_int) pl_nil)))))))
/-! people -/ -- slots: 0 statements, 1 found, 2 one, 3 word, 4 other, 5 name
abbrev st_people : Stmt := top 11
theorem sc_people : FnScope ["statements", "found", "one", "word", "other", "name"] ["statements"] (defScope st_people) := ⟨rfl, rfl, rfl, by decide +kernel, rfl, by decide +kernel, by decide +kernel⟩
def b_people_1 : SF := (sSet 1 (fOp gAdd (eVar 1) (fLc (fIt seqA (fTup (fCons (eVar 2) (fCons (eVar 4) fNil)))) (gN 5) (fY (fOp gNotIn (eVar 5) (eVar 1))) (eVar 5) [5])))
def s_people : SF := (sSeq (sSet 1 (fLst fNil))
    (sSeq (sFor (fIt seqA (eVar 0)) (gT [2, 3, 4]) b_people_1)
    (sRet (fCall gSortX (fCons (eVar 1) fNil)))))
def g_people : List D → R (D × Bool) := fnD0 6 s_people
theorem ok_people {P : Program} {w : World} {K : PySem.W.Frag} {mg : Str → Option Value} {base : Heap} {f : Addr} {fd : FuncData} (F : Fun K "people" "people" st_people f fd) (T : Txt mg) :
    FnOk P w K mg base CX0 1 f fd ["statements"] (spD K xa0 1 g_people) :=
  fn_data F sc_people rfl rfl fun cdv A outer s H E hr => (pz_cons (pz_set 1 (px_lst pl_nil) sc_people.nd)
    (pz_cons (pz_for PassesOwn.never rfl (pix_any (px_var 0)) (pg_tup rfl (pgs_cons (pg_name (i := 2) sc_people.nd rfl (by first | exact Or.inl rfl | exact Or.inr rfl)) (pgs_cons (pg_name (i := 3) sc_people.nd rfl (by first | exact Or.inl rfl | exact Or.inr rfl)) (pgs_cons (pg_name (i := 4) sc_people.nd rfl (by first | exact Or.inl rfl | exact Or.inr rfl)) pgs_nil)))) (tg_tup [2, 3, 4]) (pz_one (pz_set 1 (px_op or_add od_add (px_var 1) (px_lc [("name", 5)] rfl sc_people.nd (pix_any (px_tup (pl_cons (px_var 2) (pl_cons (px_var 4) pl_nil)))) (by first | rfl | decide +kernel) (fun _ _ _ _ _ => (pg_name (i := 5) sc_people.nd rfl (by first | exact Or.inl rfl | exact Or.inr rfl))) (tg_name 5) (tw_name (by decide)) (fun _ _ _ _ _ => pts_one (py_cmp (or_notIn (u65 hr)) od_notIn (px_var 5) (px_var 1))) tt_one (fun _ _ _ _ _ => (px_var 5)))) sc_people.nd)))
    (pz_one (pz_ret (px_callB (cr_sortX rfl (u70 hr)) cd_sortX T.n_sorted rfl (pl_cons (px_var 1) pl_nil))))))
/-! _law_cell -/ -- slots: 0 script, 1 index
abbrev st__law_cell : Stmt := top 13
theorem sc__law_cell : FnScope ["script", "index"] ["script", "index"] (defScope st__law_cell) := ⟨rfl, rfl, rfl, by decide +kernel, rfl, by decide +kernel, by decide +kernel⟩
def s__law_cell : SF := (sSeq (sIf (fY (fOp gLt (eVar 1) (fCall gLen (fCons (eVar 0) fNil)))) (sRet (fOp gIx (eVar 0) (eVar 1))) sNil)
    (sSeq (sIf (fY (fOp gEq (fCall gLen (fCons (eVar 0) fNil)) (eC (.int 0)))) (sRet (fOp gAdd (fOp gMul (eC (.int 7919)) (eVar 1)) (eC (.int 101)))) sNil)
    (sRet (fOp gAdd (fOp gMod (fOp gIx (eVar 0) (fOp gMod (eVar 1) (fCall gLen (fCons (eVar 0) fNil)))) (eC (.int 1000003))) (fOp gMul (eC (.int 7919)) (eVar 1))))))
def g__law_cell : List D → R (D × Bool) := fnD0 2 s__law_cell
theorem ok__law_cell {P : Program} {w : World} {K : PySem.W.Frag} {mg : Str → Option Value} {base : Heap} {f : Addr} {fd : FuncData} (F : Fun K "_law_cell" "_law_cell" st__law_cell f fd) (T : Txt mg) :
    FnOk P w K mg base CX0 1 f fd ["script", "index"] (spD K xa0 2 g__law_cell) :=
  fn_data F sc__law_cell rfl rfl fun cdv A outer s H E hr => (pz_cons (pz_if (py_cmp or_lt od_lt (px_var 1) (px_callB cr_len cd_len T.n_len rfl (pl_cons (px_var 0) pl_nil))) (pz_one (pz_ret (px_ix (u1 hr) (px_var 0) (px_var 1)))) pz_nil)
    (pz_cons (pz_if (py_cmp (op_eqD (u64 hr)) od_eq (px_callB cr_len cd_len T.n_len rfl (pl_cons (px_var 0) pl_nil)) px_int) (pz_one (pz_ret (px_op or_add od_add (px_op or_mul od_mul px_int (px_var 1)) px_int))) pz_nil)
    (pz_one (pz_ret (px_op or_add od_add (px_op op_mod od_mod (px_ix (u1 hr) (px_var 0) (px_op op_mod od_mod (px_var 1) (px_callB cr_len cd_len T.n_len rfl (pl_cons (px_var 0) pl_nil)))) px_int) (px_op or_mul od_mul px_int (px_var 1)))))))
/-! _law_digits -/ -- slots: 0 script, 1 index, 2 count, 3 base, 4 primes, 5 cell, 6 rest, 7 digits, 8 k, 9 mixed
abbrev st__law_digits : Stmt := top 14
theorem sc__law_digits : FnScope ["script", "index", "count", "base", "primes", "cell", "rest", "digits", "k", "mixed"] ["script", "index", "count", "base"] (defScope st__law_digits) := ⟨rfl, rfl, rfl, by decide +kernel, rfl, by decide +kernel, by decide +kernel⟩
def b__law_digits_1 : SF := (sSeq (sSet 9 (fOp gMul (fOp gMod (eVar 5) (fOp gIx (eVar 4) (fOp gMod (eVar 8) (eC (.int 8))))) (fOp gAdd (eC (.int 48271)) (fOp gMul (fOp gMul (eC (.int 2)) (eVar 8)) (eVar 8)))))
    (sSeq (sSet 9 (fOp gAdd (fOp gAdd (eVar 9) (fOp gMul (fOp gMul (eC (.int 7919)) (fOp gAdd (eVar 8) (eC (.int 1)))) (fOp gAdd (eVar 8) (eC (.int 1))))) (fOp gMul (eC (.int 104729)) (eVar 1))))
    (sSeq (sSet 9 (fOp gMod (eVar 9) (fOp gIx (eVar 4) (fOp gMod (fOp gAdd (fOp gMul (eC (.int 3)) (eVar 8)) (eVar 1)) (eC (.int 8))))))
    (sSeq (sSet 9 (fOp gMod (fOp gMul (fOp gMul (eVar 9) (eVar 9)) (eVar 9)) (fOp gIx (eVar 4) (fOp gMod (fOp gAdd (eVar 8) (eC (.int 5))) (eC (.int 8))))))
    (sSeq (sIf (fY (fOp gGt (eVar 6) (eC (.int 0)))) (sSet 9 (eVar 6)) sNil)
    (sSeq (sApp 7 (fOp gMod (eVar 9) (eVar 3)))
    (sSet 6 (fOp gDiv (eVar 6) (eVar 3)))))))))
def s__law_digits : SF := (sSeq (sSet 4 (fTup (fCons (eC (.int 2147483647)) (fCons (eC (.int 2147483629)) (fCons (eC (.int 2147483587)) (fCons (eC (.int 2147483579)) (fCons (eC (.int 2147483563)) (fCons (eC (.int 2147483549)) (fCons (eC (.int 2147483543)) (fCons (eC (.int 2147483497)) fNil))))))))))
    (sSeq (sSet 5 (fCall g__law_cell (fCons (eVar 0) (fCons (eVar 1) fNil))))
    (sSeq (sSet 6 (fIf (fY (fOp gGe (eVar 5) (fOp gPow (eC (.int 10)) (eC (.int 18))))) (eVar 5) (eC (.int 0))))
    (sSeq (sOwn 7 (fLst fNil))
    (sSeq (sFor (fun ρ => ((fCons (eVar 2) fNil) ρ).bind gR1) (gN 8) b__law_digits_1)
    (sRetV 7))))))
def g__law_digits : List D → R (D × Bool) := fnD0 10 s__law_digits
theorem ok__law_digits {P : Program} {w : World} {K : PySem.W.Frag} {mg : Str → Option Value} {base : Heap} {f : Addr} {fd : FuncData} (F : Fun K "_law_digits" "_law_digits" st__law_digits f fd) (T : Txt mg) (C__law_cell : Cl P w K mg base 1 "_law_cell" ["script", "index"] g__law_cell) :
    FnOk P w K mg base CX0 2 f fd ["script", "index", "count", "base"] (spD K xa0 4 g__law_digits) :=
  fn_data F sc__law_digits rfl rfl fun cdv A outer s H E hr => (pz_cons (pz_set 4 (px_tup (pl_cons px_int (pl_cons px_int (pl_cons px_int (pl_cons px_int (pl_cons px_int (pl_cons px_int (pl_cons px_int (pl_cons px_int pl_nil))))))))) sc__law_digits.nd)
    (pz_cons (pz_set 5 (px_callC C__law_cell (hr.mono (by decide)) pass0 (pl_cons (px_var 0) (pl_cons (px_var 1) pl_nil))) sc__law_digits.nd)
    (pz_cons (pz_set 6 (px_if (py_cmp or_ge od_ge (px_var 5) (px_op op_pow od_pow px_int px_int)) (px_var 5) px_int) sc__law_digits.nd)
    (pz_cons (pz_own 7 (px_lst pl_nil) sc__law_digits.nd)
    (pz_cons (pz_for PassesOwn.never rfl (pix_range1 T.n_range (pl_cons (px_var 2) pl_nil)) (pg_name (i := 8) sc__law_digits.nd rfl (by first | exact Or.inl rfl | exact Or.inr rfl)) (tg_name 8) (pz_cons (pz_set 9 (px_op or_mul od_mul (px_op op_mod od_mod (px_var 5) (px_ix (u1 hr) (px_var 4) (px_op op_mod od_mod (px_var 8) px_int))) (px_op or_add od_add px_int (px_op or_mul od_mul (px_op or_mul od_mul px_int (px_var 8)) (px_var 8)))) sc__law_digits.nd)
    (pz_cons (pz_set 9 (px_op or_add od_add (px_op or_add od_add (px_var 9) (px_op or_mul od_mul (px_op or_mul od_mul px_int (px_op or_add od_add (px_var 8) px_int)) (px_op or_add od_add (px_var 8) px_int))) (px_op or_mul od_mul px_int (px_var 1))) sc__law_digits.nd)
    (pz_cons (pz_set 9 (px_op op_mod od_mod (px_var 9) (px_ix (u1 hr) (px_var 4) (px_op op_mod od_mod (px_op or_add od_add (px_op or_mul od_mul px_int (px_var 8)) (px_var 1)) px_int))) sc__law_digits.nd)
    (pz_cons (pz_set 9 (px_op op_mod od_mod (px_op or_mul od_mul (px_op or_mul od_mul (px_var 9) (px_var 9)) (px_var 9)) (px_ix (u1 hr) (px_var 4) (px_op op_mod od_mod (px_op or_add od_add (px_var 8) px_int) px_int))) sc__law_digits.nd)
    (pz_cons (pz_if (py_cmp or_gt od_gt (px_var 6) px_int) (pz_one (pz_set 9 (px_var 6) sc__law_digits.nd)) pz_nil)
    (pz_cons (pz_append 7 (px_op op_mod od_mod (px_var 9) (px_var 3)))
    (pz_one (pz_set 6 (px_op op_fdivW od_div (px_var 6) (px_var 3)) sc__law_digits.nd)))))))))
    (pz_one (pz_retV 7)))))))
/-! _law_same_bool -/ -- slots: 0 result, 1 expected
abbrev st__law_same_bool : Stmt := top 15
theorem sc__law_same_bool : FnScope ["result", "expected"] ["result", "expected"] (defScope st__law_same_bool) := ⟨rfl, rfl, rfl, by decide +kernel, rfl, by decide +kernel, by decide +kernel⟩
def s__law_same_bool : SF := (sRet (fAnd (fIsi "bool" (eVar 0)) (fOp gEq (eVar 0) (eVar 1))))
def g__law_same_bool : List D → R (D × Bool) := fnD0 2 s__law_same_bool
theorem ok__law_same_bool {P : Program} {w : World} {K : PySem.W.Frag} {mg : Str → Option Value} {base : Heap} {f : Addr} {fd : FuncData} (F : Fun K "_law_same_bool" "_law_same_bool" st__law_same_bool f fd) (T : Txt mg) :
    FnOk P w K mg base CX0 1 f fd ["result", "expected"] (spD K xa0 2 g__law_same_bool) :=
  fn_data F sc__law_same_bool rfl rfl fun cdv A outer s H E hr => (pz_one (pz_ret (px_and (px_isi "bool" T.n_isinstance T.n_bool rfl (by decide) (px_var 0)) (px_one (px_cmp (op_eqD (u64 hr)) od_eq (px_var 0) (px_var 1))))))
/-! _law_paths -/ -- slots: 0 value, 1 paths, 2 index, 3 part, 4 path
abbrev st__law_paths : Stmt := top 16
theorem sc__law_paths : FnScope ["value", "paths", "index", "part", "path"] ["value"] (defScope st__law_paths) := ⟨rfl, rfl, rfl, by decide +kernel, rfl, by decide +kernel, by decide +kernel⟩
def b__law_paths_1 (g__law_paths : List D → R (D × Bool)) : SF := (sSet 1 (fOp gAdd (eVar 1) (fLc (fIt seqA (fCall g__law_paths (fCons (eVar 3) fNil))) (gN 4) fYes (fOp gAdd (fTup (fCons (eVar 2) fNil)) (eVar 4)) [4])))
def s__law_paths (g__law_paths : List D → R (D × Bool)) : SF := (sSeq (sSet 1 (fLst (fCons (fTup fNil) fNil)))
    (sSeq (sIf (fY (fIsi2 "list" "tuple" (eVar 0))) (sFor (fun ρ => ((fCons (eVar 0) fNil) ρ).bind gEnumA) (gT [2, 3]) (b__law_paths_1 g__law_paths)) sNil)
    (sRet (eVar 1))))
def g__law_paths_n : Nat → List D → R (D × Bool)
  | 0 => fun _ => .st
  | n + 1 => fnD0 5 (s__law_paths (g__law_paths_n n))
def g__law_paths : List D → R (D × Bool) := g__law_paths_n 10
theorem ok__law_paths {P : Program} {w : World} {K : PySem.W.Frag} {mg : Str → Option Value} {base : Heap} {f : Addr} {fd : FuncData} (F : Fun K "_law_paths" "_law_paths" st__law_paths f fd) (T : Txt mg) (hs : mg "_law_paths" = some (.ref f)) (hk : PySem.W.keepIn K (.ref f) = true) (hb : Binds K fd ["value"] []) :
    ∀ n : Nat, FnOk P w K mg base CX0 (1 + n) f fd ["value"] (spD K xa0 1 (g__law_paths_n n))
  | 0 => fn_none rfl
  | n + 1 => by
    have C__law_paths : Cl P w K mg base (1 + n) "_law_paths" ["value"] (g__law_paths_n n) := ⟨f, fd, ok__law_paths F T hs hk hb n, hs, hk, hb⟩
    show FnOk P w K mg base CX0 ((1 + n) + 1) f fd ["value"] (spD K xa0 1 (g__law_paths_n (n + 1)))
    exact fn_data F sc__law_paths rfl rfl fun cdv A outer s H E hr => (pz_cons (pz_set 1 (px_lst (pl_cons (px_tup pl_nil) pl_nil)) sc__law_paths.nd)
    (pz_cons (pz_if (py_val (px_isi2 "list" "tuple" T.n_isinstance T.n_list T.n_tuple rfl rfl (by decide) (by decide) (px_var 0))) (pz_one (pz_for PassesOwn.never rfl (pix_enumA T.n_enumerate (pl_cons (px_var 0) pl_nil)) (pg_tup rfl (pgs_cons (pg_name (i := 2) sc__law_paths.nd rfl (by first | exact Or.inl rfl | exact Or.inr rfl)) (pgs_cons (pg_name (i := 3) sc__law_paths.nd rfl (by first | exact Or.inl rfl | exact Or.inr rfl)) pgs_nil))) (tg_tup [2, 3]) (pz_one (pz_set 1 (px_op or_add od_add (px_var 1) (px_lc [("path", 4)] rfl sc__law_paths.nd (pix_any (px_callC C__law_paths (hr.mono (by omega)) pass0 (pl_cons (px_var 3) pl_nil))) (by first | rfl | decide +kernel) (fun _ _ _ _ _ => (pg_name (i := 4) sc__law_paths.nd rfl (by first | exact Or.inl rfl | exact Or.inr rfl))) (tg_name 4) (tw_name (by decide)) (fun _ _ _ _ _ => pts_nil) tt_yes (fun _ _ _ _ _ => (px_op or_add od_add (px_tup (pl_cons (px_var 2) pl_nil)) (px_var 4))))) sc__law_paths.nd)))) pz_nil)
    (pz_one (pz_ret (px_var 1)))))
/-! _law_other_value -/ -- slots: 0 value, 1 digits, 2 options
abbrev st__law_other_value : Stmt := top 17
theorem sc__law_other_value : FnScope ["value", "digits", "options"] ["value", "digits"] (defScope st__law_other_value) := ⟨rfl, rfl, rfl, by decide +kernel, rfl, by decide +kernel, by decide +kernel⟩
def s__law_other_value : SF := (sSeq (sSet 2 (fLst (fCons (eC .non) (fCons (eC (.bl true)) (fCons (eC (.bl false)) (fCons (eC (.int 7)) (fCons (fOp gSub (eC (.int 0)) (eC (.int 1))) (fCons (fOp gPow (eC (.int 10)) (eC (.int 39))) (fCons (eC (.str ⟨⟨[48]⟩⟩)) (fCons (eC (.str ⟨⟨[]⟩⟩)) (fCons (fTup fNil) (fCons (fLst fNil) (fCons (fTup (fCons (eVar 0) fNil)) (fCons (fLst (fCons (eVar 0) fNil)) (fCons (fTup (fCons (eC (.int 0)) fNil)) (fCons (fTup (fCons (eC (.int 1)) (fCons (eC (.int 0)) fNil))) (fCons (eC (.int 1)) (fCons (eC (.int 0)) fNil))))))))))))))))))
    (sSeq (sIf (fAndT (fY (fIsi "int" (eVar 0))) (fNotT (fY (fIsi "bool" (eVar 0))))) (sSet 2 (fOp gAdd (fLst (fCons (fOp gAdd (eVar 0) (eC (.int 1))) (fCons (fOp gSub (eVar 0) (eC (.int 1))) (fCons (fCall gBool (fCons (eVar 0) fNil)) (fCons (fOp gAdd (eVar 0) (eC (.int 1))) (fCons (fOp gSub (eVar 0) (eC (.int 1))) (fCons (fCall gBool (fCons (eVar 0) fNil)) fNil))))))) (eVar 2))) sNil)
    (sSeq (sIf (fY (fIsi2 "list" "tuple" (eVar 0))) (sSet 2 (fOp gAdd (fLst (fCons (fCall gList (fCons (eVar 0) fNil)) (fCons (fCall gTuple (fCons (eVar 0) fNil)) (fCons (fCall gTuple (fCons (fRevA (eVar 0)) fNil)) (fCons (fCall gList (fCons (eVar 0) fNil)) fNil))))) (eVar 2))) sNil)
    (sRet (fOp gIx (eVar 2) (fOp gMod (fOp gIx (eVar 1) (eC (.int 1))) (fCall gLen (fCons (eVar 2) fNil))))))))
def g__law_other_value : List D → R (D × Bool) := fnD0 3 s__law_other_value
theorem ok__law_other_value {P : Program} {w : World} {K : PySem.W.Frag} {mg : Str → Option Value} {base : Heap} {f : Addr} {fd : FuncData} (F : Fun K "_law_other_value" "_law_other_value" st__law_other_value f fd) (T : Txt mg) :
    FnOk P w K mg base CX0 1 f fd ["value", "digits"] (spD K xa0 2 g__law_other_value) :=
  fn_data F sc__law_other_value rfl rfl fun cdv A outer s H E hr => (pz_cons (pz_set 2 (px_lst (pl_cons px_non (pl_cons px_bl (pl_cons px_bl (pl_cons px_int (pl_cons (px_op op_sub od_sub px_int px_int) (pl_cons (px_op op_pow od_pow px_int px_int) (pl_cons px_strE (pl_cons px_strE (pl_cons (px_tup pl_nil) (pl_cons (px_lst pl_nil) (pl_cons (px_tup (pl_cons (px_var 0) pl_nil)) (pl_cons (px_lst (pl_cons (px_var 0) pl_nil)) (pl_cons (px_tup (pl_cons px_int pl_nil)) (pl_cons (px_tup (pl_cons px_int (pl_cons px_int pl_nil))) (pl_cons px_int (pl_cons px_int pl_nil))))))))))))))))) sc__law_other_value.nd)
    (pz_cons (pz_if (py_w (pw'_and (py_val (px_isi "int" T.n_isinstance T.n_int rfl (by decide) (px_var 0))) (pw'_and1 (py_not (py_val (px_isi "bool" T.n_isinstance T.n_bool rfl (by decide) (px_var 0))))))) (pz_one (pz_set 2 (px_op or_add od_add (px_lst (pl_cons (px_op or_add od_add (px_var 0) px_int) (pl_cons (px_op op_sub od_sub (px_var 0) px_int) (pl_cons (px_callTy call_bool1 cd_bool T.n_bool rfl (pl_cons (px_var 0) pl_nil)) (pl_cons (px_op or_add od_add (px_var 0) px_int) (pl_cons (px_op op_sub od_sub (px_var 0) px_int) (pl_cons (px_callTy call_bool1 cd_bool T.n_bool rfl (pl_cons (px_var 0) pl_nil)) pl_nil))))))) (px_var 2)) sc__law_other_value.nd)) pz_nil)
    (pz_cons (pz_if (py_val (px_isi2 "list" "tuple" T.n_isinstance T.n_list T.n_tuple rfl rfl (by decide) (by decide) (px_var 0))) (pz_one (pz_set 2 (px_op or_add od_add (px_lst (pl_cons (px_callTy call_list_of cd_list T.n_list rfl (pl_cons (px_var 0) pl_nil)) (pl_cons (px_callTy call_tuple_of cd_tuple T.n_tuple rfl (pl_cons (px_var 0) pl_nil)) (pl_cons (px_callTy call_tuple_of cd_tuple T.n_tuple rfl (pl_cons (px_revA (px_var 0)) pl_nil)) (pl_cons (px_callTy call_list_of cd_list T.n_list rfl (pl_cons (px_var 0) pl_nil)) pl_nil))))) (px_var 2)) sc__law_other_value.nd)) pz_nil)
    (pz_one (pz_ret (px_ix (u1 hr) (px_var 2) (px_op op_mod od_mod (px_ix (u1 hr) (px_var 1) px_int) (px_callB cr_len cd_len T.n_len rfl (pl_cons (px_var 2) pl_nil)))))))))
/-! _law_moved_item -/ -- slots: 0 items, 1 index, 2 digits, 3 target, 4 rest
abbrev st__law_moved_item : Stmt := top 18
theorem sc__law_moved_item : FnScope ["items", "index", "digits", "target", "rest"] ["items", "index", "digits"] (defScope st__law_moved_item) := ⟨rfl, rfl, rfl, by decide +kernel, rfl, by decide +kernel, by decide +kernel⟩
def s__law_moved_item : SF := (sSeq (sSet 3 (fOp gMod (fOp gIx (eVar 2) (eC (.int 2))) (fCall gLen (fCons (eVar 0) fNil))))
    (sSeq (sIf (fY (fOp gEq (fOp gMod (fOp gIx (eVar 2) (eC (.int 0))) (eC (.int 3))) (eC (.int 0)))) (sRet (fOp gAdd (fSl (eVar 0) none (some (eVar 1))) (fSl (eVar 0) (some (fOp gAdd (eVar 1) (eC (.int 1)))) none))) sNil)
    (sSeq (sIf (fY (fOp gEq (fOp gMod (fOp gIx (eVar 2) (eC (.int 0))) (eC (.int 3))) (eC (.int 1)))) (sRet (fOp gAdd (fOp gAdd (fSl (eVar 0) none (some (eVar 3))) (fLst (fCons (fOp gIx (eVar 0) (eVar 1)) fNil))) (fSl (eVar 0) (some (eVar 3)) none))) sNil)
    (sSeq (sSet 4 (fOp gAdd (fSl (eVar 0) none (some (eVar 1))) (fSl (eVar 0) (some (fOp gAdd (eVar 1) (eC (.int 1)))) none)))
    (sRet (fOp gAdd (fOp gAdd (fSl (eVar 4) none (some (eVar 3))) (fLst (fCons (fOp gIx (eVar 0) (eVar 1)) fNil))) (fSl (eVar 4) (some (eVar 3)) none)))))))
def g__law_moved_item : List D → R (D × Bool) := fnD0 5 s__law_moved_item
theorem ok__law_moved_item {P : Program} {w : World} {K : PySem.W.Frag} {mg : Str → Option Value} {base : Heap} {f : Addr} {fd : FuncData} (F : Fun K "_law_moved_item" "_law_moved_item" st__law_moved_item f fd) (T : Txt mg) :
    FnOk P w K mg base CX0 1 f fd ["items", "index", "digits"] (spD K xa0 3 g__law_moved_item) :=
  fn_data F sc__law_moved_item rfl rfl fun cdv A outer s H E hr => (pz_cons (pz_set 3 (px_op op_mod od_mod (px_ix (u1 hr) (px_var 2) px_int) (px_callB cr_len cd_len T.n_len rfl (pl_cons (px_var 0) pl_nil))) sc__law_moved_item.nd)
    (pz_cons (pz_if (py_cmp (op_eqD (u64 hr)) od_eq (px_op op_mod od_mod (px_ix (u1 hr) (px_var 2) px_int) px_int) px_int) (pz_one (pz_ret (px_op or_add od_add (px_slice (px_var 0) pp_none (pp_some (px_var 1))) (px_slice (px_var 0) (pp_some (px_op or_add od_add (px_var 1) px_int)) pp_none)))) pz_nil)
    (pz_cons (pz_if (py_cmp (op_eqD (u64 hr)) od_eq (px_op op_mod od_mod (px_ix (u1 hr) (px_var 2) px_int) px_int) px_int) (pz_one (pz_ret (px_op or_add od_add (px_op or_add od_add (px_slice (px_var 0) pp_none (pp_some (px_var 3))) (px_lst (pl_cons (px_ix (u1 hr) (px_var 0) (px_var 1)) pl_nil))) (px_slice (px_var 0) (pp_some (px_var 3)) pp_none)))) pz_nil)
    (pz_cons (pz_set 4 (px_op or_add od_add (px_slice (px_var 0) pp_none (pp_some (px_var 1))) (px_slice (px_var 0) (pp_some (px_op or_add od_add (px_var 1) px_int)) pp_none)) sc__law_moved_item.nd)
    (pz_one (pz_ret (px_op or_add od_add (px_op or_add od_add (px_slice (px_var 4) pp_none (pp_some (px_var 3))) (px_lst (pl_cons (px_ix (u1 hr) (px_var 0) (px_var 1)) pl_nil))) (px_slice (px_var 4) (pp_some (px_var 3)) pp_none))))))))
/-! _law_change_at -/ -- slots: 0 value, 1 path, 2 digits, 3 items
abbrev st__law_change_at : Stmt := top 19
theorem sc__law_change_at : FnScope ["value", "path", "digits", "items"] ["value", "path", "digits"] (defScope st__law_change_at) := ⟨rfl, rfl, rfl, by decide +kernel, rfl, by decide +kernel, by decide +kernel⟩
def s__law_change_at (g__law_change_at : List D → R (D × Bool)) : SF := (sSeq (sIf (fY (fOp gEq (eVar 1) (fTup fNil))) (sRet (fCall g__law_other_value (fCons (eVar 0) (fCons (eVar 2) fNil)))) sNil)
    (sSeq (sOwn 3 (fCall gList (fCons (eVar 0) fNil)))
    (sSeq (sIf (fAndT (fY (fOp gEq (fCall gLen (fCons (eVar 1) fNil)) (eC (.int 1)))) (fY (fOp gEq (fOp gMod (fOp gIx (eVar 2) (eC (.int 3))) (eC (.int 2))) (eC (.int 0))))) (sSeq (sShare 3)
    (sOwn 3 (fCall g__law_moved_item (fCons (eVar 3) (fCons (fOp gIx (eVar 1) (eC (.int 0))) (fCons (eVar 2) fNil)))))) (sPutL 3 (fOp gIx (eVar 1) (eC (.int 0))) (fCall g__law_change_at (fCons (fIxO 3 (fOp gIx (eVar 1) (eC (.int 0)))) (fCons (fSl (eVar 1) (some (eC (.int 1))) none) (fCons (eVar 2) fNil))))))
    (sSeq (sShare 3)
    (sRet (fIf (fY (fIsi "list" (eVar 0))) (eVar 3) (fCall gTuple (fCons (eVar 3) fNil))))))))
def g__law_change_at_n : Nat → List D → R (D × Bool)
  | 0 => fun _ => .st
  | n + 1 => fnD0 4 (s__law_change_at (g__law_change_at_n n))
def g__law_change_at : List D → R (D × Bool) := g__law_change_at_n 10
theorem ok__law_change_at {P : Program} {w : World} {K : PySem.W.Frag} {mg : Str → Option Value} {base : Heap} {f : Addr} {fd : FuncData} (F : Fun K "_law_change_at" "_law_change_at" st__law_change_at f fd) (T : Txt mg) (C__law_other_value : Cl P w K mg base 1 "_law_other_value" ["value", "digits"] g__law_other_value) (C__law_moved_item : Cl P w K mg base 1 "_law_moved_item" ["items", "index", "digits"] g__law_moved_item) (hs : mg "_law_change_at" = some (.ref f)) (hk : PySem.W.keepIn K (.ref f) = true) (hb : Binds K fd ["value", "path", "digits"] []) :
    ∀ n : Nat, FnOk P w K mg base CX0 (2 + n) f fd ["value", "path", "digits"] (spD K xa0 3 (g__law_change_at_n n))
  | 0 => fn_none rfl
  | n + 1 => by
    have C__law_change_at : Cl P w K mg base (2 + n) "_law_change_at" ["value", "path", "digits"] (g__law_change_at_n n) := ⟨f, fd, ok__law_change_at F T C__law_other_value C__law_moved_item hs hk hb n, hs, hk, hb⟩
    show FnOk P w K mg base CX0 ((2 + n) + 1) f fd ["value", "path", "digits"] (spD K xa0 3 (g__law_change_at_n (n + 1)))
    exact fn_data F sc__law_change_at rfl rfl fun cdv A outer s H E hr => (pz_cons (pz_if (py_cmp (op_eqD (u64 hr)) od_eq (px_var 1) (px_tup pl_nil)) (pz_one (pz_ret (px_callC C__law_other_value (hr.mono (by omega)) pass0 (pl_cons (px_var 0) (pl_cons (px_var 2) pl_nil))))) pz_nil)
    (pz_cons (pz_own 3 (px_callTy call_list_of cd_list T.n_list rfl (pl_cons (px_var 0) pl_nil)) sc__law_change_at.nd)
    (pz_cons (pz_if (py_w (pw'_and (py_cmp (op_eqD (u64 hr)) od_eq (px_callB cr_len cd_len T.n_len rfl (pl_cons (px_var 1) pl_nil)) px_int) (pw'_and1 (py_cmp (op_eqD (u64 hr)) od_eq (px_op op_mod od_mod (px_ix (u1 hr) (px_var 2) px_int) px_int) px_int)))) (pz_share 3 (pz_one (pz_own 3 (px_callC C__law_moved_item (hr.mono (by omega)) pass0 (pl_cons (px_var 3) (pl_cons (px_ix (u1 hr) (px_var 1) px_int) (pl_cons (px_var 2) pl_nil)))) sc__law_change_at.nd))) (pz_one (pz_putL 3 (px_ix (u1 hr) (px_var 1) px_int) (px_callC C__law_change_at (hr.mono (by omega)) pass0 (pl_cons (px_ixO 3 (u1 hr) (px_ix (u1 hr) (px_var 1) px_int)) (pl_cons (px_slice (px_var 1) (pp_some px_int) pp_none) (pl_cons (px_var 2) pl_nil)))))))
    (pz_share 3 (pz_one (pz_ret (px_if (py_val (px_isi "list" T.n_isinstance T.n_list rfl (by decide) (px_var 0))) (px_var 3) (px_callTy call_tuple_of cd_tuple T.n_tuple rfl (pl_cons (px_var 3) pl_nil)))))))))
/-! _law_mutated -/ -- slots: 0 value, 1 digits, 2 paths
abbrev st__law_mutated : Stmt := top 20
theorem sc__law_mutated : FnScope ["value", "digits", "paths"] ["value", "digits"] (defScope st__law_mutated) := ⟨rfl, rfl, rfl, by decide +kernel, rfl, by decide +kernel, by decide +kernel⟩
def s__law_mutated : SF := (sSeq (sSet 2 (fCall g__law_paths (fCons (eVar 0) fNil)))
    (sRet (fCall g__law_change_at (fCons (eVar 0) (fCons (fOp gIx (eVar 2) (fOp gMod (fOp gIx (eVar 1) (eC (.int 4))) (fCall gLen (fCons (eVar 2) fNil)))) (fCons (eVar 1) fNil))))))
def g__law_mutated : List D → R (D × Bool) := fnD0 3 s__law_mutated
theorem ok__law_mutated {P : Program} {w : World} {K : PySem.W.Frag} {mg : Str → Option Value} {base : Heap} {f : Addr} {fd : FuncData} (F : Fun K "_law_mutated" "_law_mutated" st__law_mutated f fd) (T : Txt mg) (C__law_paths : Cl P w K mg base 11 "_law_paths" ["value"] g__law_paths) (C__law_change_at : Cl P w K mg base 12 "_law_change_at" ["value", "path", "digits"] g__law_change_at) :
    FnOk P w K mg base CX0 13 f fd ["value", "digits"] (spD K xa0 2 g__law_mutated) :=
  fn_data F sc__law_mutated rfl rfl fun cdv A outer s H E hr => (pz_cons (pz_set 2 (px_callC C__law_paths (hr.mono (by decide)) pass0 (pl_cons (px_var 0) pl_nil)) sc__law_mutated.nd)
    (pz_one (pz_ret (px_callC C__law_change_at (hr.mono (by decide)) pass0 (pl_cons (px_var 0) (pl_cons (px_ix (u1 hr) (px_var 2) (px_op op_mod od_mod (px_ix (u1 hr) (px_var 1) px_int) (px_callB cr_len cd_len T.n_len rfl (pl_cons (px_var 2) pl_nil)))) (pl_cons (px_var 1) pl_nil)))))))
/-! _law_any_value -/ -- slots: 0 digits, 1 depth, 2 choice, 3 number, 4 parts, 5 k
abbrev st__law_any_value : Stmt := top 21
theorem sc__law_any_value : FnScope ["digits", "depth", "choice", "number", "parts", "k"] ["digits", "depth"] (defScope st__law_any_value) := ⟨rfl, rfl, rfl, by decide +kernel, rfl, by decide +kernel, by decide +kernel⟩
def s__law_any_value (g__law_any_value : List D → R (D × Bool)) : SF := (sSeq (sSet 2 (fOp gMod (fOp gIx (eVar 0) (eVar 1)) (eC (.int 12))))
    (sSeq (sSet 3 (fOp gIx (fLst (fCons (fOp gSub (fOp gMod (fOp gIx (eVar 0) (fOp gAdd (eVar 1) (eC (.int 1)))) (eC (.int 12))) (eC (.int 2))) (fCons (fOp gSub (eC (.int 0)) (fOp gPow (eC (.int 10)) (eC (.int 39)))) (fCons (fOp gPow (eC (.int 10)) (eC (.int 39))) fNil)))) (fOp gMod (fOp gIx (eVar 0) (fOp gAdd (eVar 1) (eC (.int 2)))) (eC (.int 3)))))
    (sSeq (sIf (fOrT (fY (fOp gLt (eVar 2) (eC (.int 4)))) (fY (fOp gGt (eVar 1) (eC (.int 3))))) (sRet (eVar 3)) sNil)
    (sSeq (sIf (fY (fOp gLt (eVar 2) (eC (.int 7)))) (sRet (fOp gIx (fLst (fCons (eC (.bl true)) (fCons (eC (.bl false)) (fCons (eC .non) fNil)))) (fOp gSub (eVar 2) (eC (.int 4))))) sNil)
    (sSeq (sIf (fY (fOp gLt (eVar 2) (eC (.int 9)))) (sRet (fOp gIx (fLst (fCons (eC (.str ⟨⟨[]⟩⟩)) (fCons (eC (.str ⟨⟨[48]⟩⟩)) (fCons (eC (.str ⟨⟨[97]⟩⟩)) (fCons (eC (.str ⟨⟨[97, 120]⟩⟩)) (fCons (eC (.str ⟨⟨[51]⟩⟩)) (fCons (eC (.str ⟨⟨[110, 111, 110, 101]⟩⟩)) (fCons (eC (.str ⟨⟨[65]⟩⟩)) (fCons (eC (.str ⟨⟨[126]⟩⟩)) fNil))))))))) (fOp gMod (fOp gIx (eVar 0) (fOp gAdd (eVar 1) (eC (.int 3)))) (eC (.int 8))))) sNil)
    (sSeq (sSet 4 (fLc (fun ρ => ((fCons (fOp gMod (fOp gIx (eVar 0) (fOp gAdd (eVar 1) (eC (.int 4)))) (eC (.int 4))) fNil) ρ).bind gR1) (gN 5) fYes (fCall g__law_any_value (fCons (fOp gAdd (fSl (eVar 0) (some (eVar 5)) none) (fSl (eVar 0) none (some (eVar 5)))) (fCons (fOp gAdd (eVar 1) (eC (.int 1))) fNil))) [5]))
    (sRet (fIf (fY (fOp gEq (eVar 2) (eC (.int 9)))) (eVar 4) (fCall gTuple (fCons (eVar 4) fNil))))))))))
def g__law_any_value_n : Nat → List D → R (D × Bool)
  | 0 => fun _ => .st
  | n + 1 => fnD0 6 (s__law_any_value (g__law_any_value_n n))
def g__law_any_value : List D → R (D × Bool) := g__law_any_value_n 10
theorem ok__law_any_value {P : Program} {w : World} {K : PySem.W.Frag} {mg : Str → Option Value} {base : Heap} {f : Addr} {fd : FuncData} (F : Fun K "_law_any_value" "_law_any_value" st__law_any_value f fd) (T : Txt mg) (hs : mg "_law_any_value" = some (.ref f)) (hk : PySem.W.keepIn K (.ref f) = true) (hb : Binds K fd ["digits", "depth"] []) :
    ∀ n : Nat, FnOk P w K mg base CX0 (1 + n) f fd ["digits", "depth"] (spD K xa0 2 (g__law_any_value_n n))
  | 0 => fn_none rfl
  | n + 1 => by
    have C__law_any_value : Cl P w K mg base (1 + n) "_law_any_value" ["digits", "depth"] (g__law_any_value_n n) := ⟨f, fd, ok__law_any_value F T hs hk hb n, hs, hk, hb⟩
    show FnOk P w K mg base CX0 ((1 + n) + 1) f fd ["digits", "depth"] (spD K xa0 2 (g__law_any_value_n (n + 1)))
    exact fn_data F sc__law_any_value rfl rfl fun cdv A outer s H E hr => (pz_cons (pz_set 2 (px_op op_mod od_mod (px_ix (u1 hr) (px_var 0) (px_var 1)) px_int) sc__law_any_value.nd)
    (pz_cons (pz_set 3 (px_ix (u1 hr) (px_lst (pl_cons (px_op op_sub od_sub (px_op op_mod od_mod (px_ix (u1 hr) (px_var 0) (px_op or_add od_add (px_var 1) px_int)) px_int) px_int) (pl_cons (px_op op_sub od_sub px_int (px_op op_pow od_pow px_int px_int)) (pl_cons (px_op op_pow od_pow px_int px_int) pl_nil)))) (px_op op_mod od_mod (px_ix (u1 hr) (px_var 0) (px_op or_add od_add (px_var 1) px_int)) px_int)) sc__law_any_value.nd)
    (pz_cons (pz_if (py_w (pw'_or (py_cmp or_lt od_lt (px_var 2) px_int) (pw'_or1 (py_cmp or_gt od_gt (px_var 1) px_int)))) (pz_one (pz_ret (px_var 3))) pz_nil)
    (pz_cons (pz_if (py_cmp or_lt od_lt (px_var 2) px_int) (pz_one (pz_ret (px_ix (u1 hr) (px_lst (pl_cons px_bl (pl_cons px_bl (pl_cons px_non pl_nil)))) (px_op op_sub od_sub (px_var 2) px_int)))) pz_nil)
    (pz_cons (pz_if (py_cmp or_lt od_lt (px_var 2) px_int) (pz_one (pz_ret (px_ix (u1 hr) (px_lst (pl_cons px_strE (pl_cons px_strE (pl_cons px_strE (pl_cons px_strE (pl_cons px_strE (pl_cons px_strE (pl_cons px_strE (pl_cons px_strE pl_nil))))))))) (px_op op_mod od_mod (px_ix (u1 hr) (px_var 0) (px_op or_add od_add (px_var 1) px_int)) px_int)))) pz_nil)
    (pz_cons (pz_setLc 4 [("k", 5)] rfl sc__law_any_value.nd (pix_range1 T.n_range (pl_cons (px_op op_mod od_mod (px_ix (u1 hr) (px_var 0) (px_op or_add od_add (px_var 1) px_int)) px_int) pl_nil)) (by first | rfl | decide +kernel) (fun _ _ _ _ _ => (pg_name (i := 5) sc__law_any_value.nd rfl (by first | exact Or.inl rfl | exact Or.inr rfl))) (tg_name 5) (tw_name (by decide)) (fun _ _ _ _ _ => pts_nil) tt_yes (fun _ _ _ _ _ => (px_callC C__law_any_value (hr.mono (by omega)) pass0 (pl_cons (px_op or_add od_add (px_slice (px_var 0) (pp_some (px_var 5)) pp_none) (px_slice (px_var 0) pp_none (pp_some (px_var 5)))) (pl_cons (px_op or_add od_add (px_var 1) px_int) pl_nil)))))
    (pz_one (pz_ret (px_if (py_cmp (op_eqD (u64 hr)) od_eq (px_var 2) px_int) (px_var 4) (px_callTy call_tuple_of cd_tuple T.n_tuple rfl (pl_cons (px_var 4) pl_nil)))))))))))
/-! _law_word -/ -- slots: 0 up, 1 down, 2 size, 3 end, 4 word, 5 removed
abbrev st__law_word : Stmt := top 22
theorem sc__law_word : FnScope ["up", "down", "size", "end", "word", "removed"] ["up", "down"] (defScope st__law_word) := ⟨rfl, rfl, rfl, by decide +kernel, rfl, by decide +kernel, by decide +kernel⟩
def s__law_word : SF := (sSeq (sIf (fOrT (fY (fOp gEq (eVar 1) (eC (.int 0)))) (fY (fOp gEq (eVar 0) (eC (.int 0))))) (sSeq (sSet 2 (fCall gMax (fCons (eVar 0) (fCons (eVar 1) fNil))))
    (sSeq (sSet 3 (fIf (fY (fOp gEq (eVar 1) (eC (.int 0)))) (eC (.str ⟨⟨[112, 97, 114, 101, 110, 116]⟩⟩)) (eC (.str ⟨⟨[99, 104, 105, 108, 100]⟩⟩))))
    (sRet (fIf (fY (fOp gEq (eVar 2) (eC (.int 1)))) (eVar 3) (fOp gAdd (fOp gAdd (fOp gMul (eC (.str ⟨⟨[103, 114, 101, 97, 116, 45]⟩⟩)) (fOp gSub (eVar 2) (eC (.int 2)))) (eC (.str ⟨⟨[103, 114, 97, 110, 100]⟩⟩))) (eVar 3)))))) sNil)
    (sSeq (sIf (fY (fOp gEq (fTup (fCons (eVar 0) (fCons (eVar 1) fNil))) (fTup (fCons (eC (.int 1)) (fCons (eC (.int 1)) fNil))))) (sRet (eC (.str ⟨⟨[115, 105, 98, 108, 105, 110, 103]⟩⟩))) sNil)
    (sSeq (sIf (fOrT (fY (fOp gEq (eVar 0) (eC (.int 1)))) (fY (fOp gEq (eVar 1) (eC (.int 1))))) (sSeq (sSet 2 (fCall gMax (fCons (eVar 0) (fCons (eVar 1) fNil))))
    (sSeq (sSet 3 (fIf (fY (fOp gEq (eVar 1) (eC (.int 1)))) (eC (.str ⟨⟨[112, 105, 98, 108, 105, 110, 103]⟩⟩)) (eC (.str ⟨⟨[110, 105, 98, 108, 105, 110, 103]⟩⟩))))
    (sRet (fIf (fY (fOp gEq (eVar 2) (eC (.int 2)))) (eVar 3) (fOp gAdd (fOp gAdd (fOp gMul (eC (.str ⟨⟨[103, 114, 101, 97, 116, 45]⟩⟩)) (fOp gSub (eVar 2) (eC (.int 3)))) (eC (.str ⟨⟨[103, 114, 97, 110, 100]⟩⟩))) (eVar 3)))))) sNil)
    (sSeq (sPar 4 5 (fOp gAdd (eC (.str ⟨⟨[99, 111, 117, 115, 105, 110, 32]⟩⟩)) (fCall gStr (fCons (fOp gSub (fCall gMin (fCons (eVar 0) (fCons (eVar 1) fNil))) (eC (.int 1))) fNil))) (fOp gSub (fCall gMax (fCons (eVar 0) (fCons (eVar 1) fNil))) (fCall gMin (fCons (eVar 0) (fCons (eVar 1) fNil)))))
    (sRet (fIf (fY (fOp gEq (eVar 5) (eC (.int 0)))) (eVar 4) (fOp gAdd (fOp gAdd (eVar 4) (eC (.str ⟨⟨[32, 114, 101, 109, 111, 118, 101, 100, 32]⟩⟩))) (fCall gStr (fCons (eVar 5) fNil)))))))))
def g__law_word : List D → R (D × Bool) := fnD0 6 s__law_word
theorem ok__law_word {P : Program} {w : World} {K : PySem.W.Frag} {mg : Str → Option Value} {base : Heap} {f : Addr} {fd : FuncData} (F : Fun K "_law_word" "_law_word" st__law_word f fd) (T : Txt mg) :
    FnOk P w K mg base CX0 1 f fd ["up", "down"] (spD K xa0 2 g__law_word) :=
  fn_data F sc__law_word rfl rfl fun cdv A outer s H E hr => (pz_cons (pz_if (py_w (pw'_or (py_cmp (op_eqD (u64 hr)) od_eq (px_var 1) px_int) (pw'_or1 (py_cmp (op_eqD (u64 hr)) od_eq (px_var 0) px_int)))) (pz_cons (pz_set 2 (px_callB (cr_maxD rfl) cd_max T.n_max rfl (pl_cons (px_var 0) (pl_cons (px_var 1) pl_nil))) sc__law_word.nd)
    (pz_cons (pz_set 3 (px_if (py_cmp (op_eqD (u64 hr)) od_eq (px_var 1) px_int) px_strE px_strE) sc__law_word.nd)
    (pz_one (pz_ret (px_if (py_cmp (op_eqD (u64 hr)) od_eq (px_var 2) px_int) (px_var 3) (px_op or_add od_add (px_op or_add od_add (px_op or_mul od_mul px_strE (px_op op_sub od_sub (px_var 2) px_int)) px_strE) (px_var 3))))))) pz_nil)
    (pz_cons (pz_if (py_cmp (op_eqD (u64 hr)) od_eq (px_tup (pl_cons (px_var 0) (pl_cons (px_var 1) pl_nil))) (px_tup (pl_cons px_int (pl_cons px_int pl_nil)))) (pz_one (pz_ret px_strE)) pz_nil)
    (pz_cons (pz_if (py_w (pw'_or (py_cmp (op_eqD (u64 hr)) od_eq (px_var 0) px_int) (pw'_or1 (py_cmp (op_eqD (u64 hr)) od_eq (px_var 1) px_int)))) (pz_cons (pz_set 2 (px_callB (cr_maxD rfl) cd_max T.n_max rfl (pl_cons (px_var 0) (pl_cons (px_var 1) pl_nil))) sc__law_word.nd)
    (pz_cons (pz_set 3 (px_if (py_cmp (op_eqD (u64 hr)) od_eq (px_var 1) px_int) px_strE px_strE) sc__law_word.nd)
    (pz_one (pz_ret (px_if (py_cmp (op_eqD (u64 hr)) od_eq (px_var 2) px_int) (px_var 3) (px_op or_add od_add (px_op or_add od_add (px_op or_mul od_mul px_strE (px_op op_sub od_sub (px_var 2) px_int)) px_strE) (px_var 3))))))) pz_nil)
    (pz_cons (pz_par 4 5 rfl sc__law_word.nd (px_op or_add od_add px_strE (px_callTy call_str_int cd_str T.n_str rfl (pl_cons (px_op op_sub od_sub (px_callB (cr_minD rfl) cd_min T.n_min rfl (pl_cons (px_var 0) (pl_cons (px_var 1) pl_nil))) px_int) pl_nil))) (px_op op_sub od_sub (px_callB (cr_maxD rfl) cd_max T.n_max rfl (pl_cons (px_var 0) (pl_cons (px_var 1) pl_nil))) (px_callB (cr_minD rfl) cd_min T.n_min rfl (pl_cons (px_var 0) (pl_cons (px_var 1) pl_nil)))))
    (pz_one (pz_ret (px_if (py_cmp (op_eqD (u64 hr)) od_eq (px_var 5) px_int) (px_var 4) (px_op or_add od_add (px_op or_add od_add (px_var 4) px_strE) (px_callTy call_str_int cd_str T.n_str rfl (pl_cons (px_var 5) pl_nil))))))))))
/-! _law_pairs -/ -- slots: 0 most, 1 found, 2 up, 3 down
abbrev st__law_pairs : Stmt := top 23
theorem sc__law_pairs : FnScope ["most", "found", "up", "down"] ["most"] (defScope st__law_pairs) := ⟨rfl, rfl, rfl, by decide +kernel, rfl, by decide +kernel, by decide +kernel⟩
def b__law_pairs_1 : SF := (sIf (fY (fOp gNe (fTup (fCons (eVar 2) (fCons (eVar 3) fNil))) (fTup (fCons (eC (.int 0)) (fCons (eC (.int 0)) fNil))))) (sApp 1 (fTup (fCons (eVar 2) (fCons (eVar 3) fNil)))) sNil)
def b__law_pairs_2 : SF := (sFor (fun ρ => ((fCons (fOp gAdd (eVar 0) (eC (.int 1))) fNil) ρ).bind gR1) (gN 3) b__law_pairs_1)
def s__law_pairs : SF := (sSeq (sOwn 1 (fLst fNil))
    (sSeq (sFor (fun ρ => ((fCons (fOp gAdd (eVar 0) (eC (.int 1))) fNil) ρ).bind gR1) (gN 2) b__law_pairs_2)
    (sRetV 1)))
def g__law_pairs : List D → R (D × Bool) := fnD0 4 s__law_pairs
theorem ok__law_pairs {P : Program} {w : World} {K : PySem.W.Frag} {mg : Str → Option Value} {base : Heap} {f : Addr} {fd : FuncData} (F : Fun K "_law_pairs" "_law_pairs" st__law_pairs f fd) (T : Txt mg) :
    FnOk P w K mg base CX0 1 f fd ["most"] (spD K xa0 1 g__law_pairs) :=
  fn_data F sc__law_pairs rfl rfl fun cdv A outer s H E hr => (pz_cons (pz_own 1 (px_lst pl_nil) sc__law_pairs.nd)
    (pz_cons (pz_for PassesOwn.never rfl (pix_range1 T.n_range (pl_cons (px_op or_add od_add (px_var 0) px_int) pl_nil)) (pg_name (i := 2) sc__law_pairs.nd rfl (by first | exact Or.inl rfl | exact Or.inr rfl)) (tg_name 2) (pz_one (pz_for PassesOwn.never rfl (pix_range1 T.n_range (pl_cons (px_op or_add od_add (px_var 0) px_int) pl_nil)) (pg_name (i := 3) sc__law_pairs.nd rfl (by first | exact Or.inl rfl | exact Or.inr rfl)) (tg_name 3) (pz_one (pz_if (py_cmp (op_neD (u64 hr)) od_ne (px_tup (pl_cons (px_var 2) (pl_cons (px_var 3) pl_nil))) (px_tup (pl_cons px_int (pl_cons px_int pl_nil)))) (pz_one (pz_append 1 (px_tup (pl_cons (px_var 2) (pl_cons (px_var 3) pl_nil))))) pz_nil)))))
    (pz_one (pz_retV 1))))
/-! _law_readings -/ -- slots: 0 word, 1 pair
abbrev st__law_readings : Stmt := top 24
theorem sc__law_readings : FnScope ["word", "pair"] ["word"] (defScope st__law_readings) := ⟨rfl, rfl, rfl, by decide +kernel, rfl, by decide +kernel, by decide +kernel⟩
def s__law_readings : SF := (sRet (fLc (fIt seqA (fCall g__law_pairs (fCons (eC (.int 12)) fNil))) (gN 1) (fY (fOp gEq (fCall g__law_word (fCons (fOp gIx (eVar 1) (eC (.int 0))) (fCons (fOp gIx (eVar 1) (eC (.int 1))) fNil))) (eVar 0))) (eVar 1) [1]))
def g__law_readings : List D → R (D × Bool) := fnD0 2 s__law_readings
theorem ok__law_readings {P : Program} {w : World} {K : PySem.W.Frag} {mg : Str → Option Value} {base : Heap} {f : Addr} {fd : FuncData} (F : Fun K "_law_readings" "_law_readings" st__law_readings f fd) (T : Txt mg) (C__law_pairs : Cl P w K mg base 1 "_law_pairs" ["most"] g__law_pairs) (C__law_word : Cl P w K mg base 1 "_law_word" ["up", "down"] g__law_word) :
    FnOk P w K mg base CX0 2 f fd ["word"] (spD K xa0 1 g__law_readings) :=
  fn_data F sc__law_readings rfl rfl fun cdv A outer s H E hr => (pz_one (pz_ret (px_lc [("pair", 1)] rfl sc__law_readings.nd (pix_any (px_callC C__law_pairs (hr.mono (by decide)) pass0 (pl_cons px_int pl_nil))) (by first | rfl | decide +kernel) (fun _ _ _ _ _ => (pg_name (i := 1) sc__law_readings.nd rfl (by first | exact Or.inl rfl | exact Or.inr rfl))) (tg_name 1) (tw_name (by decide)) (fun _ _ _ _ _ => pts_one (py_cmp (op_eqD (u64 hr)) od_eq (px_callC C__law_word (hr.mono (by decide)) pass0 (pl_cons (px_ix (u1 hr) (px_var 1) px_int) (pl_cons (px_ix (u1 hr) (px_var 1) px_int) pl_nil))) (px_var 0))) tt_one (fun _ _ _ _ _ => (px_var 1)))))
/-! _law_tree -/ -- slots: 0 digits, 1 many, 2 parents, 3 k, 4 digit
abbrev st__law_tree : Stmt := top 25
theorem sc__law_tree : FnScope ["digits", "many", "parents", "k", "digit"] ["digits", "many"] (defScope st__law_tree) := ⟨rfl, rfl, rfl, by decide +kernel, rfl, by decide +kernel, by decide +kernel⟩
def b__law_tree_1 : SF := (sSeq (sSet 4 (fOp gIx (eVar 0) (eVar 3)))
    (sIf (fOrT (fY (fOp gEq (eVar 3) (eC (.int 0)))) (fY (fOp gEq (fOp gMod (eVar 4) (eC (.int 7))) (eC (.int 0))))) (sApp 2 (fOp gSub (eC (.int 0)) (eC (.int 1)))) (sApp 2 (fOp gIx (fLst (fCons (fCall gMax (fCons (eC (.int 0)) (fCons (fOp gSub (fOp gSub (eVar 3) (eC (.int 1))) (fOp gMod (fOp gDiv (eVar 4) (eC (.int 7))) (eC (.int 3)))) fNil))) (fCons (fOp gMod (fOp gDiv (eVar 4) (eC (.int 7))) (eVar 3)) fNil))) (fOp gMod (fOp gDiv (eVar 4) (eC (.int 21))) (eC (.int 2)))))))
def s__law_tree : SF := (sSeq (sOwn 2 (fLst fNil))
    (sSeq (sFor (fun ρ => ((fCons (eVar 1) fNil) ρ).bind gR1) (gN 3) b__law_tree_1)
    (sRetV 2)))
def g__law_tree : List D → R (D × Bool) := fnD0 5 s__law_tree
theorem ok__law_tree {P : Program} {w : World} {K : PySem.W.Frag} {mg : Str → Option Value} {base : Heap} {f : Addr} {fd : FuncData} (F : Fun K "_law_tree" "_law_tree" st__law_tree f fd) (T : Txt mg) :
    FnOk P w K mg base CX0 1 f fd ["digits", "many"] (spD K xa0 2 g__law_tree) :=
  fn_data F sc__law_tree rfl rfl fun cdv A outer s H E hr => (pz_cons (pz_own 2 (px_lst pl_nil) sc__law_tree.nd)
    (pz_cons (pz_for PassesOwn.never rfl (pix_range1 T.n_range (pl_cons (px_var 1) pl_nil)) (pg_name (i := 3) sc__law_tree.nd rfl (by first | exact Or.inl rfl | exact Or.inr rfl)) (tg_name 3) (pz_cons (pz_set 4 (px_ix (u1 hr) (px_var 0) (px_var 3)) sc__law_tree.nd)
    (pz_one (pz_if (py_w (pw'_or (py_cmp (op_eqD (u64 hr)) od_eq (px_var 3) px_int) (pw'_or1 (py_cmp (op_eqD (u64 hr)) od_eq (px_op op_mod od_mod (px_var 4) px_int) px_int)))) (pz_one (pz_append 2 (px_op op_sub od_sub px_int px_int))) (pz_one (pz_append 2 (px_ix (u1 hr) (px_lst (pl_cons (px_callB (cr_maxD rfl) cd_max T.n_max rfl (pl_cons px_int (pl_cons (px_op op_sub od_sub (px_op op_sub od_sub (px_var 3) px_int) (px_op op_mod od_mod (px_op op_fdivW od_div (px_var 4) px_int) px_int)) pl_nil))) (pl_cons (px_op op_mod od_mod (px_op op_fdivW od_div (px_var 4) px_int) (px_var 3)) pl_nil))) (px_op op_mod od_mod (px_op op_fdivW od_div (px_var 4) px_int) px_int))))))))
    (pz_one (pz_retV 2))))
/-! _law_line -/ -- slots: 0 parents, 1 one, 2 found
abbrev st__law_line : Stmt := top 26
theorem sc__law_line : FnScope ["parents", "one", "found"] ["parents", "one"] (defScope st__law_line) := ⟨rfl, rfl, rfl, by decide +kernel, rfl, by decide +kernel, by decide +kernel⟩
def b__law_line_1 : SF := (sApp 2 (fPeek (fOp gIx (eVar 0) (fOp gIx (eVar 2) (fNeg (eC (.int 1)))))))
def s__law_line : SF := (sSeq (sOwn 2 (fLst (fCons (eVar 1) fNil)))
    (sSeq (whileL (fPeekB (fY (fOp gGe (fOp gIx (eVar 0) (fOp gIx (eVar 2) (fNeg (eC (.int 1))))) (eC (.int 0))))) b__law_line_1 200)
    (sRetV 2)))
def g__law_line : List D → R (D × Bool) := fnD0 3 s__law_line
theorem ok__law_line {P : Program} {w : World} {K : PySem.W.Frag} {mg : Str → Option Value} {base : Heap} {f : Addr} {fd : FuncData} (F : Fun K "_law_line" "_law_line" st__law_line f fd) (T : Txt mg) :
    FnOk P w K mg base CX0 1 f fd ["parents", "one"] (spD K xa0 2 g__law_line) :=
  fn_data F sc__law_line rfl rfl fun cdv A outer s H E hr => (pz_cons (pz_own 2 (px_lst (pl_cons (px_var 1) pl_nil)) sc__law_line.nd)
    (pz_cons (pz_while 200 PassesOwn.never (py_peek (py_cmp or_ge od_ge (px_ix (u1 hr) (px_var 0) (px_ix (u1 hr) (px_var 2) (px_neg px_int))) px_int)) (pz_one (pz_append 2 (px_peek (px_ix (u1 hr) (px_var 0) (px_ix (u1 hr) (px_var 2) (px_neg px_int)))))))
    (pz_one (pz_retV 2))))
/-! _law_pair -/ -- slots: 0 parents, 1 one, 2 other, 3 common, 4 first, 5 second, 6 person
abbrev st__law_pair : Stmt := top 27
theorem sc__law_pair : FnScope ["parents", "one", "other", "common", "first", "second", "person"] ["parents", "one", "other"] (defScope st__law_pair) := ⟨rfl, rfl, rfl, by decide +kernel, rfl, by decide +kernel, by decide +kernel⟩
def s__law_pair : SF := (sSeq (sAsg (gT [4, 5]) (fTup (fCons (fCall g__law_line (fCons (eVar 0) (fCons (eVar 1) fNil))) (fCons (fCall g__law_line (fCons (eVar 0) (fCons (eVar 2) fNil))) fNil))))
    (sSeq (sSet 3 (fLc (fIt seqA (eVar 4)) (gN 6) (fY (fOp gIn (eVar 6) (eVar 5))) (eVar 6) [6]))
    (sSeq (sIf (fOrT (fY (fOp gEq (eVar 3) (fLst fNil))) (fY (fOp gEq (eVar 1) (eVar 2)))) (sRet (eC .non)) sNil)
    (sRet (fTup (fCons (fIndex (eVar 5) (fOp gIx (eVar 3) (eC (.int 0)))) (fCons (fIndex (eVar 4) (fOp gIx (eVar 3) (eC (.int 0)))) fNil)))))))
def g__law_pair : List D → R (D × Bool) := fnD0 7 s__law_pair
theorem ok__law_pair {P : Program} {w : World} {K : PySem.W.Frag} {mg : Str → Option Value} {base : Heap} {f : Addr} {fd : FuncData} (F : Fun K "_law_pair" "_law_pair" st__law_pair f fd) (T : Txt mg) (C__law_line : Cl P w K mg base 1 "_law_line" ["parents", "one"] g__law_line) :
    FnOk P w K mg base CX0 2 f fd ["parents", "one", "other"] (spD K xa0 3 g__law_pair) :=
  fn_data F sc__law_pair rfl rfl fun cdv A outer s H E hr => (pz_cons (pz_asg (px_tup (pl_cons (px_callC C__law_line (hr.mono (by decide)) pass0 (pl_cons (px_var 0) (pl_cons (px_var 1) pl_nil))) (pl_cons (px_callC C__law_line (hr.mono (by decide)) pass0 (pl_cons (px_var 0) (pl_cons (px_var 2) pl_nil))) pl_nil))) (pg_tup rfl (pgs_cons (pg_name (i := 4) sc__law_pair.nd rfl (by first | exact Or.inl rfl | exact Or.inr rfl)) (pgs_cons (pg_name (i := 5) sc__law_pair.nd rfl (by first | exact Or.inl rfl | exact Or.inr rfl)) pgs_nil))) (tg_tup [4, 5]))
    (pz_cons (pz_setLc 3 [("person", 6)] rfl sc__law_pair.nd (pix_any (px_var 4)) (by first | rfl | decide +kernel) (fun _ _ _ _ _ => (pg_name (i := 6) sc__law_pair.nd rfl (by first | exact Or.inl rfl | exact Or.inr rfl))) (tg_name 6) (tw_name (by decide)) (fun _ _ _ _ _ => pts_one (py_cmp (or_in (u65 hr)) od_in (px_var 6) (px_var 5))) tt_one (fun _ _ _ _ _ => (px_var 6)))
    (pz_cons (pz_if (py_w (pw'_or (py_cmp (op_eqD (u64 hr)) od_eq (px_var 3) (px_lst pl_nil)) (pw'_or1 (py_cmp (op_eqD (u64 hr)) od_eq (px_var 1) (px_var 2))))) (pz_one (pz_ret px_non)) pz_nil)
    (pz_one (pz_ret (px_tup (pl_cons (px_index (u65 hr) (px_var 5) (px_ix (u1 hr) (px_var 3) px_int)) (pl_cons (px_index (u65 hr) (px_var 4) (px_ix (u1 hr) (px_var 3) px_int)) pl_nil))))))))
/-! _law_name -/ -- slots: 0 k
abbrev st__law_name : Stmt := top 28
theorem sc__law_name : FnScope ["k"] ["k"] (defScope st__law_name) := ⟨rfl, rfl, rfl, by decide +kernel, rfl, by decide +kernel, by decide +kernel⟩
def s__law_name : SF := (sRet (fOp gAdd (fOp gAdd (eC (.str ⟨⟨[112]⟩⟩)) (fOp gIx (eC (.str ⟨⟨[97, 98, 99, 100, 101, 102, 103, 104, 105, 106, 107, 108, 109, 110, 111, 112, 113, 114, 115, 116, 117, 118, 119, 120, 121, 122]⟩⟩)) (fOp gMod (eVar 0) (eC (.int 26))))) (fOp gIx (eC (.str ⟨⟨[120, 121, 122, 119]⟩⟩)) (fOp gDiv (eVar 0) (eC (.int 26))))))
def g__law_name : List D → R (D × Bool) := fnD0 1 s__law_name
theorem ok__law_name {P : Program} {w : World} {K : PySem.W.Frag} {mg : Str → Option Value} {base : Heap} {f : Addr} {fd : FuncData} (F : Fun K "_law_name" "_law_name" st__law_name f fd) (T : Txt mg) :
    FnOk P w K mg base CX0 1 f fd ["k"] (spD K xa0 1 g__law_name) :=
  fn_data F sc__law_name rfl rfl fun cdv A outer s H E hr => (pz_one (pz_ret (px_op or_add od_add (px_op or_add od_add px_strE (px_ix (u1 hr) px_strE (px_op op_mod od_mod (px_var 0) px_int))) (px_ix (u1 hr) px_strE (px_op op_fdivW od_div (px_var 0) px_int)))))
/-! _law_statements -/ -- slots: 0 digits, 1 most, 2 people_so, 3 parents, 4 found, 5 k, 6 one, 7 other, 8 pair
abbrev st__law_statements : Stmt := top 29
theorem sc__law_statements : FnScope ["digits", "most", "people_so", "parents", "found", "k", "one", "other", "pair"] ["digits", "most", "people_so"] (defScope st__law_statements) := ⟨rfl, rfl, rfl, by decide +kernel, rfl, by decide +kernel, by decide +kernel⟩
def b__law_statements_1 : SF := (sSeq (sSet 6 (fOp gMod (fOp gIx (eVar 0) (fOp gAdd (eC (.int 1)) (fOp gMul (eC (.int 2)) (eVar 5)))) (eVar 2)))
    (sSeq (sSet 7 (fOp gMod (fOp gIx (eVar 0) (fOp gAdd (eC (.int 2)) (fOp gMul (eC (.int 2)) (eVar 5)))) (eVar 2)))
    (sSeq (sSet 8 (fCall g__law_pair (fCons (eVar 3) (fCons (eVar 6) (fCons (eVar 7) fNil)))))
    (sIf (fY (fOp gNe (eVar 6) (eVar 7))) (sSeq (sIf (fOrT (fY (fOp gIs (eVar 8) (eC .non))) (fY (fOp gEq (fOp gMod (fOp gIx (eVar 0) (fOp gAdd (eC (.int 12)) (eVar 5))) (eC (.int 6))) (eC (.int 0))))) (sSet 8 (fTup (fCons (fOp gAdd (eC (.int 1)) (fOp gMod (fOp gDiv (fOp gIx (eVar 0) (fOp gAdd (eC (.int 12)) (eVar 5))) (eC (.int 6))) (eC (.int 3)))) (fCons (fOp gMod (fOp gDiv (fOp gIx (eVar 0) (fOp gAdd (eC (.int 12)) (eVar 5))) (eC (.int 18))) (eC (.int 4))) fNil)))) sNil)
    (sSet 4 (fOp gAdd (eVar 4) (fTup (fCons (fTup (fCons (fCall g__law_name (fCons (eVar 6) fNil)) (fCons (fCall g__law_word (fCons (fOp gIx (eVar 8) (eC (.int 0))) (fCons (fOp gIx (eVar 8) (eC (.int 1))) fNil))) (fCons (fCall g__law_name (fCons (eVar 7) fNil)) fNil)))) fNil))))) sNil))))
def s__law_statements : SF := (sSeq (sSet 3 (fCall g__law_tree (fCons (fSl (eVar 0) (some (eC (.int 20))) none) (fCons (eC (.int 9)) fNil))))
    (sSeq (sSet 4 (fTup fNil))
    (sSeq (sFor (fun ρ => ((fCons (fOp gMod (fOp gIx (eVar 0) (eC (.int 0))) (fOp gAdd (eVar 1) (eC (.int 1)))) fNil) ρ).bind gR1) (gN 5) b__law_statements_1)
    (sRet (eVar 4)))))
def g__law_statements : List D → R (D × Bool) := fnD0 9 s__law_statements
theorem ok__law_statements {P : Program} {w : World} {K : PySem.W.Frag} {mg : Str → Option Value} {base : Heap} {f : Addr} {fd : FuncData} (F : Fun K "_law_statements" "_law_statements" st__law_statements f fd) (T : Txt mg) (C__law_tree : Cl P w K mg base 1 "_law_tree" ["digits", "many"] g__law_tree) (C__law_pair : Cl P w K mg base 2 "_law_pair" ["parents", "one", "other"] g__law_pair) (C__law_name : Cl P w K mg base 1 "_law_name" ["k"] g__law_name) (C__law_word : Cl P w K mg base 1 "_law_word" ["up", "down"] g__law_word) :
    FnOk P w K mg base CX0 3 f fd ["digits", "most", "people_so"] (spD K xa0 3 g__law_statements) :=
  fn_data F sc__law_statements rfl rfl fun cdv A outer s H E hr => (pz_cons (pz_set 3 (px_callC C__law_tree (hr.mono (by decide)) pass0 (pl_cons (px_slice (px_var 0) (pp_some px_int) pp_none) (pl_cons px_int pl_nil))) sc__law_statements.nd)
    (pz_cons (pz_set 4 (px_tup pl_nil) sc__law_statements.nd)
    (pz_cons (pz_for PassesOwn.never rfl (pix_range1 T.n_range (pl_cons (px_op op_mod od_mod (px_ix (u1 hr) (px_var 0) px_int) (px_op or_add od_add (px_var 1) px_int)) pl_nil)) (pg_name (i := 5) sc__law_statements.nd rfl (by first | exact Or.inl rfl | exact Or.inr rfl)) (tg_name 5) (pz_cons (pz_set 6 (px_op op_mod od_mod (px_ix (u1 hr) (px_var 0) (px_op or_add od_add px_int (px_op or_mul od_mul px_int (px_var 5)))) (px_var 2)) sc__law_statements.nd)
    (pz_cons (pz_set 7 (px_op op_mod od_mod (px_ix (u1 hr) (px_var 0) (px_op or_add od_add px_int (px_op or_mul od_mul px_int (px_var 5)))) (px_var 2)) sc__law_statements.nd)
    (pz_cons (pz_set 8 (px_callC C__law_pair (hr.mono (by decide)) pass0 (pl_cons (px_var 3) (pl_cons (px_var 6) (pl_cons (px_var 7) pl_nil)))) sc__law_statements.nd)
    (pz_one (pz_if (py_cmp (op_neD (u64 hr)) od_ne (px_var 6) (px_var 7)) (pz_cons (pz_if (py_w (pw'_or (py_cmp or_is od_is (px_var 8) px_non) (pw'_or1 (py_cmp (op_eqD (u64 hr)) od_eq (px_op op_mod od_mod (px_ix (u1 hr) (px_var 0) (px_op or_add od_add px_int (px_var 5))) px_int) px_int)))) (pz_one (pz_set 8 (px_tup (pl_cons (px_op or_add od_add px_int (px_op op_mod od_mod (px_op op_fdivW od_div (px_ix (u1 hr) (px_var 0) (px_op or_add od_add px_int (px_var 5))) px_int) px_int)) (pl_cons (px_op op_mod od_mod (px_op op_fdivW od_div (px_ix (u1 hr) (px_var 0) (px_op or_add od_add px_int (px_var 5))) px_int) px_int) pl_nil))) sc__law_statements.nd)) pz_nil)
    (pz_one (pz_set 4 (px_op or_add od_add (px_var 4) (px_tup (pl_cons (px_tup (pl_cons (px_callC C__law_name (hr.mono (by decide)) pass0 (pl_cons (px_var 6) pl_nil)) (pl_cons (px_callC C__law_word (hr.mono (by decide)) pass0 (pl_cons (px_ix (u1 hr) (px_var 8) px_int) (pl_cons (px_ix (u1 hr) (px_var 8) px_int) pl_nil))) (pl_cons (px_callC C__law_name (hr.mono (by decide)) pass0 (pl_cons (px_var 7) pl_nil)) pl_nil)))) pl_nil))) sc__law_statements.nd))) pz_nil))))))
    (pz_one (pz_ret (px_var 4))))))
/-! _law_is_name -/ -- slots: 0 value, 1 sign
abbrev st__law_is_name : Stmt := top 30
theorem sc__law_is_name : FnScope ["value", "sign"] ["value"] (defScope st__law_is_name) := ⟨rfl, rfl, rfl, by decide +kernel, rfl, by decide +kernel, by decide +kernel⟩
def s__law_is_name : SF := (sSeq (sIf (fOrT (fNotT (fY (fIsi "str" (eVar 0)))) (fNotT (fY (fChain gLe gLe (eC (.int 1)) (fCall gLen (fCons (eVar 0) fNil)) (eC (.int 8)))))) (sRet (eC (.bl false))) sNil)
    (sRet (fOp gEq (fLc (fIt seqA (eVar 0)) (gN 1) (fY (fOp gNotIn (eVar 1) (eC (.str ⟨⟨[97, 98, 99, 100, 101, 102, 103, 104, 105, 106, 107, 108, 109, 110, 111, 112, 113, 114, 115, 116, 117, 118, 119, 120, 121, 122]⟩⟩)))) (eVar 1) [1]) (fLst fNil))))
def g__law_is_name : List D → R (D × Bool) := fnD0 2 s__law_is_name
theorem ok__law_is_name {P : Program} {w : World} {K : PySem.W.Frag} {mg : Str → Option Value} {base : Heap} {f : Addr} {fd : FuncData} (F : Fun K "_law_is_name" "_law_is_name" st__law_is_name f fd) (T : Txt mg) :
    FnOk P w K mg base CX0 1 f fd ["value"] (spD K xa0 1 g__law_is_name) :=
  fn_data F sc__law_is_name rfl rfl fun cdv A outer s H E hr => (pz_cons (pz_if (py_w (pw'_or (py_not (py_val (px_isi "str" T.n_isinstance T.n_str rfl (by decide) (px_var 0)))) (pw'_or1 (py_not (py_chain or_le or_le od_le od_le q_le px_int (px_callB cr_len cd_len T.n_len rfl (pl_cons (px_var 0) pl_nil)) px_int))))) (pz_one (pz_ret px_bl)) pz_nil)
    (pz_one (pz_ret (px_cmp (op_eqD (u64 hr)) od_eq (px_lc [("sign", 1)] rfl sc__law_is_name.nd (pix_any (px_var 0)) (by first | rfl | decide +kernel) (fun _ _ _ _ _ => (pg_name (i := 1) sc__law_is_name.nd rfl (by first | exact Or.inl rfl | exact Or.inr rfl))) (tg_name 1) (tw_name (by decide)) (fun _ _ _ _ _ => pts_one (py_cmp (or_notIn (u65 hr)) od_notIn (px_var 1) px_strE)) tt_one (fun _ _ _ _ _ => (px_var 1))) (px_lst pl_nil)))))
/-! _law_is_statement -/ -- slots: 0 value
abbrev st__law_is_statement : Stmt := top 31
theorem sc__law_is_statement : FnScope ["value"] ["value"] (defScope st__law_is_statement) := ⟨rfl, rfl, rfl, by decide +kernel, rfl, by decide +kernel, by decide +kernel⟩
def s__law_is_statement : SF := (sSeq (sIf (fOrT (fNotT (fY (fIsi "tuple" (eVar 0)))) (fOrT (fY (fOp gNe (fCall gLen (fCons (eVar 0) fNil)) (eC (.int 3)))) (fOrT (fNotT (fY (fCall g__law_is_name (fCons (fOp gIx (eVar 0) (eC (.int 0))) fNil)))) (fNotT (fY (fCall g__law_is_name (fCons (fOp gIx (eVar 0) (eC (.int 2))) fNil))))))) (sRet (eC (.bl false))) sNil)
    (sRet (fAnd (fOp gNe (fOp gIx (eVar 0) (eC (.int 0))) (fOp gIx (eVar 0) (eC (.int 2)))) (fAnd (fIsi "str" (fOp gIx (eVar 0) (eC (.int 1)))) (fOp gNe (fCall g__law_readings (fCons (fOp gIx (eVar 0) (eC (.int 1))) fNil)) (fLst fNil))))))
def g__law_is_statement : List D → R (D × Bool) := fnD0 1 s__law_is_statement
theorem ok__law_is_statement {P : Program} {w : World} {K : PySem.W.Frag} {mg : Str → Option Value} {base : Heap} {f : Addr} {fd : FuncData} (F : Fun K "_law_is_statement" "_law_is_statement" st__law_is_statement f fd) (T : Txt mg) (C__law_is_name : Cl P w K mg base 1 "_law_is_name" ["value"] g__law_is_name) (C__law_readings : Cl P w K mg base 2 "_law_readings" ["word"] g__law_readings) :
    FnOk P w K mg base CX0 3 f fd ["value"] (spD K xa0 1 g__law_is_statement) :=
  fn_data F sc__law_is_statement rfl rfl fun cdv A outer s H E hr => (pz_cons (pz_if (py_w (pw'_or (py_not (py_val (px_isi "tuple" T.n_isinstance T.n_tuple rfl (by decide) (px_var 0)))) (pw'_or (py_cmp (op_neD (u64 hr)) od_ne (px_callB cr_len cd_len T.n_len rfl (pl_cons (px_var 0) pl_nil)) px_int) (pw'_or (py_not (py_val (px_callC C__law_is_name (hr.mono (by decide)) pass0 (pl_cons (px_ix (u1 hr) (px_var 0) px_int) pl_nil)))) (pw'_or1 (py_not (py_val (px_callC C__law_is_name (hr.mono (by decide)) pass0 (pl_cons (px_ix (u1 hr) (px_var 0) px_int) pl_nil))))))))) (pz_one (pz_ret px_bl)) pz_nil)
    (pz_one (pz_ret (px_and (px_cmp (op_neD (u64 hr)) od_ne (px_ix (u1 hr) (px_var 0) px_int) (px_ix (u1 hr) (px_var 0) px_int)) (px_and (px_isi "str" T.n_isinstance T.n_str rfl (by decide) (px_ix (u1 hr) (px_var 0) px_int)) (px_one (px_cmp (op_neD (u64 hr)) od_ne (px_callC C__law_readings (hr.mono (by decide)) pass0 (pl_cons (px_ix (u1 hr) (px_var 0) px_int) pl_nil)) (px_lst pl_nil))))))))
/-! law -/ -- slots: 0 script, 1 values, 2 index, 3 value, 4 digits, 5 statements, 6 k, 7 due, 8 found, 9 row, 10 line, 11 mutated, 12 one, 13 word, 14 other
abbrev st_law : Stmt := top 32
theorem sc_law : FnScope ["script", "values", "index", "value", "digits", "statements", "k", "due", "found", "row", "line", "mutated", "one", "word", "other"] ["script"] (defScope st_law) := ⟨rfl, rfl, rfl, by decide +kernel, rfl, by decide +kernel, by decide +kernel⟩
def law_1 : SF := (sOwn 1 (fLst (fCons (fTup (fCons (eC (.str ⟨⟨[97, 110, 110]⟩⟩)) (fCons (eC (.str ⟨⟨[112, 97, 114, 101, 110, 116]⟩⟩)) (fCons (eC (.str ⟨⟨[98, 111, 98]⟩⟩)) fNil)))) (fCons (fTup (fCons (eC (.str ⟨⟨[97, 110, 110]⟩⟩)) (fCons (eC (.str ⟨⟨[112, 97, 114, 101, 110, 116]⟩⟩)) (fCons (eC (.str ⟨⟨[97, 110, 110]⟩⟩)) fNil)))) (fCons (fTup (fCons (eC (.str ⟨⟨[97, 110, 110]⟩⟩)) (fCons (eC (.str ⟨⟨[99, 111, 117, 115, 105, 110, 32, 49, 32, 114, 101, 109, 111, 118, 101, 100, 32, 49]⟩⟩)) (fCons (eC (.str ⟨⟨[98]⟩⟩)) fNil)))) fNil)))))
def law_2 : SF := (sOwn 1 (fOp gAdd (eVar 1) (fLst (fCons (fTup (fCons (eC (.str ⟨⟨[97, 110, 110]⟩⟩)) (fCons (eC (.str ⟨⟨[99, 111, 117, 115, 105, 110, 32, 48]⟩⟩)) (fCons (eC (.str ⟨⟨[98, 111, 98]⟩⟩)) fNil)))) (fCons (fTup (fCons (eC (.str ⟨⟨[65, 110, 110]⟩⟩)) (fCons (eC (.str ⟨⟨[112, 97, 114, 101, 110, 116]⟩⟩)) (fCons (eC (.str ⟨⟨[98, 111, 98]⟩⟩)) fNil)))) (fCons (fTup (fCons (eC (.str ⟨⟨[]⟩⟩)) (fCons (eC (.str ⟨⟨[99, 104, 105, 108, 100]⟩⟩)) (fCons (eC (.str ⟨⟨[98, 111, 98]⟩⟩)) fNil)))) fNil))))))
def law_3 : SF := (sOwn 1 (fOp gAdd (eVar 1) (fLst (fCons (fTup (fCons (fOp gMul (eC (.str ⟨⟨[97]⟩⟩)) (eC (.int 8))) (fCons (eC (.str ⟨⟨[99, 104, 105, 108, 100]⟩⟩)) (fCons (eC (.str ⟨⟨[98]⟩⟩)) fNil)))) (fCons (fTup (fCons (fOp gMul (eC (.str ⟨⟨[97]⟩⟩)) (eC (.int 9))) (fCons (eC (.str ⟨⟨[99, 104, 105, 108, 100]⟩⟩)) (fCons (eC (.str ⟨⟨[98]⟩⟩)) fNil)))) (fCons (eC .non) (fCons (eC (.int 5)) (fCons (fTup fNil) (fCons (fLst (fCons (eC (.str ⟨⟨[97, 110, 110]⟩⟩)) (fCons (eC (.str ⟨⟨[112, 97, 114, 101, 110, 116]⟩⟩)) (fCons (eC (.str ⟨⟨[98, 111, 98]⟩⟩)) fNil)))) fNil)))))))))
def law_4 : SF := (sOwn 1 (fOp gAdd (eVar 1) (fLst (fCons (fTup (fCons (eC (.str ⟨⟨[97, 110, 110]⟩⟩)) (fCons (eC .non) (fCons (eC (.str ⟨⟨[98, 111, 98]⟩⟩)) fNil)))) (fCons (fTup (fCons (eC (.str ⟨⟨[97, 110, 110]⟩⟩)) (fCons (eC (.str ⟨⟨[112, 97, 114, 101, 110, 116]⟩⟩)) fNil))) (fCons (fTup (fCons (eC (.str ⟨⟨[97, 110, 110]⟩⟩)) (fCons (eC (.str ⟨⟨[112, 97, 114, 101, 110, 116]⟩⟩)) (fCons (eC (.str ⟨⟨[98, 111, 98]⟩⟩)) (fCons (eC (.int 1)) fNil))))) (fCons (eC (.str ⟨⟨[97, 110, 110]⟩⟩)) fNil)))))))
def law_5_1 : SF := (sSet 4 (fCall g__law_digits (fCons (eVar 0) (fCons (eVar 2) (fCons (eC (.int 60)) (fCons (eC (.int 27720)) fNil))))))
def law_5_2 : SF := (sSet 5 (fOp gAdd (fCall g__law_statements (fCons (eVar 4) (fCons (eC (.int 6)) (fCons (eC (.int 9)) fNil)))) (fTup (fCons (fTup (fCons (eC (.str ⟨⟨[97, 110, 110]⟩⟩)) (fCons (eC (.str ⟨⟨[115, 105, 98, 108, 105, 110, 103]⟩⟩)) (fCons (eC (.str ⟨⟨[122, 111, 101]⟩⟩)) fNil)))) fNil))))
def b_law_1 : SF := (sSeq (sSet 9 (fSl (eVar 4) (some (fOp gMul (eC (.int 5)) (eVar 6))) (some (fOp gAdd (fOp gMul (eC (.int 5)) (eVar 6)) (eC (.int 5))))))
    (sSeq (sSet 10 (fOp gIx (eVar 5) (fOp gMod (fOp gIx (eVar 4) (eVar 6)) (fCall gLen (fCons (eVar 5) fNil)))))
    (sSeq (sSet 11 (fCall g__law_mutated (fCons (eVar 10) (fCons (eVar 9) fNil))))
    (sSeq (sShare 1)
    (sSeq (sOwn 1 (fOp gAdd (eVar 1) (fLst (fCons (eVar 10) (fCons (eVar 11) (fCons (fCall g__law_mutated (fCons (eVar 11) (fCons (fRev (eVar 9)) fNil))) fNil))))))
    (sApp 1 (fCall g__law_any_value (fCons (fOp gAdd (fSl (eVar 4) (some (eVar 6)) none) (fSl (eVar 4) none (some (eVar 6)))) (fCons (eC (.int 0)) fNil)))))))))
def law_5_3 : SF := (sFor (fun ρ => ((fCons (eC (.int 6)) fNil) ρ).bind gR1) (gN 6) b_law_1)
def law_5_4 : SF := (sSet 7 (fLst fNil))
def b_law_2 : SF := (sSet 7 (fOp gAdd (eVar 7) (fLst (fCons (eVar 12) (fCons (eVar 14) fNil)))))
def law_5_5 : SF := (sFor (fIt seqA (eVar 5)) (gT [12, 13, 14]) b_law_2)
def law_5_6 : SF := (sSet 8 (fCall g_people (fCons (eVar 5) fNil)))
def law_5_7 : SF := (sIf (fOrT (fY (fOp gNe (eVar 8) (fSetSorted (eVar 7)))) (fNotT (fY (fIsi "list" (eVar 8))))) (sRet (eC (.bl false))) sNil)
def law_5_b : SF := (sSeq law_5_1
    (sSeq law_5_2
    (sSeq law_5_3
    (sSeq law_5_4
    (sSeq law_5_5
    (sSeq law_5_6
    law_5_7))))))
def law_5 : SF := (sFor (fIt seqA (fTup (fCons (eC (.int 0)) (fCons (eC (.int 1)) fNil)))) (gN 2) law_5_b)
def law_6_1 : SF := (sIf (fNotT (fY (fCall g__law_same_bool (fCons (fCall g_is_statement (fCons (eVar 3) fNil)) (fCons (fCall g__law_is_statement (fCons (eVar 3) fNil)) fNil))))) (sRet (eC (.bl false))) sNil)
def law_6_b : SF := law_6_1
def law_6 : SF := (sFor (fIt seqA (eVar 1)) (gN 3) law_6_b)
def law_7 : SF := (sRet (fAnd (fOp gEq (fCall g_people (fCons (fTup (fCons (fTup (fCons (eC (.str ⟨⟨[99, 121]⟩⟩)) (fCons (eC (.str ⟨⟨[99, 104, 105, 108, 100]⟩⟩)) (fCons (eC (.str ⟨⟨[97, 110, 110]⟩⟩)) fNil)))) fNil)) fNil)) (fLst (fCons (eC (.str ⟨⟨[97, 110, 110]⟩⟩)) (fCons (eC (.str ⟨⟨[99, 121]⟩⟩)) fNil)))) (fOp gEq (fCall g_people (fCons (fTup fNil) fNil)) (fLst fNil))))
def s_law : SF := (sSeq law_1
    (sSeq (sShare 1)
    (sSeq law_2
    (sSeq (sShare 1)
    (sSeq law_3
    (sSeq (sShare 1)
    (sSeq law_4
    (sSeq law_5
    (sSeq (sShare 1)
    (sSeq law_6
    law_7))))))))))
def g_law : List D → R (D × Bool) := fnD0 15 s_law
theorem ok_law {P : Program} {w : World} {K : PySem.W.Frag} {mg : Str → Option Value} {base : Heap} {f : Addr} {fd : FuncData} (F : Fun K "law" "law" st_law f fd) (T : Txt mg) (C__law_digits : Cl P w K mg base 2 "_law_digits" ["script", "index", "count", "base"] g__law_digits) (C__law_statements : Cl P w K mg base 3 "_law_statements" ["digits", "most", "people_so"] g__law_statements) (C__law_mutated : Cl P w K mg base 13 "_law_mutated" ["value", "digits"] g__law_mutated) (C__law_any_value : Cl P w K mg base 11 "_law_any_value" ["digits", "depth"] g__law_any_value) (C_people : Cl P w K mg base 1 "people" ["statements"] g_people) (C__law_same_bool : Cl P w K mg base 1 "_law_same_bool" ["result", "expected"] g__law_same_bool) (C__law_is_statement : Cl P w K mg base 3 "_law_is_statement" ["value"] g__law_is_statement) (C_is_statement : Cl P w K mg base 5 "is_statement" ["value"] g_is_statement) :
    FnOk P w K mg base CX0 14 f fd ["script"] (spD K xa0 1 g_law) :=
  fn_data F sc_law rfl rfl fun cdv A outer s H E hr => (pz_cons (pz_own 1 (px_lst (pl_cons (px_tup (pl_cons px_strE (pl_cons px_strE (pl_cons px_strE pl_nil)))) (pl_cons (px_tup (pl_cons px_strE (pl_cons px_strE (pl_cons px_strE pl_nil)))) (pl_cons (px_tup (pl_cons px_strE (pl_cons px_strE (pl_cons px_strE pl_nil)))) pl_nil)))) sc_law.nd)
    (pz_share 1 (pz_cons (pz_own 1 (px_op or_add od_add (px_var 1) (px_lst (pl_cons (px_tup (pl_cons px_strE (pl_cons px_strE (pl_cons px_strE pl_nil)))) (pl_cons (px_tup (pl_cons px_strE (pl_cons px_strE (pl_cons px_strE pl_nil)))) (pl_cons (px_tup (pl_cons px_strE (pl_cons px_strE (pl_cons px_strE pl_nil)))) pl_nil))))) sc_law.nd)
    (pz_share 1 (pz_cons (pz_own 1 (px_op or_add od_add (px_var 1) (px_lst (pl_cons (px_tup (pl_cons (px_op or_mul od_mul px_strE px_int) (pl_cons px_strE (pl_cons px_strE pl_nil)))) (pl_cons (px_tup (pl_cons (px_op or_mul od_mul px_strE px_int) (pl_cons px_strE (pl_cons px_strE pl_nil)))) (pl_cons px_non (pl_cons px_int (pl_cons (px_tup pl_nil) (pl_cons (px_lst (pl_cons px_strE (pl_cons px_strE (pl_cons px_strE pl_nil)))) pl_nil)))))))) sc_law.nd)
    (pz_share 1 (pz_cons (pz_own 1 (px_op or_add od_add (px_var 1) (px_lst (pl_cons (px_tup (pl_cons px_strE (pl_cons px_non (pl_cons px_strE pl_nil)))) (pl_cons (px_tup (pl_cons px_strE (pl_cons px_strE pl_nil))) (pl_cons (px_tup (pl_cons px_strE (pl_cons px_strE (pl_cons px_strE (pl_cons px_int pl_nil))))) (pl_cons px_strE pl_nil)))))) sc_law.nd)
    (pz_cons (pz_for PassesOwn.never rfl (pix_any (px_tup (pl_cons px_int (pl_cons px_int pl_nil)))) (pg_name (i := 2) sc_law.nd rfl (by first | exact Or.inl rfl | exact Or.inr rfl)) (tg_name 2) (pz_cons (pz_set 4 (px_callC C__law_digits (hr.mono (by decide)) pass0 (pl_cons (px_var 0) (pl_cons (px_var 2) (pl_cons px_int (pl_cons px_int pl_nil))))) sc_law.nd)
    (pz_cons (pz_set 5 (px_op or_add od_add (px_callC C__law_statements (hr.mono (by decide)) pass0 (pl_cons (px_var 4) (pl_cons px_int (pl_cons px_int pl_nil)))) (px_tup (pl_cons (px_tup (pl_cons px_strE (pl_cons px_strE (pl_cons px_strE pl_nil)))) pl_nil))) sc_law.nd)
    (pz_cons (pz_for PassesOwn.never rfl (pix_range1 T.n_range (pl_cons px_int pl_nil)) (pg_name (i := 6) sc_law.nd rfl (by first | exact Or.inl rfl | exact Or.inr rfl)) (tg_name 6) (pz_cons (pz_set 9 (px_slice (px_var 4) (pp_some (px_op or_mul od_mul px_int (px_var 6))) (pp_some (px_op or_add od_add (px_op or_mul od_mul px_int (px_var 6)) px_int))) sc_law.nd)
    (pz_cons (pz_set 10 (px_ix (u1 hr) (px_var 5) (px_op op_mod od_mod (px_ix (u1 hr) (px_var 4) (px_var 6)) (px_callB cr_len cd_len T.n_len rfl (pl_cons (px_var 5) pl_nil)))) sc_law.nd)
    (pz_cons (pz_set 11 (px_callC C__law_mutated (hr.mono (by decide)) pass0 (pl_cons (px_var 10) (pl_cons (px_var 9) pl_nil))) sc_law.nd)
    (pz_share 1 (pz_cons (pz_own 1 (px_op or_add od_add (px_var 1) (px_lst (pl_cons (px_var 10) (pl_cons (px_var 11) (pl_cons (px_callC C__law_mutated (hr.mono (by decide)) pass0 (pl_cons (px_var 11) (pl_cons (px_revL (px_var 9)) pl_nil))) pl_nil))))) sc_law.nd)
    (pz_one (pz_append 1 (px_callC C__law_any_value (hr.mono (by decide)) pass0 (pl_cons (px_op or_add od_add (px_slice (px_var 4) (pp_some (px_var 6)) pp_none) (px_slice (px_var 4) pp_none (pp_some (px_var 6)))) (pl_cons px_int pl_nil)))))))))))
    (pz_cons (pz_set 7 (px_lst pl_nil) sc_law.nd)
    (pz_cons (pz_for PassesOwn.never rfl (pix_any (px_var 5)) (pg_tup rfl (pgs_cons (pg_name (i := 12) sc_law.nd rfl (by first | exact Or.inl rfl | exact Or.inr rfl)) (pgs_cons (pg_name (i := 13) sc_law.nd rfl (by first | exact Or.inl rfl | exact Or.inr rfl)) (pgs_cons (pg_name (i := 14) sc_law.nd rfl (by first | exact Or.inl rfl | exact Or.inr rfl)) pgs_nil)))) (tg_tup [12, 13, 14]) (pz_one (pz_set 7 (px_op or_add od_add (px_var 7) (px_lst (pl_cons (px_var 12) (pl_cons (px_var 14) pl_nil)))) sc_law.nd)))
    (pz_cons (pz_set 8 (px_callC C_people (hr.mono (by decide)) pass0 (pl_cons (px_var 5) pl_nil)) sc_law.nd)
    (pz_one (pz_if (py_w (pw'_or (py_cmp (op_neD (u64 hr)) od_ne (px_var 8) (px_setSorted rfl (u70 hr) (px_var 7) T.n_sorted T.n_set)) (pw'_or1 (py_not (py_val (px_isi "list" T.n_isinstance T.n_list rfl (by decide) (px_var 8))))))) (pz_one (pz_ret px_bl)) pz_nil)))))))))
    (pz_share 1 (pz_cons (pz_for PassesOwn.never rfl (pix_any (px_var 1)) (pg_name (i := 3) sc_law.nd rfl (by first | exact Or.inl rfl | exact Or.inr rfl)) (tg_name 3) (pz_one (pz_if (py_not (py_val (px_callC C__law_same_bool (hr.mono (by decide)) pass0 (pl_cons (px_callC C_is_statement (hr.mono (by decide)) pass0 (pl_cons (px_var 3) pl_nil)) (pl_cons (px_callC C__law_is_statement (hr.mono (by decide)) pass0 (pl_cons (px_var 3) pl_nil)) pl_nil))))) (pz_one (pz_ret px_bl)) pz_nil)))
    (pz_one (pz_ret (px_and (px_cmp (op_eqD (u64 hr)) od_eq (px_callC C_people (hr.mono (by decide)) pass0 (pl_cons (px_tup (pl_cons (px_tup (pl_cons px_strE (pl_cons px_strE (pl_cons px_strE pl_nil)))) pl_nil)) pl_nil)) (px_lst (pl_cons px_strE (pl_cons px_strE pl_nil)))) (px_one (px_cmp (op_eqD (u64 hr)) od_eq (px_callC C_people (hr.mono (by decide)) pass0 (pl_cons (px_tup pl_nil) pl_nil)) (px_lst pl_nil))))))))))))))))
theorem all_mk {l : PySem.W.OpenLaw} {w : World} {K : PySem.W.Frag} {h : Heap} {mg : Str → Option Value} {fa : Addr} (X : K.In h) (G : h.Ns mainGlobals mg) (hfa : mg "law" = some (.ref fa))
    {f_greats : Addr} {od_greats an_greats : Option Addr} {sl_greats : Array (Option Value)} {oc_greats kV_greats dc_greats pm_greats cd_greats ct_greats : Value} (a_greats : PySem.W.nsIn K mainGlobals "greats" = some (some (.ref f_greats)))
    (l_greats : K.lookup f_greats = some ⟨oc_greats, od_greats, .func (PySem.W.fnOf "greats" "greats" (defArgs st_greats) (defBody st_greats) (defScope st_greats) .none kV_greats dc_greats pm_greats an_greats cd_greats ct_greats), sl_greats⟩) (c_greats : PySem.W.codeIn K cd_greats "greats" = true) (k_greats : PySem.W.keepIn K (.ref f_greats) = true)
    {f_word_of : Addr} {od_word_of an_word_of : Option Addr} {sl_word_of : Array (Option Value)} {oc_word_of kV_word_of dc_word_of pm_word_of cd_word_of ct_word_of : Value} (a_word_of : PySem.W.nsIn K mainGlobals "word_of" = some (some (.ref f_word_of)))
    (l_word_of : K.lookup f_word_of = some ⟨oc_word_of, od_word_of, .func (PySem.W.fnOf "word_of" "word_of" (defArgs st_word_of) (defBody st_word_of) (defScope st_word_of) .none kV_word_of dc_word_of pm_word_of an_word_of cd_word_of ct_word_of), sl_word_of⟩) (c_word_of : PySem.W.codeIn K cd_word_of "word_of" = true) (k_word_of : PySem.W.keepIn K (.ref f_word_of) = true)
    {f_all_pairs : Addr} {od_all_pairs an_all_pairs : Option Addr} {sl_all_pairs : Array (Option Value)} {oc_all_pairs kV_all_pairs dc_all_pairs pm_all_pairs cd_all_pairs ct_all_pairs : Value} (a_all_pairs : PySem.W.nsIn K mainGlobals "all_pairs" = some (some (.ref f_all_pairs)))
    (l_all_pairs : K.lookup f_all_pairs = some ⟨oc_all_pairs, od_all_pairs, .func (PySem.W.fnOf "all_pairs" "all_pairs" (defArgs st_all_pairs) (defBody st_all_pairs) (defScope st_all_pairs) .none kV_all_pairs dc_all_pairs pm_all_pairs an_all_pairs cd_all_pairs ct_all_pairs), sl_all_pairs⟩) (c_all_pairs : PySem.W.codeIn K cd_all_pairs "all_pairs" = true) (k_all_pairs : PySem.W.keepIn K (.ref f_all_pairs) = true)
    {f_readings : Addr} {od_readings an_readings : Option Addr} {sl_readings : Array (Option Value)} {oc_readings kV_readings dc_readings pm_readings cd_readings ct_readings : Value} (a_readings : PySem.W.nsIn K mainGlobals "readings" = some (some (.ref f_readings)))
    (l_readings : K.lookup f_readings = some ⟨oc_readings, od_readings, .func (PySem.W.fnOf "readings" "readings" (defArgs st_readings) (defBody st_readings) (defScope st_readings) .none kV_readings dc_readings pm_readings an_readings cd_readings ct_readings), sl_readings⟩) (c_readings : PySem.W.codeIn K cd_readings "readings" = true) (k_readings : PySem.W.keepIn K (.ref f_readings) = true)
    {f_is_word : Addr} {od_is_word an_is_word : Option Addr} {sl_is_word : Array (Option Value)} {oc_is_word kV_is_word dc_is_word pm_is_word cd_is_word ct_is_word : Value} (a_is_word : PySem.W.nsIn K mainGlobals "is_word" = some (some (.ref f_is_word)))
    (l_is_word : K.lookup f_is_word = some ⟨oc_is_word, od_is_word, .func (PySem.W.fnOf "is_word" "is_word" (defArgs st_is_word) (defBody st_is_word) (defScope st_is_word) .none kV_is_word dc_is_word pm_is_word an_is_word cd_is_word ct_is_word), sl_is_word⟩) (c_is_word : PySem.W.codeIn K cd_is_word "is_word" = true) (k_is_word : PySem.W.keepIn K (.ref f_is_word) = true)
    {f_is_name : Addr} {od_is_name an_is_name : Option Addr} {sl_is_name : Array (Option Value)} {oc_is_name kV_is_name dc_is_name pm_is_name cd_is_name ct_is_name : Value} (a_is_name : PySem.W.nsIn K mainGlobals "is_name" = some (some (.ref f_is_name)))
    (l_is_name : K.lookup f_is_name = some ⟨oc_is_name, od_is_name, .func (PySem.W.fnOf "is_name" "is_name" (defArgs st_is_name) (defBody st_is_name) (defScope st_is_name) .none kV_is_name dc_is_name pm_is_name an_is_name cd_is_name ct_is_name), sl_is_name⟩) (c_is_name : PySem.W.codeIn K cd_is_name "is_name" = true) (k_is_name : PySem.W.keepIn K (.ref f_is_name) = true)
    {f_is_statement : Addr} {od_is_statement an_is_statement : Option Addr} {sl_is_statement : Array (Option Value)} {oc_is_statement kV_is_statement dc_is_statement pm_is_statement cd_is_statement ct_is_statement : Value} (a_is_statement : PySem.W.nsIn K mainGlobals "is_statement" = some (some (.ref f_is_statement)))
    (l_is_statement : K.lookup f_is_statement = some ⟨oc_is_statement, od_is_statement, .func (PySem.W.fnOf "is_statement" "is_statement" (defArgs st_is_statement) (defBody st_is_statement) (defScope st_is_statement) .none kV_is_statement dc_is_statement pm_is_statement an_is_statement cd_is_statement ct_is_statement), sl_is_statement⟩) (c_is_statement : PySem.W.codeIn K cd_is_statement "is_statement" = true) (k_is_statement : PySem.W.keepIn K (.ref f_is_statement) = true)
    {f_people : Addr} {od_people an_people : Option Addr} {sl_people : Array (Option Value)} {oc_people kV_people dc_people pm_people cd_people ct_people : Value} (a_people : PySem.W.nsIn K mainGlobals "people" = some (some (.ref f_people)))
    (l_people : K.lookup f_people = some ⟨oc_people, od_people, .func (PySem.W.fnOf "people" "people" (defArgs st_people) (defBody st_people) (defScope st_people) .none kV_people dc_people pm_people an_people cd_people ct_people), sl_people⟩) (c_people : PySem.W.codeIn K cd_people "people" = true) (k_people : PySem.W.keepIn K (.ref f_people) = true)
    {f__law_cell : Addr} {od__law_cell an__law_cell : Option Addr} {sl__law_cell : Array (Option Value)} {oc__law_cell kV__law_cell dc__law_cell pm__law_cell cd__law_cell ct__law_cell : Value} (a__law_cell : PySem.W.nsIn K mainGlobals "_law_cell" = some (some (.ref f__law_cell)))
    (l__law_cell : K.lookup f__law_cell = some ⟨oc__law_cell, od__law_cell, .func (PySem.W.fnOf "_law_cell" "_law_cell" (defArgs st__law_cell) (defBody st__law_cell) (defScope st__law_cell) .none kV__law_cell dc__law_cell pm__law_cell an__law_cell cd__law_cell ct__law_cell), sl__law_cell⟩) (c__law_cell : PySem.W.codeIn K cd__law_cell "_law_cell" = true) (k__law_cell : PySem.W.keepIn K (.ref f__law_cell) = true)
    {f__law_digits : Addr} {od__law_digits an__law_digits : Option Addr} {sl__law_digits : Array (Option Value)} {oc__law_digits kV__law_digits dc__law_digits pm__law_digits cd__law_digits ct__law_digits : Value} (a__law_digits : PySem.W.nsIn K mainGlobals "_law_digits" = some (some (.ref f__law_digits)))
    (l__law_digits : K.lookup f__law_digits = some ⟨oc__law_digits, od__law_digits, .func (PySem.W.fnOf "_law_digits" "_law_digits" (defArgs st__law_digits) (defBody st__law_digits) (defScope st__law_digits) .none kV__law_digits dc__law_digits pm__law_digits an__law_digits cd__law_digits ct__law_digits), sl__law_digits⟩) (c__law_digits : PySem.W.codeIn K cd__law_digits "_law_digits" = true) (k__law_digits : PySem.W.keepIn K (.ref f__law_digits) = true)
    {f__law_same_bool : Addr} {od__law_same_bool an__law_same_bool : Option Addr} {sl__law_same_bool : Array (Option Value)} {oc__law_same_bool kV__law_same_bool dc__law_same_bool pm__law_same_bool cd__law_same_bool ct__law_same_bool : Value} (a__law_same_bool : PySem.W.nsIn K mainGlobals "_law_same_bool" = some (some (.ref f__law_same_bool)))
    (l__law_same_bool : K.lookup f__law_same_bool = some ⟨oc__law_same_bool, od__law_same_bool, .func (PySem.W.fnOf "_law_same_bool" "_law_same_bool" (defArgs st__law_same_bool) (defBody st__law_same_bool) (defScope st__law_same_bool) .none kV__law_same_bool dc__law_same_bool pm__law_same_bool an__law_same_bool cd__law_same_bool ct__law_same_bool), sl__law_same_bool⟩) (c__law_same_bool : PySem.W.codeIn K cd__law_same_bool "_law_same_bool" = true) (k__law_same_bool : PySem.W.keepIn K (.ref f__law_same_bool) = true)
    {f__law_paths : Addr} {od__law_paths an__law_paths : Option Addr} {sl__law_paths : Array (Option Value)} {oc__law_paths kV__law_paths dc__law_paths pm__law_paths cd__law_paths ct__law_paths : Value} (a__law_paths : PySem.W.nsIn K mainGlobals "_law_paths" = some (some (.ref f__law_paths)))
    (l__law_paths : K.lookup f__law_paths = some ⟨oc__law_paths, od__law_paths, .func (PySem.W.fnOf "_law_paths" "_law_paths" (defArgs st__law_paths) (defBody st__law_paths) (defScope st__law_paths) .none kV__law_paths dc__law_paths pm__law_paths an__law_paths cd__law_paths ct__law_paths), sl__law_paths⟩) (c__law_paths : PySem.W.codeIn K cd__law_paths "_law_paths" = true) (k__law_paths : PySem.W.keepIn K (.ref f__law_paths) = true)
    {f__law_other_value : Addr} {od__law_other_value an__law_other_value : Option Addr} {sl__law_other_value : Array (Option Value)} {oc__law_other_value kV__law_other_value dc__law_other_value pm__law_other_value cd__law_other_value ct__law_other_value : Value} (a__law_other_value : PySem.W.nsIn K mainGlobals "_law_other_value" = some (some (.ref f__law_other_value)))
    (l__law_other_value : K.lookup f__law_other_value = some ⟨oc__law_other_value, od__law_other_value, .func (PySem.W.fnOf "_law_other_value" "_law_other_value" (defArgs st__law_other_value) (defBody st__law_other_value) (defScope st__law_other_value) .none kV__law_other_value dc__law_other_value pm__law_other_value an__law_other_value cd__law_other_value ct__law_other_value), sl__law_other_value⟩) (c__law_other_value : PySem.W.codeIn K cd__law_other_value "_law_other_value" = true) (k__law_other_value : PySem.W.keepIn K (.ref f__law_other_value) = true)
    {f__law_moved_item : Addr} {od__law_moved_item an__law_moved_item : Option Addr} {sl__law_moved_item : Array (Option Value)} {oc__law_moved_item kV__law_moved_item dc__law_moved_item pm__law_moved_item cd__law_moved_item ct__law_moved_item : Value} (a__law_moved_item : PySem.W.nsIn K mainGlobals "_law_moved_item" = some (some (.ref f__law_moved_item)))
    (l__law_moved_item : K.lookup f__law_moved_item = some ⟨oc__law_moved_item, od__law_moved_item, .func (PySem.W.fnOf "_law_moved_item" "_law_moved_item" (defArgs st__law_moved_item) (defBody st__law_moved_item) (defScope st__law_moved_item) .none kV__law_moved_item dc__law_moved_item pm__law_moved_item an__law_moved_item cd__law_moved_item ct__law_moved_item), sl__law_moved_item⟩) (c__law_moved_item : PySem.W.codeIn K cd__law_moved_item "_law_moved_item" = true) (k__law_moved_item : PySem.W.keepIn K (.ref f__law_moved_item) = true)
    {f__law_change_at : Addr} {od__law_change_at an__law_change_at : Option Addr} {sl__law_change_at : Array (Option Value)} {oc__law_change_at kV__law_change_at dc__law_change_at pm__law_change_at cd__law_change_at ct__law_change_at : Value} (a__law_change_at : PySem.W.nsIn K mainGlobals "_law_change_at" = some (some (.ref f__law_change_at)))
    (l__law_change_at : K.lookup f__law_change_at = some ⟨oc__law_change_at, od__law_change_at, .func (PySem.W.fnOf "_law_change_at" "_law_change_at" (defArgs st__law_change_at) (defBody st__law_change_at) (defScope st__law_change_at) .none kV__law_change_at dc__law_change_at pm__law_change_at an__law_change_at cd__law_change_at ct__law_change_at), sl__law_change_at⟩) (c__law_change_at : PySem.W.codeIn K cd__law_change_at "_law_change_at" = true) (k__law_change_at : PySem.W.keepIn K (.ref f__law_change_at) = true)
    {f__law_mutated : Addr} {od__law_mutated an__law_mutated : Option Addr} {sl__law_mutated : Array (Option Value)} {oc__law_mutated kV__law_mutated dc__law_mutated pm__law_mutated cd__law_mutated ct__law_mutated : Value} (a__law_mutated : PySem.W.nsIn K mainGlobals "_law_mutated" = some (some (.ref f__law_mutated)))
    (l__law_mutated : K.lookup f__law_mutated = some ⟨oc__law_mutated, od__law_mutated, .func (PySem.W.fnOf "_law_mutated" "_law_mutated" (defArgs st__law_mutated) (defBody st__law_mutated) (defScope st__law_mutated) .none kV__law_mutated dc__law_mutated pm__law_mutated an__law_mutated cd__law_mutated ct__law_mutated), sl__law_mutated⟩) (c__law_mutated : PySem.W.codeIn K cd__law_mutated "_law_mutated" = true) (k__law_mutated : PySem.W.keepIn K (.ref f__law_mutated) = true)
    {f__law_any_value : Addr} {od__law_any_value an__law_any_value : Option Addr} {sl__law_any_value : Array (Option Value)} {oc__law_any_value kV__law_any_value dc__law_any_value pm__law_any_value cd__law_any_value ct__law_any_value : Value} (a__law_any_value : PySem.W.nsIn K mainGlobals "_law_any_value" = some (some (.ref f__law_any_value)))
    (l__law_any_value : K.lookup f__law_any_value = some ⟨oc__law_any_value, od__law_any_value, .func (PySem.W.fnOf "_law_any_value" "_law_any_value" (defArgs st__law_any_value) (defBody st__law_any_value) (defScope st__law_any_value) .none kV__law_any_value dc__law_any_value pm__law_any_value an__law_any_value cd__law_any_value ct__law_any_value), sl__law_any_value⟩) (c__law_any_value : PySem.W.codeIn K cd__law_any_value "_law_any_value" = true) (k__law_any_value : PySem.W.keepIn K (.ref f__law_any_value) = true)
    {f__law_word : Addr} {od__law_word an__law_word : Option Addr} {sl__law_word : Array (Option Value)} {oc__law_word kV__law_word dc__law_word pm__law_word cd__law_word ct__law_word : Value} (a__law_word : PySem.W.nsIn K mainGlobals "_law_word" = some (some (.ref f__law_word)))
    (l__law_word : K.lookup f__law_word = some ⟨oc__law_word, od__law_word, .func (PySem.W.fnOf "_law_word" "_law_word" (defArgs st__law_word) (defBody st__law_word) (defScope st__law_word) .none kV__law_word dc__law_word pm__law_word an__law_word cd__law_word ct__law_word), sl__law_word⟩) (c__law_word : PySem.W.codeIn K cd__law_word "_law_word" = true) (k__law_word : PySem.W.keepIn K (.ref f__law_word) = true)
    {f__law_pairs : Addr} {od__law_pairs an__law_pairs : Option Addr} {sl__law_pairs : Array (Option Value)} {oc__law_pairs kV__law_pairs dc__law_pairs pm__law_pairs cd__law_pairs ct__law_pairs : Value} (a__law_pairs : PySem.W.nsIn K mainGlobals "_law_pairs" = some (some (.ref f__law_pairs)))
    (l__law_pairs : K.lookup f__law_pairs = some ⟨oc__law_pairs, od__law_pairs, .func (PySem.W.fnOf "_law_pairs" "_law_pairs" (defArgs st__law_pairs) (defBody st__law_pairs) (defScope st__law_pairs) .none kV__law_pairs dc__law_pairs pm__law_pairs an__law_pairs cd__law_pairs ct__law_pairs), sl__law_pairs⟩) (c__law_pairs : PySem.W.codeIn K cd__law_pairs "_law_pairs" = true) (k__law_pairs : PySem.W.keepIn K (.ref f__law_pairs) = true)
    {f__law_readings : Addr} {od__law_readings an__law_readings : Option Addr} {sl__law_readings : Array (Option Value)} {oc__law_readings kV__law_readings dc__law_readings pm__law_readings cd__law_readings ct__law_readings : Value} (a__law_readings : PySem.W.nsIn K mainGlobals "_law_readings" = some (some (.ref f__law_readings)))
    (l__law_readings : K.lookup f__law_readings = some ⟨oc__law_readings, od__law_readings, .func (PySem.W.fnOf "_law_readings" "_law_readings" (defArgs st__law_readings) (defBody st__law_readings) (defScope st__law_readings) .none kV__law_readings dc__law_readings pm__law_readings an__law_readings cd__law_readings ct__law_readings), sl__law_readings⟩) (c__law_readings : PySem.W.codeIn K cd__law_readings "_law_readings" = true) (k__law_readings : PySem.W.keepIn K (.ref f__law_readings) = true)
    {f__law_tree : Addr} {od__law_tree an__law_tree : Option Addr} {sl__law_tree : Array (Option Value)} {oc__law_tree kV__law_tree dc__law_tree pm__law_tree cd__law_tree ct__law_tree : Value} (a__law_tree : PySem.W.nsIn K mainGlobals "_law_tree" = some (some (.ref f__law_tree)))
    (l__law_tree : K.lookup f__law_tree = some ⟨oc__law_tree, od__law_tree, .func (PySem.W.fnOf "_law_tree" "_law_tree" (defArgs st__law_tree) (defBody st__law_tree) (defScope st__law_tree) .none kV__law_tree dc__law_tree pm__law_tree an__law_tree cd__law_tree ct__law_tree), sl__law_tree⟩) (c__law_tree : PySem.W.codeIn K cd__law_tree "_law_tree" = true) (k__law_tree : PySem.W.keepIn K (.ref f__law_tree) = true)
    {f__law_line : Addr} {od__law_line an__law_line : Option Addr} {sl__law_line : Array (Option Value)} {oc__law_line kV__law_line dc__law_line pm__law_line cd__law_line ct__law_line : Value} (a__law_line : PySem.W.nsIn K mainGlobals "_law_line" = some (some (.ref f__law_line)))
    (l__law_line : K.lookup f__law_line = some ⟨oc__law_line, od__law_line, .func (PySem.W.fnOf "_law_line" "_law_line" (defArgs st__law_line) (defBody st__law_line) (defScope st__law_line) .none kV__law_line dc__law_line pm__law_line an__law_line cd__law_line ct__law_line), sl__law_line⟩) (c__law_line : PySem.W.codeIn K cd__law_line "_law_line" = true) (k__law_line : PySem.W.keepIn K (.ref f__law_line) = true)
    {f__law_pair : Addr} {od__law_pair an__law_pair : Option Addr} {sl__law_pair : Array (Option Value)} {oc__law_pair kV__law_pair dc__law_pair pm__law_pair cd__law_pair ct__law_pair : Value} (a__law_pair : PySem.W.nsIn K mainGlobals "_law_pair" = some (some (.ref f__law_pair)))
    (l__law_pair : K.lookup f__law_pair = some ⟨oc__law_pair, od__law_pair, .func (PySem.W.fnOf "_law_pair" "_law_pair" (defArgs st__law_pair) (defBody st__law_pair) (defScope st__law_pair) .none kV__law_pair dc__law_pair pm__law_pair an__law_pair cd__law_pair ct__law_pair), sl__law_pair⟩) (c__law_pair : PySem.W.codeIn K cd__law_pair "_law_pair" = true) (k__law_pair : PySem.W.keepIn K (.ref f__law_pair) = true)
    {f__law_name : Addr} {od__law_name an__law_name : Option Addr} {sl__law_name : Array (Option Value)} {oc__law_name kV__law_name dc__law_name pm__law_name cd__law_name ct__law_name : Value} (a__law_name : PySem.W.nsIn K mainGlobals "_law_name" = some (some (.ref f__law_name)))
    (l__law_name : K.lookup f__law_name = some ⟨oc__law_name, od__law_name, .func (PySem.W.fnOf "_law_name" "_law_name" (defArgs st__law_name) (defBody st__law_name) (defScope st__law_name) .none kV__law_name dc__law_name pm__law_name an__law_name cd__law_name ct__law_name), sl__law_name⟩) (c__law_name : PySem.W.codeIn K cd__law_name "_law_name" = true) (k__law_name : PySem.W.keepIn K (.ref f__law_name) = true)
    {f__law_statements : Addr} {od__law_statements an__law_statements : Option Addr} {sl__law_statements : Array (Option Value)} {oc__law_statements kV__law_statements dc__law_statements pm__law_statements cd__law_statements ct__law_statements : Value} (a__law_statements : PySem.W.nsIn K mainGlobals "_law_statements" = some (some (.ref f__law_statements)))
    (l__law_statements : K.lookup f__law_statements = some ⟨oc__law_statements, od__law_statements, .func (PySem.W.fnOf "_law_statements" "_law_statements" (defArgs st__law_statements) (defBody st__law_statements) (defScope st__law_statements) .none kV__law_statements dc__law_statements pm__law_statements an__law_statements cd__law_statements ct__law_statements), sl__law_statements⟩) (c__law_statements : PySem.W.codeIn K cd__law_statements "_law_statements" = true) (k__law_statements : PySem.W.keepIn K (.ref f__law_statements) = true)
    {f__law_is_name : Addr} {od__law_is_name an__law_is_name : Option Addr} {sl__law_is_name : Array (Option Value)} {oc__law_is_name kV__law_is_name dc__law_is_name pm__law_is_name cd__law_is_name ct__law_is_name : Value} (a__law_is_name : PySem.W.nsIn K mainGlobals "_law_is_name" = some (some (.ref f__law_is_name)))
    (l__law_is_name : K.lookup f__law_is_name = some ⟨oc__law_is_name, od__law_is_name, .func (PySem.W.fnOf "_law_is_name" "_law_is_name" (defArgs st__law_is_name) (defBody st__law_is_name) (defScope st__law_is_name) .none kV__law_is_name dc__law_is_name pm__law_is_name an__law_is_name cd__law_is_name ct__law_is_name), sl__law_is_name⟩) (c__law_is_name : PySem.W.codeIn K cd__law_is_name "_law_is_name" = true) (k__law_is_name : PySem.W.keepIn K (.ref f__law_is_name) = true)
    {f__law_is_statement : Addr} {od__law_is_statement an__law_is_statement : Option Addr} {sl__law_is_statement : Array (Option Value)} {oc__law_is_statement kV__law_is_statement dc__law_is_statement pm__law_is_statement cd__law_is_statement ct__law_is_statement : Value} (a__law_is_statement : PySem.W.nsIn K mainGlobals "_law_is_statement" = some (some (.ref f__law_is_statement)))
    (l__law_is_statement : K.lookup f__law_is_statement = some ⟨oc__law_is_statement, od__law_is_statement, .func (PySem.W.fnOf "_law_is_statement" "_law_is_statement" (defArgs st__law_is_statement) (defBody st__law_is_statement) (defScope st__law_is_statement) .none kV__law_is_statement dc__law_is_statement pm__law_is_statement an__law_is_statement cd__law_is_statement ct__law_is_statement), sl__law_is_statement⟩) (c__law_is_statement : PySem.W.codeIn K cd__law_is_statement "_law_is_statement" = true) (k__law_is_statement : PySem.W.keepIn K (.ref f__law_is_statement) = true)
    {f_law : Addr} {od_law an_law : Option Addr} {sl_law : Array (Option Value)} {oc_law kV_law dc_law pm_law cd_law ct_law : Value} (a_law : PySem.W.nsIn K mainGlobals "law" = some (some (.ref f_law)))
    (l_law : K.lookup f_law = some ⟨oc_law, od_law, .func (PySem.W.fnOf "law" "law" (defArgs st_law) (defBody st_law) (defScope st_law) .none kV_law dc_law pm_law an_law cd_law ct_law), sl_law⟩) (c_law : PySem.W.codeIn K cd_law "law" = true) (k_law : PySem.W.keepIn K (.ref f_law) = true)
    {u_LETTERS : Value} (y_LETTERS : PySem.W.nsIn K mainGlobals "LETTERS" = some (some u_LETTERS)) (r_LETTERS : RelV (.str "abcdefghijklmnopqrstuvwxyz") u_LETTERS)
    {u_MOST : Value} (y_MOST : PySem.W.nsIn K mainGlobals "MOST" = some (some u_MOST)) (r_MOST : RelV (.int 12) u_MOST)
    (z_abs : PySem.W.nsIn K mainGlobals "abs" = some none)
    (z_all : PySem.W.nsIn K mainGlobals "all" = some none)
    (z_bool : PySem.W.nsIn K mainGlobals "bool" = some none)
    (z_enumerate : PySem.W.nsIn K mainGlobals "enumerate" = some none)
    (z_int : PySem.W.nsIn K mainGlobals "int" = some none)
    (z_isinstance : PySem.W.nsIn K mainGlobals "isinstance" = some none)
    (z_len : PySem.W.nsIn K mainGlobals "len" = some none)
    (z_list : PySem.W.nsIn K mainGlobals "list" = some none)
    (z_max : PySem.W.nsIn K mainGlobals "max" = some none)
    (z_min : PySem.W.nsIn K mainGlobals "min" = some none)
    (z_range : PySem.W.nsIn K mainGlobals "range" = some none)
    (z_set : PySem.W.nsIn K mainGlobals "set" = some none)
    (z_sorted : PySem.W.nsIn K mainGlobals "sorted" = some none)
    (z_str : PySem.W.nsIn K mainGlobals "str" = some none)
    (z_tuple : PySem.W.nsIn K mainGlobals "tuple" = some none) :
    ∃ fd : FuncData, (∀ (s : Shared) (v : Value), BindsTo s fd ⟨[v], []⟩ [("script", v)]) ∧ ∀ base : Heap, K.In base → base.Ns mainGlobals mg → FnOk l.prog w K mg base CX0 14 fa fd ["script"] (spD K xa0 1 g_law) := by
  have e := hfa.symm.trans (PySem.W.mg_of X G a_law)
  cases e
  have T : Txt mg := ⟨⟨_, PySem.W.mg_of X G y_LETTERS, r_LETTERS⟩, ⟨_, PySem.W.mg_of X G y_MOST, r_MOST⟩, PySem.W.mg_none_of X G z_abs, PySem.W.mg_none_of X G z_all, PySem.W.mg_none_of X G z_bool, PySem.W.mg_none_of X G z_enumerate, PySem.W.mg_none_of X G z_int, PySem.W.mg_none_of X G z_isinstance, PySem.W.mg_none_of X G z_len, PySem.W.mg_none_of X G z_list, PySem.W.mg_none_of X G z_max, PySem.W.mg_none_of X G z_min, PySem.W.mg_none_of X G z_range, PySem.W.mg_none_of X G z_set, PySem.W.mg_none_of X G z_sorted, PySem.W.mg_none_of X G z_str, PySem.W.mg_none_of X G z_tuple⟩
  have F_greats := fun_mk (st := st_greats) l_greats c_greats k_greats
  have F_word_of := fun_mk (st := st_word_of) l_word_of c_word_of k_word_of
  have F_all_pairs := fun_mk (st := st_all_pairs) l_all_pairs c_all_pairs k_all_pairs
  have F_readings := fun_mk (st := st_readings) l_readings c_readings k_readings
  have F_is_word := fun_mk (st := st_is_word) l_is_word c_is_word k_is_word
  have F_is_name := fun_mk (st := st_is_name) l_is_name c_is_name k_is_name
  have F_is_statement := fun_mk (st := st_is_statement) l_is_statement c_is_statement k_is_statement
  have F_people := fun_mk (st := st_people) l_people c_people k_people
  have F__law_cell := fun_mk (st := st__law_cell) l__law_cell c__law_cell k__law_cell
  have F__law_digits := fun_mk (st := st__law_digits) l__law_digits c__law_digits k__law_digits
  have F__law_same_bool := fun_mk (st := st__law_same_bool) l__law_same_bool c__law_same_bool k__law_same_bool
  have F__law_paths := fun_mk (st := st__law_paths) l__law_paths c__law_paths k__law_paths
  have F__law_other_value := fun_mk (st := st__law_other_value) l__law_other_value c__law_other_value k__law_other_value
  have F__law_moved_item := fun_mk (st := st__law_moved_item) l__law_moved_item c__law_moved_item k__law_moved_item
  have F__law_change_at := fun_mk (st := st__law_change_at) l__law_change_at c__law_change_at k__law_change_at
  have F__law_mutated := fun_mk (st := st__law_mutated) l__law_mutated c__law_mutated k__law_mutated
  have F__law_any_value := fun_mk (st := st__law_any_value) l__law_any_value c__law_any_value k__law_any_value
  have F__law_word := fun_mk (st := st__law_word) l__law_word c__law_word k__law_word
  have F__law_pairs := fun_mk (st := st__law_pairs) l__law_pairs c__law_pairs k__law_pairs
  have F__law_readings := fun_mk (st := st__law_readings) l__law_readings c__law_readings k__law_readings
  have F__law_tree := fun_mk (st := st__law_tree) l__law_tree c__law_tree k__law_tree
  have F__law_line := fun_mk (st := st__law_line) l__law_line c__law_line k__law_line
  have F__law_pair := fun_mk (st := st__law_pair) l__law_pair c__law_pair k__law_pair
  have F__law_name := fun_mk (st := st__law_name) l__law_name c__law_name k__law_name
  have F__law_statements := fun_mk (st := st__law_statements) l__law_statements c__law_statements k__law_statements
  have F__law_is_name := fun_mk (st := st__law_is_name) l__law_is_name c__law_is_name k__law_is_name
  have F__law_is_statement := fun_mk (st := st__law_is_statement) l__law_is_statement c__law_is_statement k__law_is_statement
  have F_law := fun_mk (st := st_law) l_law c_law k_law
  refine ⟨PySem.W.fnOf "law" "law" (defArgs st_law) (defBody st_law) (defScope st_law) .none kV_law dc_law pm_law an_law cd_law ct_law, fun s v => .of_eq rfl, fun base _ _ => ?_⟩
  have C_greats : Cl l.prog w K mg base 1 "greats" ["number", "word"] g_greats := ⟨_, _, ok_greats F_greats T, PySem.W.mg_of X G a_greats, k_greats, F_greats.binds fun _ _ _ _ _ _ us hl => match us, hl with | [_, _], _ => rfl⟩
  have C_word_of : Cl l.prog w K mg base 2 "word_of" ["up", "down"] g_word_of := ⟨_, _, ok_word_of F_word_of T C_greats, PySem.W.mg_of X G a_word_of, k_word_of, F_word_of.binds fun _ _ _ _ _ _ us hl => match us, hl with | [_, _], _ => rfl⟩
  have C_all_pairs : Cl l.prog w K mg base 1 "all_pairs" [] g_all_pairs := ⟨_, _, ok_all_pairs F_all_pairs T, PySem.W.mg_of X G a_all_pairs, k_all_pairs, F_all_pairs.binds fun _ _ _ _ _ _ us hl => match us, hl with | [], _ => rfl⟩
  have C_readings : Cl l.prog w K mg base 3 "readings" ["word"] g_readings := ⟨_, _, ok_readings F_readings T C_all_pairs C_word_of, PySem.W.mg_of X G a_readings, k_readings, F_readings.binds fun _ _ _ _ _ _ us hl => match us, hl with | [_], _ => rfl⟩
  have C_is_word : Cl l.prog w K mg base 4 "is_word" ["value"] g_is_word := ⟨_, _, ok_is_word F_is_word T C_readings, PySem.W.mg_of X G a_is_word, k_is_word, F_is_word.binds fun _ _ _ _ _ _ us hl => match us, hl with | [_], _ => rfl⟩
  have C_is_name : Cl l.prog w K mg base 1 "is_name" ["value"] g_is_name := ⟨_, _, ok_is_name F_is_name T, PySem.W.mg_of X G a_is_name, k_is_name, F_is_name.binds fun _ _ _ _ _ _ us hl => match us, hl with | [_], _ => rfl⟩
  have C_is_statement : Cl l.prog w K mg base 5 "is_statement" ["value"] g_is_statement := ⟨_, _, ok_is_statement F_is_statement T C_is_name C_is_word, PySem.W.mg_of X G a_is_statement, k_is_statement, F_is_statement.binds fun _ _ _ _ _ _ us hl => match us, hl with | [_], _ => rfl⟩
  have C_people : Cl l.prog w K mg base 1 "people" ["statements"] g_people := ⟨_, _, ok_people F_people T, PySem.W.mg_of X G a_people, k_people, F_people.binds fun _ _ _ _ _ _ us hl => match us, hl with | [_], _ => rfl⟩
  have C__law_cell : Cl l.prog w K mg base 1 "_law_cell" ["script", "index"] g__law_cell := ⟨_, _, ok__law_cell F__law_cell T, PySem.W.mg_of X G a__law_cell, k__law_cell, F__law_cell.binds fun _ _ _ _ _ _ us hl => match us, hl with | [_, _], _ => rfl⟩
  have C__law_digits : Cl l.prog w K mg base 2 "_law_digits" ["script", "index", "count", "base"] g__law_digits := ⟨_, _, ok__law_digits F__law_digits T C__law_cell, PySem.W.mg_of X G a__law_digits, k__law_digits, F__law_digits.binds fun _ _ _ _ _ _ us hl => match us, hl with | [_, _, _, _], _ => rfl⟩
  have C__law_same_bool : Cl l.prog w K mg base 1 "_law_same_bool" ["result", "expected"] g__law_same_bool := ⟨_, _, ok__law_same_bool F__law_same_bool T, PySem.W.mg_of X G a__law_same_bool, k__law_same_bool, F__law_same_bool.binds fun _ _ _ _ _ _ us hl => match us, hl with | [_, _], _ => rfl⟩
  have B__law_paths : Binds K _ ["value"] [] := F__law_paths.binds fun _ _ _ _ _ _ us hl => match us, hl with | [_], _ => rfl
  have C__law_paths : Cl l.prog w K mg base 11 "_law_paths" ["value"] g__law_paths := ⟨_, _, ok__law_paths F__law_paths T (PySem.W.mg_of X G a__law_paths) k__law_paths B__law_paths 10, PySem.W.mg_of X G a__law_paths, k__law_paths, B__law_paths⟩
  have C__law_other_value : Cl l.prog w K mg base 1 "_law_other_value" ["value", "digits"] g__law_other_value := ⟨_, _, ok__law_other_value F__law_other_value T, PySem.W.mg_of X G a__law_other_value, k__law_other_value, F__law_other_value.binds fun _ _ _ _ _ _ us hl => match us, hl with | [_, _], _ => rfl⟩
  have C__law_moved_item : Cl l.prog w K mg base 1 "_law_moved_item" ["items", "index", "digits"] g__law_moved_item := ⟨_, _, ok__law_moved_item F__law_moved_item T, PySem.W.mg_of X G a__law_moved_item, k__law_moved_item, F__law_moved_item.binds fun _ _ _ _ _ _ us hl => match us, hl with | [_, _, _], _ => rfl⟩
  have B__law_change_at : Binds K _ ["value", "path", "digits"] [] := F__law_change_at.binds fun _ _ _ _ _ _ us hl => match us, hl with | [_, _, _], _ => rfl
  have C__law_change_at : Cl l.prog w K mg base 12 "_law_change_at" ["value", "path", "digits"] g__law_change_at := ⟨_, _, ok__law_change_at F__law_change_at T C__law_other_value C__law_moved_item (PySem.W.mg_of X G a__law_change_at) k__law_change_at B__law_change_at 10, PySem.W.mg_of X G a__law_change_at, k__law_change_at, B__law_change_at⟩
  have C__law_mutated : Cl l.prog w K mg base 13 "_law_mutated" ["value", "digits"] g__law_mutated := ⟨_, _, ok__law_mutated F__law_mutated T C__law_paths C__law_change_at, PySem.W.mg_of X G a__law_mutated, k__law_mutated, F__law_mutated.binds fun _ _ _ _ _ _ us hl => match us, hl with | [_, _], _ => rfl⟩
  have B__law_any_value : Binds K _ ["digits", "depth"] [] := F__law_any_value.binds fun _ _ _ _ _ _ us hl => match us, hl with | [_, _], _ => rfl
  have C__law_any_value : Cl l.prog w K mg base 11 "_law_any_value" ["digits", "depth"] g__law_any_value := ⟨_, _, ok__law_any_value F__law_any_value T (PySem.W.mg_of X G a__law_any_value) k__law_any_value B__law_any_value 10, PySem.W.mg_of X G a__law_any_value, k__law_any_value, B__law_any_value⟩
  have C__law_word : Cl l.prog w K mg base 1 "_law_word" ["up", "down"] g__law_word := ⟨_, _, ok__law_word F__law_word T, PySem.W.mg_of X G a__law_word, k__law_word, F__law_word.binds fun _ _ _ _ _ _ us hl => match us, hl with | [_, _], _ => rfl⟩
  have C__law_pairs : Cl l.prog w K mg base 1 "_law_pairs" ["most"] g__law_pairs := ⟨_, _, ok__law_pairs F__law_pairs T, PySem.W.mg_of X G a__law_pairs, k__law_pairs, F__law_pairs.binds fun _ _ _ _ _ _ us hl => match us, hl with | [_], _ => rfl⟩
  have C__law_readings : Cl l.prog w K mg base 2 "_law_readings" ["word"] g__law_readings := ⟨_, _, ok__law_readings F__law_readings T C__law_pairs C__law_word, PySem.W.mg_of X G a__law_readings, k__law_readings, F__law_readings.binds fun _ _ _ _ _ _ us hl => match us, hl with | [_], _ => rfl⟩
  have C__law_tree : Cl l.prog w K mg base 1 "_law_tree" ["digits", "many"] g__law_tree := ⟨_, _, ok__law_tree F__law_tree T, PySem.W.mg_of X G a__law_tree, k__law_tree, F__law_tree.binds fun _ _ _ _ _ _ us hl => match us, hl with | [_, _], _ => rfl⟩
  have C__law_line : Cl l.prog w K mg base 1 "_law_line" ["parents", "one"] g__law_line := ⟨_, _, ok__law_line F__law_line T, PySem.W.mg_of X G a__law_line, k__law_line, F__law_line.binds fun _ _ _ _ _ _ us hl => match us, hl with | [_, _], _ => rfl⟩
  have C__law_pair : Cl l.prog w K mg base 2 "_law_pair" ["parents", "one", "other"] g__law_pair := ⟨_, _, ok__law_pair F__law_pair T C__law_line, PySem.W.mg_of X G a__law_pair, k__law_pair, F__law_pair.binds fun _ _ _ _ _ _ us hl => match us, hl with | [_, _, _], _ => rfl⟩
  have C__law_name : Cl l.prog w K mg base 1 "_law_name" ["k"] g__law_name := ⟨_, _, ok__law_name F__law_name T, PySem.W.mg_of X G a__law_name, k__law_name, F__law_name.binds fun _ _ _ _ _ _ us hl => match us, hl with | [_], _ => rfl⟩
  have C__law_statements : Cl l.prog w K mg base 3 "_law_statements" ["digits", "most", "people_so"] g__law_statements := ⟨_, _, ok__law_statements F__law_statements T C__law_tree C__law_pair C__law_name C__law_word, PySem.W.mg_of X G a__law_statements, k__law_statements, F__law_statements.binds fun _ _ _ _ _ _ us hl => match us, hl with | [_, _, _], _ => rfl⟩
  have C__law_is_name : Cl l.prog w K mg base 1 "_law_is_name" ["value"] g__law_is_name := ⟨_, _, ok__law_is_name F__law_is_name T, PySem.W.mg_of X G a__law_is_name, k__law_is_name, F__law_is_name.binds fun _ _ _ _ _ _ us hl => match us, hl with | [_], _ => rfl⟩
  have C__law_is_statement : Cl l.prog w K mg base 3 "_law_is_statement" ["value"] g__law_is_statement := ⟨_, _, ok__law_is_statement F__law_is_statement T C__law_is_name C__law_readings, PySem.W.mg_of X G a__law_is_statement, k__law_is_statement, F__law_is_statement.binds fun _ _ _ _ _ _ us hl => match us, hl with | [_], _ => rfl⟩
  exact ok_law F_law T C__law_digits C__law_statements C__law_mutated C__law_any_value C_people C__law_same_bool C__law_is_statement C_is_statement
theorem walk {l : PySem.W.OpenLaw} {n : Nat} {q : Program} {loose : List Str} {XP : (Str → Option Value) → Heap → Prop} {YP : World → Heap → Prop} {d : DefRec} {K : Params → PySem.W.Frag} (hn : l.most = some n) (hn2 : n ≤ sizeLine) (hdf : d.params.defaults = [])
    (math : ∀ ns : List Int, ns.length ≤ n → (∀ z ∈ ns, Builtin.Int.intBits z ≤ 1048576) → g_law [.scr ns] = .ok (.bl true, false)) (hY : ∀ (w : World) (h : Heap), YP w h → (K w.params).In h)
    (F : ∀ (w : World) (mg : Str → Option Value) (fa : Addr) (h : Heap), (K w.params).In h → h.Ns mainGlobals mg → mg d.name = some (.ref fa) →
      ∃ fd : FuncData, (∀ (s : Shared) (u : Value), BindsTo s fd ⟨[u], []⟩ [("script", u)]) ∧ ∀ base : Heap, (K w.params).In base → base.Ns mainGlobals mg → FnOk l.prog w (K w.params) mg base CX0 14 fa fd ["script"] (spD (K w.params) xa0 1 g_law)) :
    PySem.W.WalkO q loose XP YP l.row.toRowW d [] (fun f vs => PySem.call f vs) := by
  refine L2.walk_ofB (k := 14) (x := "script") (CX := fun _ => CX0) (sp := fun w => spD (K w.params) xa0 1 g_law) hn hn2 hdf ⟨rfl, by decide, by decide⟩ hY F (fun w H a ns hl hb _ hS => ?_) fun _ _ _ _ _ z => z
  refine ⟨H, [.scr ns], .refl H, .cons (.scr hS) .nil, rfl, ?_⟩
  rw [math ns hl hb]
  exact fun v F2 H2 _ hv => bl_of hv
end Gen

/-! Wd1: words. -/
namespace Pd
open PySem PySem.Spec PyProof.Rows L2
def strIs : R (D × Bool) → Str → Bool
  | .ok (.str s, false), w => strEq s w
  | _, _ => false
theorem strIs_eq {r : R (D × Bool)} {w : Str} (h : strIs r w = true) : r = .ok (.str w, false) := by
  unfold strIs at h
  split at h
  · rw [strEq_iff.mp h]
  · cases h
def wGreat : Str := ⟨⟨[103, 114, 101, 97, 116, 45]⟩⟩
def wGrand : Str := ⟨⟨[103, 114, 97, 110, 100]⟩⟩
def wParent : Str := ⟨⟨[112, 97, 114, 101, 110, 116]⟩⟩
def wChild : Str := ⟨⟨[99, 104, 105, 108, 100]⟩⟩
def wSib : Str := ⟨⟨[115, 105, 98, 108, 105, 110, 103]⟩⟩
def wPib : Str := ⟨⟨[112, 105, 98, 108, 105, 110, 103]⟩⟩
def wNib : Str := ⟨⟨[110, 105, 98, 108, 105, 110, 103]⟩⟩
def wCou : Str := ⟨⟨[99, 111, 117, 115, 105, 110, 32]⟩⟩
def wRem : Str := ⟨⟨[32, 114, 101, 109, 111, 118, 101, 100, 32]⟩⟩
/-- n times great- and grand -/
def gr (n : Int) (w : Str) : Str := if n = 0 then w else sCat (sCat (strRep wGreat (n - 1)) wGrand) w
/-- the word of a pair -/
def wd (u d : Int) : Str :=
  if d = 0 then gr (u - 1) wParent else if u = 0 then gr (d - 1) wChild else if u = 1 ∧ d = 1 then wSib else if d = 1 then gr (u - 2) wPib else if u = 1 then gr (d - 2) wNib
  else if u = d then sCat wCou (digS (min u d - 1).toNat) else sCat (sCat wCou (digS (min u d - 1).toNat)) (sCat wRem (digS (max u d - min u d).toNat))
theorem rep_ok : ((List.range 64).all fun n : Nat => okS (strRep wGreat n) && Nat.ble (strRep wGreat n).length 1000) = true := by decide +kernel
theorem dig_ok : ((List.range 100).all fun n : Nat => okS (digS n) && Nat.ble (digS n).length 2) = true := by decide +kernel
theorem okL_app : ∀ a b : List Nat, okL (a ++ b) = (okL a && okL b)
  | [], _ => rfl
  | x :: a, b => by rw [List.cons_append, okL, okL, okL_app a b, Bool.and_assoc]
theorem okS_cat (a b : Str) : okS (sCat a b) = (okS a && okS b) := okL_app _ _
theorem len_sCat (a b : Str) : (sCat a b).length = a.length + b.length := by
  show (a.cps.toList ++ b.cps.toList).toArray.size = a.cps.size + b.cps.size
  simp
end Pd
namespace Gen
open PySem PySem.Spec PyProof.Rows L2 Pd
theorem rep_len {n : Int} (h : 0 ≤ n ∧ n < 64) : (strRep wGreat n).length ≤ 1000 ∧ okS (strRep wGreat n) = true := by
  have := List.all_eq_true.mp rep_ok n.toNat (List.mem_range.mpr (by omega))
  simp only [Bool.and_eq_true] at this
  have e : ((n.toNat : Nat) : Int) = n := by omega
  rw [e] at this
  exact ⟨Nat.le_of_ble_eq_true this.2, this.1⟩
theorem digS_len {n : Nat} (h : n < 100) : (digS n).length ≤ 2 ∧ okS (digS n) = true := by
  have := List.all_eq_true.mp dig_ok n (List.mem_range.mpr h)
  simp only [Bool.and_eq_true] at this
  exact ⟨Nat.le_of_ble_eq_true this.2, this.1⟩
theorem rep_mul {n : Int} (h : 0 ≤ n ∧ n < 64) : gMul (.str wGreat) (.int n) = .ok (.str (strRep wGreat n), false) := by
  have h1 := rep_len h
  have h2 : wGreat.length = 6 := rfl
  show (if -1000 ≤ n ∧ n ≤ 1000 ∧ wGreat.length ≤ 1000 ∧ (strRep wGreat n).length ≤ CAP then R.ok (D.str (strRep wGreat n), false) else .st) = _
  rw [if_pos ⟨by omega, by omega, by omega, Nat.le_trans h1.1 (by decide)⟩]
theorem cat_str {a b : Str} (h : a.length + b.length ≤ 5000) : gAdd (.str a) (.str b) = .ok (.str (sCat a b), false) := by
  show (if a.length + b.length ≤ CAP then R.ok (D.str (sCat a b), false) else .st) = _
  rw [if_pos (Nat.le_trans h (by decide))]
theorem gr_len {n : Int} (h : 0 ≤ n ∧ n < 64) {w : Str} (hw : w.length ≤ 20) (ho : okS w = true) : (gr n w).length ≤ 1100 ∧ okS (gr n w) = true := by
  unfold gr
  split
  · exact ⟨by omega, ho⟩
  · have h1 := rep_len (n := n - 1) (by omega)
    have h2 : wGrand.length = 5 := rfl
    have h3 : okS wGrand = true := rfl
    rw [len_sCat, len_sCat, okS_cat, okS_cat, h1.2, h3, ho]
    exact ⟨by omega, rfl⟩
/-- what is put before a word -/
theorem gr_add {n : Int} (h : 0 < n ∧ n < 64) {w : Str} (hw : w.length ≤ 20) : ((gMul (.str wGreat) (.int (n - 1))).bind fun x => gAdd x.1 (.str wGrand)).bind (fun x => gAdd x.1 (.str w)) = .ok (.str (gr n w), false) := by
  have h1 := rep_len (n := n - 1) (by omega)
  have h2 : wGrand.length = 5 := rfl
  rw [rep_mul (by omega)]
  simp only [R.bind]
  rw [cat_str (by omega)]
  simp only
  rw [cat_str (by rw [len_sCat]; omega)]
  unfold gr
  rw [if_neg (by omega)]
theorem greats_eq {n : Int} (h : 0 ≤ n ∧ n < 64) {w : Str} (hw : w.length ≤ 20) : g_greats [.int n, .str w] = .ok (.str (gr n w), false) := by
  by_cases c : n = 0
  · subst c
    exact fnD0_rt (seq_ret (if_yes rfl (ret_to (b := false) rfl)))
  · refine fnD0_rt (show s_greats [some (.int n, false), some (.str w, false)] = _ from seq_to (if_no (by simp only [RUN, R.bind, c]) rfl) (ret_to (b := false) ?_))
    have := gr_add (n := n) (by omega) hw
    simp only [R.bind] at this
    simp only [RUN, R.bind]
    exact this
theorem wd_ok {u d : Int} (hu : 0 ≤ u ∧ u < 64) (hd : 0 ≤ d ∧ d < 64) (h0 : ¬(u = 0 ∧ d = 0)) : (wd u d).length ≤ 1100 ∧ okS (wd u d) = true := by
  unfold wd
  split
  · exact gr_len (by omega) (by decide) rfl
  · split
    · exact gr_len (by omega) (by decide) rfl
    · split
      · exact ⟨by decide, rfl⟩
      · split
        · exact gr_len (by omega) (by decide) rfl
        · split
          · exact gr_len (by omega) (by decide) rfl
          · have h1 := digS_len (n := (min u d - 1).toNat) (by omega)
            have h2 := digS_len (n := (max u d - min u d).toNat) (by omega)
            have h3 : wCou.length = 7 := rfl
            have h4 : wRem.length = 9 := rfl
            have h5 : okS wCou = true := rfl
            have h6 : okS wRem = true := rfl
            split
            · rw [len_sCat, okS_cat, h1.2, h5]; exact ⟨by omega, rfl⟩
            · rw [len_sCat, len_sCat, len_sCat, okS_cat, okS_cat, okS_cat, h1.2, h2.2, h5, h6]; exact ⟨by omega, rfl⟩
theorem fmtD_to {f : EF} {ρ : Pd.Env} {i : Int} {b : Bool} (h : f ρ = .ok (.int i, b)) (hi : 0 ≤ i ∧ i < 64) : fFmtD f ρ = .ok (.str (digS i.toNat), false) := by
  obtain ⟨n, rfl⟩ := Int.eq_ofNat_of_zero_le hi.1
  unfold fFmtD
  rw [h]
  show (if Nat.blt n 64 then R.ok (D.str (digS n), false) else .st) = _
  rw [if_pos (Nat.blt_eq.mpr (by omega))]
  rfl
theorem str_int {i : Int} (hi : 0 ≤ i ∧ i < 100) : gStr [.int i] = .ok (.str (digS i.toNat), false) := by
  obtain ⟨n, rfl⟩ := Int.eq_ofNat_of_zero_le hi.1
  show (if Nat.blt n 100 then R.ok (D.str (digS n), false) else .st) = _
  rw [if_pos (Nat.blt_eq.mpr (by omega))]
  rfl
theorem cat_empty (a : Str) : sCat Str.empty a = a := str_ext rfl
theorem join2_to {f g : EF} {ρ : Pd.Env} {a b : Str} {x y : Bool} (h1 : f ρ = .ok (.str a, x)) (h2 : g ρ = .ok (.str b, y)) (hl : a.length + b.length ≤ 5000) : joinE [f, g] Str.empty ρ = .ok (.str (sCat a b), false) := by
  show ((f ρ).bind fun x => match x.1 with | .str y => if (sCat Str.empty y).length ≤ CAP then joinE [g] (sCat Str.empty y) ρ else .st | _ => .st) = _
  rw [h1]
  simp only [R.bind]
  rw [cat_empty, if_pos (by show _ ≤ 1000000; omega)]
  show ((g ρ).bind fun x => match x.1 with | .str y => if (sCat a y).length ≤ CAP then joinE [] (sCat a y) ρ else .st | _ => .st) = _
  rw [h2]
  simp only [R.bind]
  rw [if_pos (by rw [len_sCat]; show _ ≤ 1000000; omega)]
  rfl
/-- word_of, as the def has it -/
theorem word_of_eq {u d : Int} (hu : 0 ≤ u ∧ u < 64) (hd : 0 ≤ d ∧ d < 64) (h0 : ¬(u = 0 ∧ d = 0)) : g_word_of [.int u, .int d] = .ok (.str (wd u d), false) := by
  unfold wd
  by_cases c1 : d = 0
  · subst c1
    rw [if_pos rfl]
    exact fnD0_rt (seq_ret (if_yes rfl (ret_to (b := false) (call_to rfl (greats_eq (by omega) (by decide))))))
  rw [if_neg c1]
  have s1 : (fY (fOp gEq (eVar 1) (eC (.int 0)))) [some (.int u, false), some (.int d, false), none, none] = .ok false := by simp only [RUN, R.bind, c1]
  refine fnD0_rt (show s_word_of [some (.int u, false), some (.int d, false), none, none] = _ from seq_to (if_no s1 rfl) ?_)
  by_cases c2 : u = 0
  · subst c2
    rw [if_pos rfl]
    exact seq_ret (if_yes rfl (ret_to (b := false) (call_to rfl (greats_eq (by omega) (by decide)))))
  rw [if_neg c2]
  refine seq_to (if_no (by simp only [RUN, R.bind, c2]) rfl) ?_
  by_cases c3 : u = 1 ∧ d = 1
  · rw [if_pos c3]
    exact seq_ret (if_yes (by simp only [RUN, R.bind, c3.1, c3.2]) rfl)
  rw [if_neg c3]
  refine seq_to (if_no (by
    have : (decide (u = 1) && decide (d = 1)) = false := by simp; intro a; exact fun b => c3 ⟨a, b⟩
    simp only [RUN, R.bind, this]) rfl) ?_
  by_cases c4 : d = 1
  · subst c4
    rw [if_pos rfl]
    exact seq_ret (if_yes rfl (ret_to (b := false) (call_to rfl (greats_eq (by omega) (by decide)))))
  rw [if_neg c4]
  refine seq_to (if_no (by simp only [RUN, R.bind, c4]) rfl) ?_
  by_cases c5 : u = 1
  · subst c5
    rw [if_pos rfl]
    exact seq_ret (if_yes rfl (ret_to (b := false) (call_to rfl (greats_eq (by omega) (by decide)))))
  rw [if_neg c5]
  refine seq_to (if_no (by simp only [RUN, R.bind, c5]) rfl) ?_
  have h1 := digS_len (n := (min u d - 1).toNat) (by omega)
  have h2 := digS_len (n := (max u d - min u d).toNat) (by omega)
  have h3 : wCou.length = 7 := rfl
  have h4 : wRem.length = 9 := rfl
  have ab : (if u - d < 0 then -(u - d) else u - d) = max u d - min u d := by split <;> omega
  have e2 : gAbs [.int (u - d)] = .ok (.int (max u d - min u d), false) := by
    show R.ok (D.int (if u - d < 0 then -(u - d) else u - d), false) = _
    rw [ab]
  refine seq_to (set_to (d := .int (max u d - min u d)) (b := false) (by simp only [RUN, R.bind, e2])) ?_
  refine seq_to (set_to (d := .str (sCat wCou (digS (min u d - 1).toNat))) (b := false) (join2_to (x := false) (y := false) rfl (fmtD_to (i := min u d - 1) (b := false) (by simp only [RUN, R.bind, min_int]) (by omega)) (by omega))) (ret_to (b := false) ?_)
  have j2 : ∀ ρ : Pd.Env, ρ[2]? = some (some (.int (max u d - min u d), false)) → joinE [(eC (.str ⟨⟨[32, 114, 101, 109, 111, 118, 101, 100, 32]⟩⟩)), (fFmtD (eVar 2))] Str.empty ρ = .ok (.str (sCat wRem (digS (max u d - min u d).toNat)), false) := fun ρ hρ =>
    join2_to (x := false) (y := false) rfl (fmtD_to (i := max u d - min u d) (b := false) (by unfold eVar; rw [hρ]) (by omega)) (by omega)
  by_cases c6 : u = d
  · rw [if_pos c6]
    have : max u d - min u d = 0 := by omega
    simp only [RUN, R.bind, this]
  · rw [if_neg c6]
    have : ¬ (max u d - min u d = 0) := by omega
    have j3 := j2 [some (.int u, false), some (.int d, false), some (.int (max u d - min u d), false), some (.str (sCat wCou (digS (min u d - 1).toNat)), false)] rfl
    have c := cat_str (a := sCat wCou (digS (min u d - 1).toNat)) (b := sCat wRem (digS (max u d - min u d).toNat)) (by rw [len_sCat, len_sCat]; omega)
    simp only [RUN, R.bind, this, j3, c]
end Gen

/-! Wd2: the law's words; readings. -/
namespace Pd
open PySem PySem.Spec PyProof.Rows L2
theorem sCat_assoc (a b c : Str) : sCat (sCat a b) c = sCat a (sCat b c) := str_ext (by
  show (a.cps.toList ++ b.cps.toList) ++ c.cps.toList = a.cps.toList ++ (b.cps.toList ++ c.cps.toList)
  rw [List.append_assoc])
/-- all pairs of numbers of at most n -/
def pairsN (n : Nat) : List (Int × Int) := ((List.range (n + 1)).flatMap fun u : Nat => (List.range (n + 1)).map fun d : Nat => ((u : Int), (d : Int))).filter fun z => !decide (z = (0, 0))
theorem pairsN_mem {n : Nat} {z : Int × Int} : z ∈ pairsN n ↔ 0 ≤ z.1 ∧ z.1 ≤ n ∧ 0 ≤ z.2 ∧ z.2 ≤ n ∧ z ≠ (0, 0) := by
  unfold pairsN
  simp only [List.mem_filter, List.mem_flatMap, List.mem_map, List.mem_range, Bool.not_eq_true', decide_eq_false_iff_not]
  constructor
  · rintro ⟨⟨u, hu, d, hd, rfl⟩, h⟩
    refine ⟨?_, ?_, ?_, ?_, h⟩
    · show 0 ≤ (u : Int); omega
    · show (u : Int) ≤ n; omega
    · show 0 ≤ (d : Int); omega
    · show (d : Int) ≤ n; omega
  · rintro ⟨h1, h2, h3, h4, h⟩
    exact ⟨⟨z.1.toNat, by omega, z.2.toNat, by omega, Prod.ext (by show ((z.1.toNat : Nat) : Int) = z.1; omega) (by show ((z.2.toNat : Nat) : Int) = z.2; omega)⟩, h⟩
/-- the pairs of a word -/
def rd (w : Str) : List (Int × Int) := (pairsN 12).filter fun p => decide (wd p.1 p.2 = w)
theorem rd_mem {w : Str} {z : Int × Int} : z ∈ rd w ↔ z ∈ pairsN 12 ∧ wd z.1 z.2 = w := by
  unfold rd
  simp [List.mem_filter]
end Pd
namespace Gen
open PySem PySem.Spec PyProof.Rows L2 Pd
/-- _law_word, as the def has it -/
theorem law_word_eq {u d : Int} (hu : 0 ≤ u ∧ u < 64) (hd : 0 ≤ d ∧ d < 64) (h0 : ¬(u = 0 ∧ d = 0)) : g__law_word [.int u, .int d] = .ok (.str (wd u d), false) := by
  unfold wd
  have g1 : ∀ n : Int, 0 < n ∧ n < 64 → ∀ w : Str, w.length ≤ 20 → _ := fun n h w hw => gr_add (n := n) h (w := w) hw
  simp only [R.bind] at g1
  by_cases c1 : d = 0
  · subst c1
    rw [if_pos rfl]
    refine fnD0_rt (show s__law_word [some (.int u, false), some (.int 0, false), none, none, none, none] = _ from seq_ret (if_yes (by simp only [RUN, R.bind])
      (seq_to (set_to (d := .int u) (b := false) (by simp only [RUN, R.bind, max_int, (show max u 0 = u by omega)])) (seq_to (set_to (d := .str wParent) (b := false) rfl) (ret_to (b := false) ?_)))))
    by_cases c2 : u = 1
    · subst c2; rfl
    · have e : u - 2 = u - 1 - 1 := by omega
      have := g1 (u - 1) (by omega) wParent (by decide)
      rw [← e] at this
      simp only [RUN, R.bind, c2]
      exact this
  rw [if_neg c1]
  by_cases c2 : u = 0
  · subst c2
    rw [if_pos rfl]
    refine fnD0_rt (show s__law_word [some (.int 0, false), some (.int d, false), none, none, none, none] = _ from seq_ret (if_yes (by simp only [RUN, R.bind, c1])
      (seq_to (set_to (d := .int d) (b := false) (by simp only [RUN, R.bind, max_int, (show max 0 d = d by omega)])) (seq_to (set_to (d := .str wChild) (b := false) (by simp only [RUN, R.bind, c1]; rfl)) (ret_to (b := false) ?_)))))
    by_cases c3 : d = 1
    · subst c3; rfl
    · have e : d - 2 = d - 1 - 1 := by omega
      have := g1 (d - 1) (by omega) wChild (by decide)
      rw [← e] at this
      simp only [RUN, R.bind, c3]
      exact this
  rw [if_neg c2]
  refine fnD0_rt (show s__law_word [some (.int u, false), some (.int d, false), none, none, none, none] = _ from seq_to (if_no (by simp only [RUN, R.bind, c1, c2]) rfl) ?_)
  have eq2 : ∀ a b c d : Int, gEq (.tup [.int a, .int b]) (.tup [.int c, .int d]) = .ok (.bl (decide (a = c) && (decide (b = d) && true)), false) := fun _ _ _ _ => rfl
  by_cases c3 : u = 1 ∧ d = 1
  · rw [if_pos c3]
    exact seq_ret (if_yes (by simp only [RUN, R.bind, eq2, c3.1, c3.2]) rfl)
  rw [if_neg c3]
  refine seq_to (if_no (by
    have : (decide (u = 1) && decide (d = 1)) = false := by simp; intro a; exact fun b => c3 ⟨a, b⟩
    simp only [RUN, R.bind, eq2, this]) rfl) ?_
  by_cases c4 : d = 1
  · subst c4
    rw [if_pos rfl]
    have c5 : u ≠ 1 := fun e => c3 ⟨e, rfl⟩
    refine seq_ret (if_yes (by simp only [RUN, R.bind, c5]) (seq_to (set_to (d := .int u) (b := false) (by simp only [RUN, R.bind, max_int, (show max u 1 = u by omega)])) (seq_to (set_to (d := .str wPib) (b := false) rfl) (ret_to (b := false) ?_))))
    by_cases c6 : u = 2
    · subst c6; rfl
    · have e : u - 3 = u - 2 - 1 := by omega
      have := g1 (u - 2) (by omega) wPib (by decide)
      rw [← e] at this
      simp only [RUN, R.bind, c6]
      exact this
  rw [if_neg c4]
  by_cases c5 : u = 1
  · subst c5
    rw [if_pos rfl]
    refine seq_ret (if_yes (by simp only [RUN, R.bind]) (seq_to (set_to (d := .int d) (b := false) (by simp only [RUN, R.bind, max_int, (show max 1 d = d by omega)])) (seq_to (set_to (d := .str wNib) (b := false) (by simp only [RUN, R.bind, c4]; rfl)) (ret_to (b := false) ?_))))
    by_cases c6 : d = 2
    · subst c6; rfl
    · have e : d - 3 = d - 2 - 1 := by omega
      have := g1 (d - 2) (by omega) wNib (by decide)
      rw [← e] at this
      simp only [RUN, R.bind, c6]
      exact this
  rw [if_neg c5]
  refine seq_to (if_no (by simp only [RUN, R.bind, c4, c5]) rfl) ?_
  have h1 := digS_len (n := (min u d - 1).toNat) (by omega)
  have h2 := digS_len (n := (max u d - min u d).toNat) (by omega)
  have h3 : wCou.length = 7 := rfl
  have h4 : wRem.length = 9 := rfl
  have k1 := str_int (i := min u d - 1) (by omega)
  have k2 := str_int (i := max u d - min u d) (by omega)
  have k3 := cat_str (a := wCou) (b := digS (min u d - 1).toNat) (by omega)
  refine seq_to (ρ' := [some (.int u, false), some (.int d, false), none, none, some (.str (sCat wCou (digS (min u d - 1).toNat)), false), some (.int (max u d - min u d), false)]) ?_ (ret_to (b := false) ?_)
  · have k3 : gAdd (.str ⟨⟨[99, 111, 117, 115, 105, 110, 32]⟩⟩) (.str (digS (min u d - 1).toNat)) = _ := k3
    simp only [RUN, R.bind, min_int, max_int, k1, k3]
  · by_cases c6 : u = d
    · rw [if_pos c6]
      have : max u d - min u d = 0 := by omega
      simp only [RUN, R.bind, this]
    · rw [if_neg c6]
      have : ¬ (max u d - min u d = 0) := by omega
      have c := cat_str (a := sCat wCou (digS (min u d - 1).toNat)) (b := wRem) (by rw [len_sCat]; omega)
      have c' := cat_str (a := sCat (sCat wCou (digS (min u d - 1).toNat)) wRem) (b := digS (max u d - min u d).toNat) (by rw [len_sCat, len_sCat]; omega)
      have c : gAdd (.str (sCat wCou (digS (min u d - 1).toNat))) (.str ⟨⟨[32, 114, 101, 109, 111, 118, 101, 100, 32]⟩⟩) = _ := c
      rw [← sCat_assoc]
      simp only [RUN, R.bind, this, k2, c, c']
theorem all_pairs_eq : g_all_pairs [] = .ok (.lst ((pairsN 12).map PD), true) := by kernel_rfl
theorem law_pairs12 : g__law_pairs [.int 12] = .ok (.lst ((pairsN 12).map PD), true) := by kernel_rfl
theorem pairs_len : (pairsN 12).length = 168 := by decide +kernel
/-- readings, as the def has it -/
theorem readings_eq {w : Str} (hw : okS w = true) : g_readings [.str w] = .ok (.lst ((rd w).map PD), true) := by
  refine fnD0_rt (ret_to ?_)
  have x0 : ∀ p : Int × Int, gIx (PD p) (.int 0) = .ok (.int p.1, false) := fun _ => rfl
  have x1 : ∀ p : Int × Int, gIx (PD p) (.int 1) = .ok (.int p.2, false) := fun _ => rfl
  refine fLc_map (enc := PD) (xs := pairsN 12) (it_to (call_to rfl all_pairs_eq) rfl) (fun p hp => ⟨_, rfl, ?_, fun _ => ⟨false, rfl⟩⟩) (by rw [pairs_len]; decide)
  obtain ⟨h1, h2, h3, h4, h5⟩ := pairsN_mem.mp hp
  have h0 : ¬(p.1 = 0 ∧ p.2 = 0) := fun z => h5 (Prod.ext z.1 z.2)
  have e := word_of_eq (u := p.1) (d := p.2) ⟨h1, by omega⟩ ⟨h3, by omega⟩ h0
  have e2 := eq_str (wd_ok (u := p.1) (d := p.2) ⟨h1, by omega⟩ ⟨h3, by omega⟩ h0).2 hw
  show (fY (fOp gEq (fCall g_word_of (fCons (fOp gIx (eVar 1) (eC (.int 0))) (fCons (fOp gIx (eVar 1) (eC (.int 1))) fNil))) (eVar 0))) [some (.str w, false), some (PD p, false)] = _
  simp only [RUN, R.bind, x0, x1, e, e2]
end Gen

/-! Wd3: which words are alike. -/
namespace Pd
open PySem PySem.Spec PyProof.Rows L2
/-- a word as a number -/
def wcode (w : Str) : Nat := w.cps.toList.foldl (fun a c => a * 256 + c) 0
def codes : List (Nat × Nat) := [(426953501796, 1001), (488513697219223579356260, 1002), (137504461652176189275954074545065389156, 1003), (38704065141157583924189657034542437123157333755128932, 1004), (10894225834215043664233753494474988649866568534670396332274841381988, 1005), (3066451962966306348669073893496965886191082315458361208671049706300132393749146724, 1006), (863129494860286454494058610634054405745433414974676444184391851165074873183317502714156541373540, 1007), (242949354464079407431271970175743524638644700359021821686810698999588197349044866858369606079183953185697524836, 1008), (68384163889645660514836314822168137617031115951683546821112332730114455966957017497165609172449372659113412773751148448935012, 1009), (19248430938215695315077725877329736949981250560122208238827092798217386899204502112700076136306290182495185498309158183306308023970374970468, 1010), (5417951650050933258463428499287843013161927243786260719145066231699918279846276955505277879067971064489750914183416885712819874170171881598315388083989604, 1011), (1525017814517546685522191359441347872811422519420086452411269155710901124976629214822636954975546814172875135621783753173941027307501870867142892966031072347949523102820, 1012), (123563833388660, 1013), (32485493768285799, 1014), (31078118884732519, 1015), (32015233660962133790882885223, 1016), (9011492398837018740388926232482699534757479, 1017), (2536509613090903420055693363415773159303242122270320717415, 1018), (713963984271117101579223269013912856157655435488159094035061299000995431, 1019), (200962995844959852866376426684217156317418770625879160171465913552085479654038270733927, 1020), (56566054575163733081722625106513389534932724283780395446068304357954346888941895857878060389647347303, 1021), (15921928894157908045415839837437527630718219082728854106066825969637012101467004394430110504005399559075167178681959, 1022), (4481624564671818007500312728185611066869751215009532924468417837800780986250495098694245362725642086587656619540558362043595976295, 1023), (1261465169966903808168933843096681640753971236708169039139772353623974667826266250457912189668969033400004476817188990701162202662019788255620711, 1024), (355070879337737962026659250129328079710580063848776382489891060560685844388005606555993891082598551682400315911924409022075363273616384432427200370766533717607, 1025), (125059506488135500052131444, 1026), (31641068838153831, 1027), (7165074670720262193, 28), (8662043768900512223293407539314126582194225, 29), (8662043768900512223293407539314126582194226, 30), (8662043768900512223293407539314126582194227, 31), (8662043768900512223293407539314126582194228, 32), (8662043768900512223293407539314126582194229, 33), (8662043768900512223293407539314126582194230, 34), (8662043768900512223293407539314126582194231, 35), (8662043768900512223293407539314126582194232, 36), (8662043768900512223293407539314126582194233, 37), (2217483204838531129163112330064416405041721648, 38), (35201142182957104454644243097800476552820, 1039), (32015233660962696740836306535, 1040), (8662043768900512223293407539314126582194225, 29), (7165074670720262194, 42), (8662043768900512224502333358928755756900401, 43), (8662043768900512224502333358928755756900402, 44), (8662043768900512224502333358928755756900403, 45), (8662043768900512224502333358928755756900404, 46), (8662043768900512224502333358928755756900405, 47), (8662043768900512224502333358928755756900406, 48), (8662043768900512224502333358928755756900407, 49), (8662043768900512224502333358928755756900408, 50), (8662043768900512224502333358928755756900409, 51), (9908240676136341484592552200842863903528291705049935476, 1052), (9011492398837018740388926233045649488178791, 1053), (8662043768900512223293407539314126582194226, 30), (8662043768900512224502333358928755756900401, 43), (7165074670720262195, 56), (8662043768900512225711259178543384931606577, 57), (8662043768900512225711259178543384931606578, 58), (8662043768900512225711259178543384931606579, 59), (8662043768900512225711259178543384931606580, 60), (8662043768900512225711259178543384931606581, 61), (8662043768900512225711259178543384931606582, 62), (8662043768900512225711259178543384931606583, 63), (8662043768900512225711259178543384931606584, 64), (2788921813559051178043840894585597094365841544875621461076623130717812, 1065), (2536509613090903420055693363415773159303242685220274138727, 1066), (8662043768900512223293407539314126582194227, 31), (8662043768900512224502333358928755756900402, 44), (8662043768900512225711259178543384931606577, 57), (7165074670720262196, 70), (8662043768900512226920184998158014106312753, 71), (8662043768900512226920184998158014106312754, 72), (8662043768900512226920184998158014106312755, 73), (8662043768900512226920184998158014106312756, 74), (8662043768900512226920184998158014106312757, 75), (8662043768900512226920184998158014106312758, 76), (8662043768900512226920184998158014106312759, 77), (785011702519374425259282916735223266864917072757340469419788724812833907063518490228, 1078), (713963984271117101579223269013912856157655435488159094035624248954416743, 1079), (8662043768900512223293407539314126582194228, 32), (8662043768900512224502333358928755756900403, 45), (8662043768900512225711259178543384931606578, 58), (8662043768900512226920184998158014106312753, 71), (7165074670720262197, 84), (8662043768900512228129110817772643281018929, 85), (8662043768900512228129110817772643281018930, 86), (8662043768900512228129110817772643281018931, 87), (8662043768900512228129110817772643281018932, 88), (8662043768900512228129110817772643281018933, 89), (8662043768900512228129110817772643281018934, 90), (220961150684233332350479004322317927870830954233517169711204313898259167534929280694838338328555124, 1091), (200962995844959852866376426684217156317418770625879160171465913552085480216988224155239, 1092), (8662043768900512223293407539314126582194229, 33), (8662043768900512224502333358928755756900404, 46), (8662043768900512225711259178543384931606579, 59), (8662043768900512226920184998158014106312754, 72), (8662043768900512228129110817772643281018929, 85), (7165074670720262198, 98), (8662043768900512229338036637387272455725105, 99), (8662043768900512229338036637387272455725106, 100), (8662043768900512229338036637387272455725107, 101), (8662043768900512229338036637387272455725108, 102), (8662043768900512229338036637387272455725109, 103), (62195034742804328302405624364990342307493043291909586351823538943894578521355485915742619156271092029802303286900, 1104), (56566054575163733081722625106513389534932724283780395446068304357954346888941895857878623339600768615, 1105), (8662043768900512223293407539314126582194230, 34), (8662043768900512224502333358928755756900405, 47), (8662043768900512225711259178543384931606580, 60), (8662043768900512226920184998158014106312755, 73), (8662043768900512228129110817772643281018930, 86), (8662043768900512229338036637387272455725105, 99), (7165074670720262199, 112), (8662043768900512230546962457001901630431281, 113), (8662043768900512230546962457001901630431282, 114), (8662043768900512230546962457001901630431283, 115), (8662043768900512230546962457001901630431284, 116), (17506345955749289091798096594475043229959965683630987986204757178909300727540996479274395948147039400733033670080308266664291956, 1117), (15921928894157908045415839837437527630718219082728854106066825969637012101467004394430110504005399559638117132103271, 1118), (8662043768900512223293407539314126582194231, 35), (8662043768900512224502333358928755756900406, 48), (8662043768900512225711259178543384931606581, 61), (8662043768900512226920184998158014106312756, 74), (8662043768900512228129110817772643281018931, 87), (8662043768900512229338036637387272455725106, 100), (8662043768900512230546962457001901630431281, 113), (7165074670720262200, 126), (8662043768900512231755888276616530805137457, 127), (8662043768900512231755888276616530805137458, 128), (8662043768900512231755888276616530805137459, 129), (4927598320183218000659897824596412659195200143391285309139735756343651046196352540851219490894410286718767487567144494926414854150679729368692, 1130), (4481624564671818007500312728185611066869751215009532924468417837800780986250495098694245362725642086587656619540558924993549397607, 1131), (8662043768900512223293407539314126582194232, 36), (8662043768900512224502333358928755756900407, 49), (8662043768900512225711259178543384931606582, 62), (8662043768900512226920184998158014106312757, 75), (8662043768900512228129110817772643281018932, 88), (8662043768900512229338036637387272455725107, 101), (8662043768900512230546962457001901630431282, 114), (8662043768900512231755888276616530805137457, 127), (7165074670720262201, 140), (8662043768900512232964814096231159979843633, 141), (8662043768900512232964814096231159979843634, 142), (1386995622413038914166637695817687811369453374409282744101136955315179079640646900609351137041400592509376234030954722742481887787564001689168753613238267508, 1143), (1261465169966903808168933843096681640753971236708169039139772353623974667826266250457912189668969033400004476817188990701162202662582738209042023, 1144), (8662043768900512223293407539314126582194233, 37), (8662043768900512224502333358928755756900408, 50), (8662043768900512225711259178543384931606583, 63), (8662043768900512226920184998158014106312758, 76), (8662043768900512228129110817772643281018933, 89), (8662043768900512229338036637387272455725108, 102), (8662043768900512230546962457001901630431283, 115), (8662043768900512231755888276616530805137458, 128), (8662043768900512232964814096231159979843633, 141), (1834259115704387121456, 154), (2217483204838531129182068148357296793351102513, 155), (390404560516491951493680988016985055439724164971542131817284903861990687994017078994595060473739984428256034719176640812528902990720478941988580599303954521089341651250804, 1156), (355070879337737962026659250129328079710580063848776382489891060560685844388005606555993891082598551682400315911924409022075363273616384432427200933716487138919, 1157), (2217483204838531129163112330064416405041721648, 38), (8662043768900512224502333358928755756900409, 51), (8662043768900512225711259178543384931606584, 64), (8662043768900512226920184998158014106312759, 77), (8662043768900512228129110817772643281018934, 90), (8662043768900512229338036637387272455725109, 103), (8662043768900512230546962457001901630431284, 116), (8662043768900512231755888276616530805137459, 129), (8662043768900512232964814096231159979843634, 142), (2217483204838531129182068148357296793351102513, 155), (1834259115704387121457, 168)]
/-- one number for a pair and a cousin's pair turned around -/
def cid (p : Int × Int) : Nat := if 2 ≤ p.1 ∧ 2 ≤ p.2 then (min p.1 p.2 * 13 + max p.1 p.2).toNat else (p.1 * 13 + p.2 + 1000).toNat
theorem codes_eq : ((pairsN 12).map fun p => (wcode (wd p.1 p.2), cid p)) = codes := by kernel_rfl
/-- the same pair, or a cousin's turned around -/
def likeP (p q : Int × Int) : Bool := (decide (p.1 = q.1) && decide (p.2 = q.2)) || (decide (p.1 = q.2) && decide (p.2 = q.1) && decide (2 ≤ p.1) && decide (2 ≤ p.2))
theorem codes_ok : (codes.all fun x => codes.all fun y => match Nat.beq x.1 y.1 with | true => Nat.beq x.2 y.2 | false => true) = true := by decide +kernel
theorem codes_mem {p : Int × Int} (h : p ∈ pairsN 12) : (wcode (wd p.1 p.2), cid p) ∈ codes := by
  rw [← codes_eq]
  exact List.mem_map.mpr ⟨p, h, rfl⟩
theorem wd_swap {u d : Int} (hu : 2 ≤ u) (hd : 2 ≤ d) : wd u d = wd d u := by
  have key : ∀ u d : Int, 2 ≤ u → 2 ≤ d → wd u d = if u = d then sCat wCou (digS (min u d - 1).toNat) else sCat (sCat wCou (digS (min u d - 1).toNat)) (sCat wRem (digS (max u d - min u d).toNat)) := fun u d hu hd => by
    unfold wd
    rw [if_neg (by omega), if_neg (by omega), if_neg (by omega), if_neg (by omega), if_neg (by omega)]
  rw [key u d hu hd, key d u hd hu]
  have e1 : min u d = min d u := by omega
  have e2 : max u d = max d u := by omega
  by_cases c : u = d
  · rw [if_pos c, if_pos c.symm, e1]
  · rw [if_neg c, if_neg (fun z => c z.symm), e1, e2]
theorem wd_inj {p q : Int × Int} (hp : p ∈ pairsN 12) (hq : q ∈ pairsN 12) : wd p.1 p.2 = wd q.1 q.2 ↔ likeP p q = true := by
  have hp' := pairsN_mem.mp hp
  have hq' := pairsN_mem.mp hq
  constructor
  · intro h
    have := List.all_eq_true.mp (List.all_eq_true.mp codes_ok _ (codes_mem hp)) _ (codes_mem hq)
    simp only [h, Nat.beq_refl] at this
    have e : cid p = cid q := Nat.eq_of_beq_eq_true this
    unfold cid at e
    unfold likeP
    simp only [Bool.or_eq_true, Bool.and_eq_true, decide_eq_true_eq]
    by_cases c1 : 2 ≤ p.1 ∧ 2 ≤ p.2
    · rw [if_pos c1] at e
      by_cases c2 : 2 ≤ q.1 ∧ 2 ≤ q.2
      · rw [if_pos c2] at e; omega
      · rw [if_neg c2] at e; omega
    · rw [if_neg c1] at e
      by_cases c2 : 2 ≤ q.1 ∧ 2 ≤ q.2
      · rw [if_pos c2] at e; omega
      · rw [if_neg c2] at e; omega
  · intro h
    unfold likeP at h
    simp only [Bool.or_eq_true, Bool.and_eq_true, decide_eq_true_eq] at h
    rcases h with ⟨h1, h2⟩ | ⟨⟨⟨h1, h2⟩, h3⟩, h4⟩
    · rw [h1, h2]
    · rw [← h1, ← h2, wd_swap h3 h4]
theorem pairsN_nodup : (pairsN 12).Nodup := by decide +kernel
/-- a word has at most two pairs -/
theorem rd_len (w : Str) : (rd w).length ≤ 2 := by
  have nd : (rd w).Nodup := pairsN_nodup.filter _
  cases e : rd w with
  | nil => simp
  | cons p l =>
    cases l with
    | nil => simp
    | cons q l =>
      cases l with
      | nil => simp
      | cons r l =>
        exfalso
        have hp := rd_mem.mp (show p ∈ rd w by rw [e]; simp)
        have hq := rd_mem.mp (show q ∈ rd w by rw [e]; simp)
        have hr := rd_mem.mp (show r ∈ rd w by rw [e]; simp)
        rw [e] at nd
        simp only [List.nodup_cons, List.mem_cons, not_or] at nd
        have h1 := (wd_inj hp.1 hq.1).mp (hp.2.trans hq.2.symm)
        have h2 := (wd_inj hp.1 hr.1).mp (hp.2.trans hr.2.symm)
        unfold likeP at h1 h2
        simp only [Bool.or_eq_true, Bool.and_eq_true, decide_eq_true_eq] at h1 h2
        rcases h1 with h1 | h1
        · exact nd.1.1 (Prod.ext h1.1 h1.2)
        · rcases h2 with h2 | h2
          · exact nd.1.2.1 (Prod.ext h2.1 h2.2)
          · exact nd.2.1.1 (Prod.ext (by omega) (by omega))
end Pd

/-! Wd4: the law's own readings. -/
namespace Gen
open PySem PySem.Spec PyProof.Rows L2 Pd
theorem law_readings_eq {w : Str} (hw : okS w = true) : g__law_readings [.str w] = .ok (.lst ((rd w).map PD), true) := by
  refine fnD0_rt (ret_to ?_)
  have x0 : ∀ p : Int × Int, gIx (PD p) (.int 0) = .ok (.int p.1, false) := fun _ => rfl
  have x1 : ∀ p : Int × Int, gIx (PD p) (.int 1) = .ok (.int p.2, false) := fun _ => rfl
  refine fLc_map (enc := PD) (xs := pairsN 12) (it_to (call_to rfl law_pairs12) rfl) (fun p hp => ⟨_, rfl, ?_, fun _ => ⟨false, rfl⟩⟩) (by rw [pairs_len]; decide)
  obtain ⟨h1, h2, h3, h4, h5⟩ := pairsN_mem.mp hp
  have h0 : ¬(p.1 = 0 ∧ p.2 = 0) := fun z => h5 (Prod.ext z.1 z.2)
  have e := law_word_eq (u := p.1) (d := p.2) ⟨h1, by omega⟩ ⟨h3, by omega⟩ h0
  have e2 := eq_str (wd_ok (u := p.1) (d := p.2) ⟨h1, by omega⟩ ⟨h3, by omega⟩ h0).2 hw
  show (fY (fOp gEq (fCall g__law_word (fCons (fOp gIx (eVar 1) (eC (.int 0))) (fCons (fOp gIx (eVar 1) (eC (.int 1))) fNil))) (eVar 0))) [some (.str w, false), some (PD p, false)] = _
  simp only [RUN, R.bind, x0, x1, e, e2]
end Gen

/-! Tr1: random trees of parents, lines of ancestors, pairs. -/
namespace Pd
open PySem PySem.Spec PyProof.Rows L2
/-- a tree of parents: a parent has a smaller number, or there is none -/
structure Tree (ps : List Int) (n : Nat) : Prop where
  len : ps.length = n
  par : ∀ k : Nat, k < n → dg ps k = -1 ∨ (0 ≤ dg ps k ∧ dg ps k < k)
/-- a person and all ancestors -/
def up (ps : List Int) : Nat → Int → List Int
  | 0, x => [x]
  | k + 1, x => if 0 ≤ dg ps x then x :: up ps k (dg ps x) else [x]
def line (ps : List Int) (x : Int) : List Int := up ps x.toNat x
theorem dg_app {l : List Int} {x : Int} {i : Nat} (h : i < l.length) : dg (l ++ [x]) i = dg l i := by
  unfold dg
  rw [Int.toNat_natCast, List.getD_eq_getElem?_getD, List.getD_eq_getElem?_getD, List.getElem?_append_left h]
theorem dg_last (l : List Int) (x : Int) : dg (l ++ [x]) l.length = x := by
  unfold dg
  rw [Int.toNat_natCast, List.getD_eq_getElem?_getD, List.getElem?_append_right (Nat.le_refl _)]
  simp
theorem Tree.snoc {ps : List Int} {n : Nat} (t : Tree ps n) {x : Int} (h : x = -1 ∨ (0 ≤ x ∧ x < n)) : Tree (ps ++ [x]) (n + 1) where
  len := by simp [t.len]
  par := fun k hk => by
    rcases Nat.lt_or_ge k n with c | c
    · rw [dg_app (by rw [t.len]; exact c)]; exact t.par k c
    · have : k = n := by omega
      subst this
      have e := dg_last ps x
      rw [t.len] at e
      rw [e]; exact h
theorem up_more {ps : List Int} {n : Nat} (t : Tree ps n) : ∀ (k : Nat) (x : Int), 0 ≤ x → x < n → x.toNat ≤ k → up ps k x = line ps x := by
  have key : ∀ (m k j : Nat) (x : Int), x.toNat ≤ m → 0 ≤ x → x < n → x.toNat ≤ k → x.toNat ≤ j → up ps k x = up ps j x := by
    intro m
    induction m with
    | zero =>
      intro k j x hm h0 hn hk hj
      have hx : x = 0 := by omega
      subst hx
      have h := t.par 0 (by omega)
      have hneg : ¬ (0 ≤ dg ps 0) := by
        have e : ((0 : Nat) : Int) = 0 := rfl
        rw [e] at h
        omega
      cases k <;> cases j <;> simp [up, hneg]
    | succ m ih =>
      intro k j x hm h0 hn hk hj
      by_cases hx : x = 0
      · subst hx; exact ih k j 0 (by omega) h0 hn hk hj
      cases k with
      | zero => omega
      | succ k =>
        cases j with
        | zero => omega
        | succ j =>
          have h := t.par x.toNat (by omega)
          have e : ((x.toNat : Nat) : Int) = x := by omega
          rw [e] at h
          unfold up
          by_cases c : 0 ≤ dg ps x
          · rw [if_pos c, if_pos c, ih k j (dg ps x) (by omega) c (by omega) (by omega) (by omega)]
          · rw [if_neg c, if_neg c]
  intro k x h0 hn hk
  exact key x.toNat k x.toNat x (Nat.le_refl _) h0 hn hk (Nat.le_refl _)
theorem line_eq {ps : List Int} {n : Nat} (t : Tree ps n) {x : Int} (h0 : 0 ≤ x) (hn : x < n) : line ps x = if 0 ≤ dg ps x then x :: line ps (dg ps x) else [x] := by
  have h := t.par x.toNat (by omega)
  have e : ((x.toNat : Nat) : Int) = x := by omega
  rw [e] at h
  by_cases c : 0 ≤ dg ps x
  · rw [if_pos c]
    have hx : x.toNat = (x.toNat - 1) + 1 := by omega
    show up ps x.toNat x = _
    rw [hx, up, if_pos c, up_more t _ _ c (by omega) (by omega)]
  · rw [if_neg c]
    show up ps x.toNat x = _
    cases x.toNat with
    | zero => rfl
    | succ k => rw [up, if_neg c]
theorem line_in {ps : List Int} {n : Nat} (t : Tree ps n) : ∀ (m : Nat) {x : Int}, x.toNat ≤ m → 0 ≤ x → x < n → (∀ y ∈ line ps x, 0 ≤ y ∧ y ≤ x) ∧ (line ps x).length ≤ x.toNat + 1
  | 0, x, hm, h0, hn => by
    have h := t.par x.toNat (by omega)
    have e : ((x.toNat : Nat) : Int) = x := by omega
    rw [e] at h
    rw [line_eq t h0 hn, if_neg (by omega)]
    exact ⟨fun y hy => by rw [List.mem_singleton] at hy; subst hy; omega, by simp⟩
  | m + 1, x, hm, h0, hn => by
    have h := t.par x.toNat (by omega)
    have e : ((x.toNat : Nat) : Int) = x := by omega
    rw [e] at h
    rw [line_eq t h0 hn]
    split
    · rename_i c
      obtain ⟨h1, h2⟩ := line_in t m (x := dg ps x) (by omega) c (by omega)
      refine ⟨fun y hy => ?_, by rw [List.length_cons]; omega⟩
      rcases List.mem_cons.mp hy with rfl | hy
      · omega
      · have := h1 y hy; omega
    · exact ⟨fun y hy => by rw [List.mem_singleton] at hy; subst hy; omega, by simp⟩
/-- the first place -/
def idx (x : Int) : List Int → Nat → Option Nat
  | [], _ => none
  | y :: ys, k => if y = x then some k else idx x ys (k + 1)
theorem idxD_int (x : Int) : ∀ (l : List Int) (k : Nat), idxD (.int x) (l.map D.int) k = idx x l k
  | [], _ => rfl
  | y :: l, k => by
    rw [List.map_cons, idxD, idx, idxD_int x l]
    show (if decide (y = x) = true then _ else _) = _
    simp
theorem idx_some {x : Int} : ∀ {l : List Int} {k : Nat}, x ∈ l → ∃ j, idx x l k = some j ∧ k ≤ j ∧ j < k + l.length
  | [], _, h => by cases h
  | y :: l, k, h => by
    unfold idx
    by_cases c : y = x
    · rw [if_pos c]; exact ⟨k, rfl, Nat.le_refl _, by simp⟩
    · rw [if_neg c]
      obtain ⟨j, e, h1, h2⟩ := idx_some (k := k + 1) ((List.mem_cons.mp h).resolve_left fun e => c e.symm)
      exact ⟨j, e, by omega, by rw [List.length_cons]; omega⟩
/-- what one is to another one -/
def pairOf (ps : List Int) (a b : Int) : Option (Int × Int) :=
  match (line ps a).filter fun p => decide (p ∈ line ps b) with
  | [] => none
  | c :: _ => if a = b then none else some (((idx c (line ps b) 0).getD 0 : Nat), ((idx c (line ps a) 0).getD 0 : Nat))
/-- nothing, or a pair -/
def oPD : Option (Int × Int) → D
  | none => .non
  | some p => PD p
end Pd
namespace Gen
open PySem PySem.Spec PyProof.Rows L2 Pd
theorem last_LI (l : List Int) (x : Int) : gIx (LI (l ++ [x])) (.int (-1)) = .ok (.int x, false) := by
  have : L2.atI ((l ++ [x]).map D.int) (-1) = some (.int x) := by
    unfold L2.atI L2.ixN
    rw [List.length_map, List.length_append, List.length_singleton, if_neg (by omega), if_pos (by omega)]
    have e : ((-1 : Int) + ((l.length + 1 : Nat) : Int)).toNat = l.length := by omega
    rw [e]
    show ((l ++ [x]).map D.int)[l.length]? = _
    simp
  simp only [gIx, this]
/-- _law_line, as the def has it -/
theorem law_line_eq {ps : List Int} {n : Nat} (t : Tree ps n) (hn : n ≤ 100) {x : Int} (h0 : 0 ≤ x) (hx : x < n) : g__law_line [LI ps, .int x] = .ok (LI (line ps x), true) := by
  have loop : ∀ (m fuel : Nat) (y : Int) (pre : List Int), y.toNat ≤ m → m + 1 < fuel → 0 ≤ y → y < n → pre.length + m < 1000 →
      whileL (fPeekB (fY (fOp gGe (fOp gIx (eVar 0) (fOp gIx (eVar 2) (fNeg (eC (.int 1))))) (eC (.int 0))))) b__law_line_1 fuel [some (LI ps, false), some (.int x, false), some (LI (pre ++ [y]), true)] =
        .nx [some (LI ps, false), some (.int x, false), some (LI (pre ++ line ps y), true)] := by
    intro m
    induction m with
    | zero =>
      intro fuel y pre hm hf h0 hy hl
      cases fuel with
      | zero => omega
      | succ fuel =>
        have h := t.par y.toNat (by omega)
        have e : ((y.toNat : Nat) : Int) = y := by omega
        rw [e] at h
        have e1 := last_LI pre y
        have e2 := ix_dg (l := ps) h0 (by rw [t.len]; exact hy)
        have c : decide (0 ≤ dg ps y) = false := by simp; omega
        rw [line_eq t h0 hy, if_neg (by omega), whileL]
        have tt : (fPeekB (fY (fOp gGe (fOp gIx (eVar 0) (fOp gIx (eVar 2) (fNeg (eC (.int 1))))) (eC (.int 0))))) [some (LI ps, false), some (.int x, false), some (LI (pre ++ [y]), true)] = .ok false := by
          simp only [RUN, R.bind, fNeg, e1, e2, c]
        rw [tt]
        rfl
    | succ m ih =>
      intro fuel y pre hm hf h0 hy hl
      cases fuel with
      | zero => omega
      | succ fuel =>
        have h := t.par y.toNat (by omega)
        have e : ((y.toNat : Nat) : Int) = y := by omega
        rw [e] at h
        have e1 := last_LI pre y
        have e2 := ix_dg (l := ps) h0 (by rw [t.len]; exact hy)
        rw [line_eq t h0 hy, whileL]
        by_cases c : 0 ≤ dg ps y
        · rw [if_pos c]
          have c' : decide (0 ≤ dg ps y) = true := by simp [c]
          have tt : (fPeekB (fY (fOp gGe (fOp gIx (eVar 0) (fOp gIx (eVar 2) (fNeg (eC (.int 1))))) (eC (.int 0))))) [some (LI ps, false), some (.int x, false), some (LI (pre ++ [y]), true)] = .ok true := by
            simp only [RUN, R.bind, fNeg, e1, e2, c']
          rw [tt]
          have bb : b__law_line_1 [some (LI ps, false), some (.int x, false), some (LI (pre ++ [y]), true)] = .nx [some (LI ps, false), some (.int x, false), some (LI ((pre ++ [y]) ++ [dg ps y]), true)] := by
            refine (app_to (ds := (pre ++ [y]).map D.int) (d := .int (dg ps y)) (b := false) rfl ?_ (by rw [List.length_map, List.length_append, List.length_singleton]; show _ < 1000000; omega)).trans ?_
            · simp only [RUN, R.bind, fNeg, e1, e2]
            · show Out.nx [_, _, some (.lst ((pre ++ [y]).map D.int ++ [.int (dg ps y)]), true)] = _
              have ee : (pre ++ [y]).map D.int ++ [.int (dg ps y)] = ((pre ++ [y]) ++ [dg ps y]).map D.int := by simp
              rw [ee]
          simp only [bb, if_true]
          have := ih fuel (dg ps y) (pre ++ [y]) (by omega) (by omega) c (by omega) (by rw [List.length_append, List.length_singleton]; omega)
          rw [this, List.append_assoc]
          rfl
        · rw [if_neg c]
          have c' : decide (0 ≤ dg ps y) = false := by simp; omega
          have tt : (fPeekB (fY (fOp gGe (fOp gIx (eVar 0) (fOp gIx (eVar 2) (fNeg (eC (.int 1))))) (eC (.int 0))))) [some (LI ps, false), some (.int x, false), some (LI (pre ++ [y]), true)] = .ok false := by
            simp only [RUN, R.bind, fNeg, e1, e2, c']
          rw [tt]
          rfl
  have := loop x.toNat 200 x [] (Nat.le_refl _) (by omega) h0 hx (by simp; omega)
  exact fnD0_rt (seq_to (own_to rfl) (seq_to this rfl))
end Gen

/-! Tr2: _law_tree, _law_pair, _law_name. -/
namespace Pd
open PySem PySem.Spec PyProof.Rows L2
theorem div_int {a b : Int} (h : 0 < b ∧ b < 1000000) : gDiv (.int a) (.int b) = .ok (.int (a / b), false) := by
  have : b.natAbs.log2 < 9000 := by
    have h1 : b.natAbs.log2 ≤ b.natAbs := Nat.log2_le_self _
    by_cases c : b.natAbs = 0
    · rw [c]; decide
    · exact Nat.lt_of_lt_of_le ((Nat.log2_lt c).mpr (show b.natAbs < 2 ^ 20 by omega)) (by decide)
  simp only [gDiv]
  rw [if_pos ⟨h.1, this⟩]
theorem mul_int {a b : Int} (ha : -1000000 < a ∧ a < 1000000) (hb : -1000000 < b ∧ b < 1000000) : gMul (.int a) (.int b) = .ok (.int (a * b), false) := by
  have key : ∀ c : Int, -1000000 < c ∧ c < 1000000 → c.natAbs.log2 < 20 := fun c hc => by
    by_cases z : c.natAbs = 0
    · rw [z]; decide
    · exact (Nat.log2_lt z).mpr (show c.natAbs < 2 ^ 20 by omega)
  have h1 := key a ha
  have h2 := key b hb
  simp only [gMul]
  rw [if_pos (by omega)]
theorem emod_range (a : Int) {b : Int} (h : 0 < b) : 0 ≤ a % b ∧ a % b < b := ⟨Int.emod_nonneg _ (by omega), Int.emod_lt_of_pos _ h⟩
/-- the signs of a text, one by one -/
theorem ix_str {z : Str} {i : Nat} {c : Nat} (h : z.cps.toList[i]? = some c) (hl : z.length ≤ CAP) : gIx (.str z) (.int (i : Int)) = .ok (.str ⟨#[c]⟩, false) := by
  simp only [gIx, atI_nat, h]
  rw [if_pos hl]
/-- the name of a number below 26 -/
def nm (k : Nat) : Str := ⟨⟨[112, 97 + k, 120]⟩⟩
theorem nm_ok : ((List.range 26).all fun k => okS (nm k)) = true := by decide +kernel
theorem nm_inj {a b : Nat} (h : nm a = nm b) : a = b := by
  have := congrArg (fun s : Str => s.cps.toList[1]?) h
  simp [nm] at this
  exact this
end Pd
namespace Gen
open PySem PySem.Spec PyProof.Rows L2 Pd
/-- a step of _law_tree -/
theorem tree_step {ds : List Int} {ps : List Int} {n k : Nat} (hk : k < n) (hn : n ≤ 100) (hd : ds.length ≥ n) (t : Tree ps k) (a4 : Option (D × Bool)) :
    ∃ (x : Int) (p4 : Option (D × Bool)), b__law_tree_1 [some (LI ds, false), some (.int (n : Nat), false), some (LI ps, true), some (.int (k : Nat), false), a4] =
      .nx [some (LI ds, false), some (.int (n : Nat), false), some (LI (ps ++ [x]), true), some (.int (k : Nat), false), p4] ∧ (x = -1 ∨ (0 ≤ x ∧ x < k)) := by
  have e1 := ix_dg (l := ds) (i := (k : Int)) (by omega) (by omega)
  have s1 : (sSet 4 (fOp gIx (eVar 0) (eVar 3))) [some (LI ds, false), some (.int (n : Nat), false), some (LI ps, true), some (.int (k : Nat), false), a4] =
      .nx [some (LI ds, false), some (.int (n : Nat), false), some (LI ps, true), some (.int (k : Nat), false), some (.int (dg ds k), false)] := set_to (b := false) (by simp only [RUN, R.bind, e1])
  have m7 : ∀ a, gMod (.int a) (.int 7) = .ok (.int (a % 7), false) := fun _ => mod_int (by decide)
  have m3 : ∀ a, gMod (.int a) (.int 3) = .ok (.int (a % 3), false) := fun _ => mod_int (by decide)
  have m2 : ∀ a, gMod (.int a) (.int 2) = .ok (.int (a % 2), false) := fun _ => mod_int (by decide)
  have d7 : ∀ a, gDiv (.int a) (.int 7) = .ok (.int (a / 7), false) := fun _ => div_int (by decide)
  have d21 : ∀ a, gDiv (.int a) (.int 21) = .ok (.int (a / 21), false) := fun _ => div_int (by decide)
  have hlen : ((ps.map D.int).length < CAP) := by rw [List.length_map, t.len]; show _ < 1000000; omega
  by_cases c : (decide ((k : Int) = 0) || decide (dg ds k % 7 = 0)) = true
  · refine ⟨-1, some (.int (dg ds k), false), seq_to s1 (if_yes (by simp only [RUN, R.bind, m7, c]) ((app_to (ds := ps.map D.int) (d := .int (-1)) (b := false) rfl (by simp only [RUN, R.bind]; rfl) hlen).trans ?_)), .inl rfl⟩
    show Out.nx [_, _, some (.lst (ps.map D.int ++ [.int (-1)]), true), _, _] = _
    have ee : ps.map D.int ++ [.int (-1)] = (ps ++ [-1]).map D.int := by simp
    rw [ee]
  · have c' : (decide ((k : Int) = 0) || decide (dg ds k % 7 = 0)) = false := by simpa using c
    have k0 : 0 < (k : Int) := by
      simp only [Bool.or_eq_false_iff, decide_eq_false_iff_not] at c'
      omega
    have mk : gMod (.int (dg ds k / 7)) (.int (k : Nat)) = .ok (.int (dg ds k / 7 % (k : Nat)), false) := mod_int k0
    have r3 := emod_range (dg ds k / 7) (b := 3) (by decide)
    have rk := emod_range (dg ds k / 7) (b := (k : Int)) k0
    have r2 := emod_range (dg ds k / 21) (b := 2) (by decide)
    have two : ∀ (a b : Int) (i : Int), 0 ≤ i ∧ i < 2 → gIx (.lst [.int a, .int b]) (.int i) = .ok (.int (if i = 0 then a else b), false) := fun a b i hi => by
      have : i = 0 ∨ i = 1 := by omega
      rcases this with rfl | rfl <;> rfl
    refine ⟨if dg ds k / 21 % 2 = 0 then max 0 ((k : Int) - 1 - dg ds k / 7 % 3) else dg ds k / 7 % (k : Int), some (.int (dg ds k), false), seq_to s1 (if_no (by simp only [RUN, R.bind, m7, c']) ((app_to (ds := ps.map D.int) (b := false) (d := .int (if dg ds k / 21 % 2 = 0 then max 0 ((k : Int) - 1 - dg ds k / 7 % 3) else dg ds k / 7 % (k : Int))) rfl ?_ hlen).trans ?_)), .inr ?_⟩
    · have t2 := two (max 0 ((k : Int) - 1 - dg ds k / 7 % 3)) (dg ds k / 7 % (k : Int)) _ r2
      simp only [RUN, R.bind, d7, d21, m3, m2, mk, max_int, t2]
    · show Out.nx [_, _, some (.lst (ps.map D.int ++ [.int _]), true), _, _] = _
      have ee : ∀ x : Int, ps.map D.int ++ [.int x] = (ps ++ [x]).map D.int := fun x => by simp
      rw [ee]
    · split <;> omega
theorem law_tree_eq {ds : List Int} {n : Nat} (hn : n ≤ 100) (hd : ds.length ≥ n) : ∃ ps, Tree ps n ∧ g__law_tree [LI ds, .int (n : Nat)] = .ok (LI ps, true) := by
  obtain ⟨ρ', e, ps, p3, p4, rfl, t⟩ := forL_pre (g := gN 3) (sb := b__law_tree_1) (enc := fun k : Nat => D.int (k : Int)) (fun pre ρ => ∃ ps p3 p4, ρ = [some (LI ds, false), some (.int (n : Nat), false), some (LI ps, true), p3, p4] ∧ Tree ps pre.length)
    (List.range n) [] [some (LI ds, false), some (.int (n : Nat), false), some (LI [], true), none, none] ⟨[], none, none, rfl, ⟨rfl, fun k hk => by simp at hk⟩⟩ (by
    rintro pre k suf e ρ ⟨ps, p3, p4, rfl, t⟩
    rw [List.nil_append] at e
    have hk : pre.length = k ∧ k < n := by
      have h1 : (List.range n)[pre.length]? = some k := by rw [e]; simp
      rw [List.getElem?_range] at h1
      · simp at h1; refine ⟨h1, ?_⟩
        have := congrArg List.length e
        simp at this
        omega
      · have := congrArg List.length e
        simp at this
        omega
    rw [hk.1] at t
    obtain ⟨x, q4, e2, hx⟩ := tree_step (n := n) hk.2 hn hd t p4
    refine ⟨_, _, rfl, e2, _, _, _, rfl, ?_⟩
    rw [List.length_append, List.length_singleton, hk.1]
    exact t.snoc hx)
  rw [List.nil_append, List.length_range] at t
  refine ⟨ps, t, fnD0_rt (seq_to (own_to rfl) (seq_to (for_to ?_ e) rfl))⟩
  have := gR1_int (j := (n : Int)) (by omega) (by omega)
  rw [Int.toNat_natCast, List.map_map] at this
  exact rng_to rfl this
theorem law_pair_eq {ps : List Int} {n : Nat} (t : Tree ps n) (hn : n ≤ 100) {a b : Int} (ha : 0 ≤ a ∧ a < n) (hb : 0 ≤ b ∧ b < n) : g__law_pair [LI ps, .int a, .int b] = .ok (oPD (pairOf ps a b), false) := by
  have l1 := law_line_eq t hn ha.1 ha.2
  have l2 := law_line_eq t hn hb.1 hb.2
  have len : ∀ x : Int, 0 ≤ x ∧ x < n → (line ps x).length ≤ 101 := fun x hx => by have := (line_in t x.toNat (Nat.le_refl _) hx.1 hx.2).2; omega
  have s1 : (sAsg (gT [4, 5]) (fTup (fCons (fCall g__law_line (fCons (eVar 0) (fCons (eVar 1) fNil))) (fCons (fCall g__law_line (fCons (eVar 0) (fCons (eVar 2) fNil))) fNil)))) [some (LI ps, false), some (.int a, false), some (.int b, false), none, none, none, none] =
      .nx [some (LI ps, false), some (.int a, false), some (.int b, false), none, some (LI (line ps a), false), some (LI (line ps b), false), none] := by
    simp only [RUN, R.bind, l1, l2]
  have okI : ∀ x : Int, okN 63 (.int x) = true := fun _ => rfl
  have comm : (fLc (fIt seqA (eVar 4)) (gN 6) (fY (fOp gIn (eVar 6) (eVar 5))) (eVar 6) [6]) [some (LI ps, false), some (.int a, false), some (.int b, false), none, some (LI (line ps a), false), some (LI (line ps b), false), none] =
      .ok (LI ((line ps a).filter fun p => decide (p ∈ line ps b)), true) := by
    refine fLc_map (enc := D.int) (f := D.int) rfl (fun x hx => ⟨_, rfl, ?_, fun _ => ⟨false, rfl⟩⟩) (by have := len a ha; show _ ≤ 1000000; omega)
    have := in_enc (enc := D.int) (x := x) (xs := line ps b) rfl (fun _ _ => rfl) fun y _ => rfl
    show (fY (fOp gIn (eVar 6) (eVar 5))) [some (LI ps, false), some (.int a, false), some (.int b, false), none, some (LI (line ps a), false), some (LI (line ps b), false), some (.int x, false)] = _
    simp only [RUN, R.bind, this]
  refine fnD0_rt (show s__law_pair [some (LI ps, false), some (.int a, false), some (.int b, false), none, none, none, none] = _ from seq_to s1 (seq_to (set_to comm) ?_))
  show (sSeq (sIf (fOrT (fY (fOp gEq (eVar 3) (fLst fNil))) (fY (fOp gEq (eVar 1) (eVar 2)))) (sRet (eC .non)) sNil)
    (sRet (fTup (fCons (fIndex (eVar 5) (fOp gIx (eVar 3) (eC (.int 0)))) (fCons (fIndex (eVar 4) (fOp gIx (eVar 3) (eC (.int 0)))) fNil))))) [some (LI ps, false), some (.int a, false), some (.int b, false), some (LI ((line ps a).filter fun p => decide (p ∈ line ps b)), false), some (LI (line ps a), false), some (LI (line ps b), false), none] = _
  have mem : ∀ c ∈ (line ps a).filter (fun p => decide (p ∈ line ps b)), c ∈ line ps a ∧ c ∈ line ps b := fun c hc => by
    simpa [List.mem_filter] using hc
  have okM : ∀ c ∈ (line ps a).filter (fun p => decide (p ∈ line ps b)), c ∈ line ps a ∧ c ∈ line ps b := mem
  unfold pairOf
  cases e : (line ps a).filter fun p => decide (p ∈ line ps b) with
  | nil => exact seq_ret (if_yes (by simp only [RUN, R.bind]; rfl) rfl)
  | cons c r =>
    obtain ⟨h1, h2⟩ := mem c (by rw [e]; exact List.mem_cons_self)
    have ne : ∀ r : List Int, gEq (LI (c :: r)) (.lst []) = .ok (.bl false, false) := fun r => by
      have h := eq_enc (enc := D.int) (xs := c :: r) (ys := []) (fun _ _ => rfl) (fun _ _ => rfl) fun _ _ y hy => by cases hy
      rw [show decide (c :: r = []) = false from by simp] at h
      exact h
    by_cases c2 : a = b
    · simp only [if_pos c2]
      exact seq_ret (if_yes (by simp only [RUN, R.bind, ne, c2]) rfl)
    · simp only [if_neg c2]
      refine seq_to (if_no (by simp only [RUN, R.bind, ne, c2]) rfl) (ret_to (b := false) ?_)
      obtain ⟨i, ei, _, _⟩ := idx_some (k := 0) h2
      obtain ⟨j, ej, _, _⟩ := idx_some (k := 0) h1
      have okL : ∀ l : List Int, okN 64 (LI l) = true := fun l => ok_enc (enc := D.int) fun _ _ => rfl
      have x0 : gIx (LI (c :: r)) (.int 0) = .ok (.int c, false) := ix_nat (i := 0) rfl
      have f5 : (fIndex (eVar 5) (fOp gIx (eVar 3) (eC (.int 0)))) [some (LI ps, false), some (.int a, false), some (.int b, false), some (LI (c :: r), false), some (LI (line ps a), false), some (LI (line ps b), false), none] = .ok (.int i, false) := by
        unfold fIndex
        simp only [RUN, R.bind, x0, okL, idxD_int, ei]
        rfl
      have f4 : (fIndex (eVar 4) (fOp gIx (eVar 3) (eC (.int 0)))) [some (LI ps, false), some (.int a, false), some (.int b, false), some (LI (c :: r), false), some (LI (line ps a), false), some (LI (line ps b), false), none] = .ok (.int j, false) := by
        unfold fIndex
        simp only [RUN, R.bind, x0, okL, idxD_int, ej]
        rfl
      simp only [RUN, R.bind, f4, f5, ei, ej]
      rfl
theorem law_name_eq {k : Nat} (hk : k < 26) : g__law_name [.int (k : Nat)] = .ok (.str (nm k), false) := by
  have key : ((List.range 26).all fun k => strIs (g__law_name [.int (k : Nat)]) (nm k)) = true := by decide +kernel
  exact strIs_eq (List.all_eq_true.mp key k (List.mem_range.mpr hk))
end Gen

/-! Tf1: what is true in a tree fits. -/
namespace Pd
open PySem PySem.Spec PyProof.Rows L2 Nt
section
variable {ps : List Int} {n : Nat} (t : Tree ps n)
include t
theorem line_drop : ∀ (j : Nat) {x c : Int}, 0 ≤ x → x < n → (line ps x)[j]? = some c → (line ps x).drop j = line ps c ∧ 0 ≤ c ∧ c < n
  | 0, x, c, h0, hn, h => by
    have e : c = x := by
      rw [line_eq t h0 hn] at h
      split at h <;> simpa using h.symm
    subst e
    exact ⟨rfl, h0, hn⟩
  | j + 1, x, c, h0, hn, h => by
    have hp := t.par x.toNat (by omega)
    have e : ((x.toNat : Nat) : Int) = x := by omega
    rw [e] at hp
    rw [line_eq t h0 hn] at h ⊢
    split at h
    · rename_i q
      rw [if_pos q]
      exact line_drop j q (by omega) (by simpa using h)
    · simp at h
theorem line_len {j : Nat} {x c : Int} (h0 : 0 ≤ x) (hn : x < n) (h : (line ps x)[j]? = some c) : (line ps c).length + j = (line ps x).length := by
  have h1 := (line_drop t j h0 hn h).1
  have hj : j < (line ps x).length := (List.getElem?_eq_some_iff.mp h).1
  rw [← h1, List.length_drop]
  omega
theorem line_pos {x : Int} (h0 : 0 ≤ x) (hn : x < n) : 1 ≤ (line ps x).length := by
  rw [line_eq t h0 hn]
  split <;> simp
theorem line_self {x : Int} (h0 : 0 ≤ x) (hn : x < n) : (line ps x)[0]? = some x := by
  rw [line_eq t h0 hn]
  split <;> rfl
/-- one ancestor of each height -/
theorem line_uniq {y z z' : Int} (h0 : 0 ≤ y) (hn : y < n) (hz : z ∈ line ps y) (hz' : z' ∈ line ps y) (e : (line ps z).length = (line ps z').length) : z = z' := by
  obtain ⟨i, hi⟩ := List.getElem?_of_mem hz
  obtain ⟨j, hj⟩ := List.getElem?_of_mem hz'
  have h1 := line_len t h0 hn hi
  have h2 := line_len t h0 hn hj
  have : i = j := by omega
  subst this
  rw [hi] at hj
  exact Option.some.inj hj
theorem line_at {y : Int} (h0 : 0 ≤ y) (hn : y < n) {L : Nat} (h1 : 1 ≤ L) (h2 : L ≤ (line ps y).length) : ∃ z ∈ line ps y, (line ps z).length = L := by
  have hi : (line ps y).length - L < (line ps y).length := by omega
  have e := List.getElem?_eq_getElem hi
  have := line_len t h0 hn e
  exact ⟨_, List.mem_of_getElem? e, by omega⟩
theorem line_trans {x y z : Int} (h0 : 0 ≤ x) (hn : x < n) (hy : y ∈ line ps x) (hz : z ∈ line ps y) : z ∈ line ps x := by
  obtain ⟨i, hi⟩ := List.getElem?_of_mem hy
  rw [← (line_drop t i h0 hn hi).1] at hz
  exact List.mem_of_mem_drop hz
theorem line_range {x y : Int} (h0 : 0 ≤ x) (hn : x < n) (hy : y ∈ line ps x) : 0 ≤ y ∧ y < n := by
  obtain ⟨i, hi⟩ := List.getElem?_of_mem hy
  exact (line_drop t i h0 hn hi).2
end
/-- one is (u, d) to the other one in the tree: the nearest common ancestor is c -/
structure True' (ps : List Int) (a b : Int) (u d : Int) (c : Int) : Prop where
  ne : a ≠ b
  ca : c ∈ line ps a
  cb : c ∈ line ps b
  da : ((line ps a).length : Int) - d = (line ps c).length
  db : ((line ps b).length : Int) - u = (line ps c).length
  far : ∀ z ∈ line ps a, z ∈ line ps b → (line ps z).length ≤ (line ps c).length
theorem idx_at {x : Int} : ∀ {l : List Int} {k j : Nat}, idx x l k = some j → k ≤ j ∧ l[j - k]? = some x
  | [], _, _, h => by cases h
  | y :: l, k, j, h => by
    unfold idx at h
    split at h
    · rename_i c; cases h; exact ⟨Nat.le_refl _, by simp [c]⟩
    · obtain ⟨h1, h2⟩ := idx_at h
      refine ⟨by omega, ?_⟩
      have e : j - k = (j - (k + 1)) + 1 := by omega
      rw [e]
      simpa using h2
theorem pair_true {ps : List Int} {n : Nat} (t : Tree ps n) {a b : Int} (ha : 0 ≤ a ∧ a < n) (hb : 0 ≤ b ∧ b < n) {p : Int × Int} (h : pairOf ps a b = some p) : ∃ c, True' ps a b p.1 p.2 c := by
  unfold pairOf at h
  split at h
  · cases h
  · rename_i c r e
    split at h
    · cases h
    · rename_i hne
      have hc : c ∈ (line ps a).filter fun p => decide (p ∈ line ps b) := by rw [e]; exact List.mem_cons_self
      obtain ⟨h1, h2⟩ : c ∈ line ps a ∧ c ∈ line ps b := by simpa [List.mem_filter] using hc
      obtain ⟨i, ei, _, _⟩ := idx_some (k := 0) h2
      obtain ⟨j, ej, _, _⟩ := idx_some (k := 0) h1
      rw [ei, ej] at h
      cases h
      have gi := (idx_at ei).2
      have gj := (idx_at ej).2
      have l1 := line_len t hb.1 hb.2 gi
      have l2 := line_len t ha.1 ha.2 gj
      refine ⟨c, hne, h1, h2, by show _ - (((some j).getD 0 : Nat) : Int) = _; simp only [Option.getD_some]; omega, by show _ - (((some i).getD 0 : Nat) : Int) = _; simp only [Option.getD_some]; omega, fun z hz hz' => ?_⟩
      -- c is the first of those in both
      have hzf : z ∈ c :: r := by rw [← e]; simp [List.mem_filter, hz, hz']
      obtain ⟨k, hk⟩ := List.getElem?_of_mem hzf
      have sub : List.Sublist (c :: r) (line ps a) := by rw [← e]; exact List.filter_sublist
      -- lines fall
      have pw : ∀ (m : Nat) {x : Int}, x.toNat ≤ m → 0 ≤ x → x < n → (line ps x).Pairwise (fun y z => (line ps z).length ≤ (line ps y).length) := by
        intro m
        induction m with
        | zero =>
          intro x hm h0 hn
          have hp := t.par x.toNat (by omega)
          have ex : ((x.toNat : Nat) : Int) = x := by omega
          rw [ex] at hp
          rw [line_eq t h0 hn, if_neg (by omega)]
          exact List.pairwise_singleton _ _
        | succ m ih =>
          intro x hm h0 hn
          have hp := t.par x.toNat (by omega)
          have ex : ((x.toNat : Nat) : Int) = x := by omega
          rw [ex] at hp
          have full := line_eq t h0 hn
          by_cases q : 0 ≤ dg ps x
          · rw [if_pos q] at full
            rw [full]
            refine List.pairwise_cons.mpr ⟨fun y hy => ?_, ih (by omega) q (by omega)⟩
            obtain ⟨i, hi⟩ := List.getElem?_of_mem (show y ∈ line ps x by rw [full]; exact List.mem_cons_of_mem _ hy)
            have := line_len t h0 hn hi
            omega
          · rw [if_neg q] at full
            rw [full]
            exact List.pairwise_singleton _ _
      have pc := (pw a.toNat (Nat.le_refl _) ha.1 ha.2).sublist sub
      rcases List.mem_cons.mp hzf with rfl | hr
      · exact Nat.le_refl _
      · exact (List.pairwise_cons.mp pc).1 z hr
/-- the number of a name -/
def numOf (name : Nat → Str) (m : Nat) (s : Str) : Int := match (List.range m).find? fun k => decide (name k = s) with
  | some k => k
  | none => 0
theorem numOf_nm {name : Nat → Str} {m : Nat} (inj : ∀ a b, a < m → b < m → name a = name b → a = b) {k : Nat} (hk : k < m) : numOf name m (name k) = k := by
  unfold numOf
  cases e : (List.range m).find? fun j => decide (name j = name k) with
  | none =>
    have := List.find?_eq_none.mp e k (List.mem_range.mpr hk)
    simp at this
  | some j =>
    have h1 := List.find?_some e
    have h2 := List.mem_range.mp (List.mem_of_find?_eq_some e)
    rw [inj j k h2 hk (of_decide_eq_true h1)]
/-- rows that are true -/
def TrueRows (ps : List Int) (n : Nat) (name : Nat → Str) (m : Nat) (rows : List (Row Str)) : Prop :=
  ∀ r ∈ rows, ∃ (a b : Nat) (c : Int), a < m ∧ b < m ∧ a < n ∧ b < n ∧ r.one = name a ∧ r.oth = name b ∧ 0 ≤ r.dn ∧ 0 ≤ r.up ∧ True' ps a b r.up r.dn c
section
variable {ps : List Int} {n : Nat} (t : Tree ps n) {name : Nat → Str} {m : Nat} (inj : ∀ a b, a < m → b < m → name a = name b → a = b)
include t inj
/-- the same ancestor of a height -/
def RelL (ps : List Int) (n : Nat) (name : Nat → Str) (m : Nat) (L : Nat) (s s' : Str) : Prop :=
  s = s' ∨ ∃ (k k' : Nat) (z : Int), k < m ∧ k' < m ∧ k < n ∧ k' < n ∧ s = name k ∧ s' = name k' ∧ z ∈ line ps k ∧ z ∈ line ps k' ∧ (line ps z).length = L
theorem RelL.one {rows : List (Row Str)} (hr : TrueRows ps n name m rows) {l : Int} (hl : 1 ≤ l) {r : Row Str} (h : MeetsF rows (fun s => ((line ps (numOf name m s)).length : Int)) l r) : RelL ps n name m l.toNat r.one r.oth := by
  obtain ⟨a, b, c, ha, hb, ha', hb', e1, e2, _, _, q⟩ := hr r h.1
  have h2 : l ≤ ((line ps (numOf name m r.one)).length : Int) - r.dn := h.2
  rw [e1, numOf_nm inj ha] at h2
  have hc := line_range t (by omega) (by omega) q.ca
  obtain ⟨z, hz, ez⟩ := line_at t hc.1 hc.2 (L := l.toNat) (by omega) (by have := q.da; omega)
  exact .inr ⟨a, b, z, ha, hb, ha', hb', e1, e2, line_trans t (by omega) (by omega) q.ca hz, line_trans t (by omega) (by omega) q.cb hz, ez⟩
theorem RelL.symm {L : Nat} {s s' : Str} (h : RelL ps n name m L s s') : RelL ps n name m L s' s := by
  rcases h with rfl | ⟨k, k', z, h1, h2, h3, h4, h5, h6, h7, h8, h9⟩
  · exact .inl rfl
  · exact .inr ⟨k', k, z, h2, h1, h4, h3, h6, h5, h8, h7, h9⟩
theorem RelL.trans {L : Nat} {s s' s'' : Str} (h : RelL ps n name m L s s') (g : RelL ps n name m L s' s'') : RelL ps n name m L s s'' := by
  rcases h with rfl | ⟨k, k', z, h1, h2, h3, h4, h5, h6, h7, h8, h9⟩
  · exact g
  · rcases g with rfl | ⟨j, j', y, g1, g2, g3, g4, g5, g6, g7, g8, g9⟩
    · exact .inr ⟨k, k', z, h1, h2, h3, h4, h5, h6, h7, h8, h9⟩
    · have e := inj k' j h2 g1 (h6.symm.trans g5)
      subst e
      have e2 := line_uniq t (by omega) (by omega) h8 g7 (h9.trans g9.symm)
      subst e2
      exact .inr ⟨k, j', z, h1, g2, h3, g4, h5, g6, h7, g8, h9⟩
theorem conn_rel {rows : List (Row Str)} (hr : TrueRows ps n name m rows) {l : Int} (hl : 1 ≤ l) {a b : Str} (x : Conn (MeetsF rows (fun s => ((line ps (numOf name m s)).length : Int)) l) a b) : RelL ps n name m l.toNat a b := by
  induction x with
  | refl => exact .inl rfl
  | step x he e ih => exact RelL.trans t inj ih (e ▸ RelL.one t inj hr hl he)
  | back x he e ih => exact RelL.trans t inj ih (e ▸ (RelL.one t inj hr hl he).symm t inj)
/-- what is true fits -/
theorem true_fits {rows : List (Row Str)} (hr : TrueRows ps n name m rows) : FitF rows (fun s => ((line ps (numOf name m s)).length : Int)) := by
  refine ⟨fun r h => ?_, fun r h x => ?_, fun a b hne he x => ?_⟩
  · obtain ⟨a, b, c, ha, hb, ha', hb', e1, e2, _, _, q⟩ := hr r h
    rw [e1, e2, numOf_nm inj ha, numOf_nm inj hb]
    have := q.da; have := q.db
    omega
  · obtain ⟨a, b, c, ha, hb, ha', hb', e1, e2, h0, _, q⟩ := hr r h
    have hda := q.da
    have ex : ((line ps (numOf name m r.one)).length : Int) - r.dn + 1 = (line ps c).length + 1 := by
      rw [e1, numOf_nm inj ha]; omega
    have hx : Conn (MeetsF rows (fun s => ((line ps (numOf name m s)).length : Int)) (((line ps c).length : Int) + 1)) r.one r.oth := by
      have x' := x
      show Conn (MeetsF rows _ _) _ _
      rw [← ex]
      exact x'
    have := conn_rel t inj hr (by omega) hx
    rcases this with e | ⟨k, k', z, h1, h2, h3, h4, h5, h6, h7, h8, h9⟩
    · have := inj a b ha hb (e1.symm.trans (e.trans e2))
      exact q.ne (by omega)
    · have ek := inj a k ha h1 (e1.symm.trans h5)
      have ek' := inj b k' hb h2 (e2.symm.trans h6)
      subst ek ek'
      have := q.far z h7 h8
      omega
  · by_cases hl : 1 ≤ ((line ps (numOf name m a)).length : Int)
    · have := conn_rel t inj hr hl x
      rcases this with e | ⟨k, k', z, h1, h2, h3, h4, h5, h6, h7, h8, h9⟩
      · exact hne e
      · subst h5 h6
        simp only [numOf_nm inj h1, numOf_nm inj h2] at he h9
        have e1 := line_uniq t (by omega) (by omega) h7 (List.mem_of_getElem? (line_self t (x := (k : Int)) (by omega) (by omega))) (by omega)
        have e2 := line_uniq t (by omega) (by omega) h8 (List.mem_of_getElem? (line_self t (x := (k' : Int)) (by omega) (by omega))) (by omega)
        have : k = k' := by omega
        exact hne (by rw [this])
    · -- nobody has a line without anybody
      have l0 : (line ps (numOf name m a)).length = 0 := by omega
      have : 0 < (line ps (numOf name m a)).length := by
        unfold line
        cases (numOf name m a).toNat with
        | zero => simp [up]
        | succ j => unfold up; split <;> simp
      omega
end
end Pd

namespace Gen
open PySem PySem.Spec PyProof.Rows L2 Pd
theorem log_lt {n : Nat} (h : n < 2 ^ 200) : n.log2 < 201 := by
  by_cases e : n = 0
  · subst e; decide
  · have := (Nat.log2_lt e).mpr h; omega
theorem mul_ok {a b : Int} (ha : a.natAbs < 2 ^ 200) (hb : b.natAbs < 2 ^ 200) : gMul (.int a) (.int b) = .ok (.int (a * b), false) := by
  have h1 := log_lt ha
  have h2 := log_lt hb
  simp only [gMul]
  rw [if_pos (by omega)]
theorem mod_ok {a b : Int} (h : 0 < b) : gMod (.int a) (.int b) = .ok (.int (a % b), false) := by simp only [gMod]; rw [if_pos h]
theorem div_ok {a b : Int} (h : 0 < b) (h2 : b.natAbs < 2 ^ 200) : gDiv (.int a) (.int b) = .ok (.int (a / b), false) := by
  have h1 := log_lt h2
  simp only [gDiv]
  rw [if_pos ⟨h, by omega⟩]
theorem scr_ix {ns : List Int} {i : Int} (h0 : 0 ≤ i) (h1 : i < ns.length) : ∃ x, gIx (.scr ns) (.int i) = .ok (.int x, false) := by
  obtain ⟨j, rfl⟩ : ∃ j : Nat, i = (j : Int) := ⟨i.toNat, by omega⟩
  have hj : j < ns.length := by omega
  refine ⟨ns[j], ?_⟩
  simp only [gIx, L2.atI, L2.ixN]
  have e : (j : Int).toNat = j := by omega
  first
    | simp [hj]
    | (rw [if_pos h0]; simp [hj])
theorem env2 (a b : D) : (List.map (fun d : D => some (d, false)) [a, b] ++ List.replicate (2 - [a, b].length) none : Pd.Env) = [some (a, false), some (b, false)] := rfl
theorem cell_ok (ns : List Int) {i : Int} (h0 : 0 ≤ i) (h1 : i < 2 ^ 100) : ∃ x, g__law_cell [.scr ns, .int i] = .ok (.int x, false) := by
  have m1 : gMul (.int 7919) (.int i) = .ok (.int (7919 * i), false) := mul_ok (by decide) (by omega)
  by_cases c : i < ns.length
  · obtain ⟨x, hx⟩ := scr_ix h0 c
    refine ⟨x, ?_⟩
    unfold g__law_cell fnD0 s__law_cell
    rw [env2]
    simp [sSeq, sIf, sRet, fY, toB, fOp, fCall, fCons, fNil, eVar, R.bind, gLen, gLt, c, hx]
  · by_cases z : ns = []
    · subst z
      refine ⟨7919 * i + 101, ?_⟩
      unfold g__law_cell fnD0 s__law_cell
      rw [env2]
      have c' : ¬ i < 0 := by omega
      simp [sSeq, sIf, sRet, sNil, fY, toB, fOp, fCall, fCons, fNil, eVar, eC, R.bind, gLen, gLt, gEq, okN, eqv, c', m1, gAdd]
    · have l : 0 < ns.length := List.length_pos_iff.mpr z
      have l' : (0 : Int) < ns.length := by omega
      obtain ⟨x, hx⟩ := scr_ix (ns := ns) (i := i % ns.length) (Int.emod_nonneg _ (by omega)) (Int.emod_lt_of_pos _ l')
      refine ⟨x % 1000003 + 7919 * i, ?_⟩
      unfold g__law_cell fnD0 s__law_cell
      rw [env2]
      have q := mod_ok (a := i) l'
      have q2 : gMod (.int x) (.int 1000003) = .ok (.int (x % 1000003), false) := mod_ok (by decide)
      simp [sSeq, sIf, sRet, sNil, fY, toB, fOp, fCall, fCons, fNil, eVar, eC, R.bind, gLen, gLt, gEq, okN, eqv, c, z, q, q2, hx, m1, gAdd]
/-- the primes -/
def PR : D := .tup [.int 2147483647, .int 2147483629, .int 2147483587, .int 2147483579, .int 2147483563, .int 2147483549, .int 2147483543, .int 2147483497]
theorem pr_ok {j : Int} (h0 : 0 ≤ j) (h1 : j < 8) : ∃ p, gIx PR (.int j) = .ok (.int p, false) ∧ 0 < p ∧ p < 2147483648 := by
  have : j = 0 ∨ j = 1 ∨ j = 2 ∨ j = 3 ∨ j = 4 ∨ j = 5 ∨ j = 6 ∨ j = 7 := by omega
  rcases this with h | h | h | h | h | h | h | h <;> subst h <;> exact ⟨_, rfl, by decide, by decide⟩
def digB : SF := (sSeq (sSet 9 (fOp gMul (fOp gMod (eVar 5) (fOp gIx (eVar 4) (fOp gMod (eVar 8) (eC (.int 8))))) (fOp gAdd (eC (.int 48271)) (fOp gMul (fOp gMul (eC (.int 2)) (eVar 8)) (eVar 8)))))
    (sSeq (sSet 9 (fOp gAdd (fOp gAdd (eVar 9) (fOp gMul (fOp gMul (eC (.int 7919)) (fOp gAdd (eVar 8) (eC (.int 1)))) (fOp gAdd (eVar 8) (eC (.int 1))))) (fOp gMul (eC (.int 104729)) (eVar 1))))
    (sSeq (sSet 9 (fOp gMod (eVar 9) (fOp gIx (eVar 4) (fOp gMod (fOp gAdd (fOp gMul (eC (.int 3)) (eVar 8)) (eVar 1)) (eC (.int 8))))))
    (sSeq (sSet 9 (fOp gMod (fOp gMul (fOp gMul (eVar 9) (eVar 9)) (eVar 9)) (fOp gIx (eVar 4) (fOp gMod (fOp gAdd (eVar 8) (eC (.int 5))) (eC (.int 8))))))
    (sSeq (sIf (fY (fOp gGt (eVar 6) (eC (.int 0)))) (sSet 9 (eVar 6)) sNil)
    (sSeq (sApp 7 (fOp gMod (eVar 9) (eVar 3)))
    (sSet 6 (fOp gDiv (eVar 6) (eVar 3)))))))))
/-- the frame of _law_digits in its loop -/
def digE (ns : List Int) (i c b x y : Int) (l : List Int) (a8 a9 : Option (D × Bool)) : Pd.Env :=
  [some (.scr ns, false), some (.int i, false), some (.int c, false), some (.int b, false), some (PR, false), some (.int x, false), some (.int y, false), some (.lst (l.map .int), true), a8, a9]
theorem dig_step {ns : List Int} {i c b x y k : Int} {l : List Int} {a9 : Option (D × Bool)} (hi : 0 ≤ i ∧ i < 1000) (hb : 0 < b ∧ b < 2 ^ 40) (hk : 0 ≤ k ∧ k < 1000) (hl : l.length < 1000) :
    ∃ z y' a, 0 ≤ z ∧ z < b ∧ digB (digE ns i c b x y l (some (.int k, false)) a9) = .nx (digE ns i c b x y' (l ++ [z]) (some (.int k, false)) a) := by
  obtain ⟨p1, e1, p1a, p1b⟩ := pr_ok (j := k % 8) (by omega) (by omega)
  obtain ⟨p2, e2, p2a, p2b⟩ := pr_ok (j := (3 * k + i) % 8) (by omega) (by omega)
  obtain ⟨p3, e3, p3a, p3b⟩ := pr_ok (j := (k + 5) % 8) (by omega) (by omega)
  have s1 : gMod (.int k) (.int 8) = .ok (.int (k % 8), false) := mod_ok (by decide)
  have s2 : gMod (.int (3 * k + i)) (.int 8) = .ok (.int ((3 * k + i) % 8), false) := mod_ok (by decide)
  have s3 : gMod (.int (k + 5)) (.int 8) = .ok (.int ((k + 5) % 8), false) := mod_ok (by decide)
  have t1 : gMod (.int x) (.int p1) = .ok (.int (x % p1), false) := mod_ok p1a
  have x1 := Int.emod_nonneg x (b := p1) (by omega)
  have x2 := Int.emod_lt_of_pos x p1a
  have kk : 2 * k * k < 2000000 := by
    have : k * k ≤ 999 * 999 := Int.mul_le_mul (by omega) (by omega) (by omega) (by omega)
    rw [Int.mul_assoc]; omega
  have kk0 : 0 ≤ 2 * k * k := by rw [Int.mul_assoc]; exact Int.mul_nonneg (by decide) (Int.mul_nonneg hk.1 hk.1)
  have m1 : gMul (.int 2) (.int k) = .ok (.int (2 * k), false) := mul_ok (by decide) (by omega)
  have m2 : gMul (.int (2 * k)) (.int k) = .ok (.int (2 * k * k), false) := mul_ok (by omega) (by omega)
  have m3 : gMul (.int (x % p1)) (.int (48271 + 2 * k * k)) = .ok (.int (x % p1 * (48271 + 2 * k * k)), false) := mul_ok (by omega) (by omega)
  have m4 : gMul (.int 7919) (.int (k + 1)) = .ok (.int (7919 * (k + 1)), false) := mul_ok (by decide) (by omega)
  have m5 : gMul (.int (7919 * (k + 1))) (.int (k + 1)) = .ok (.int (7919 * (k + 1) * (k + 1)), false) := mul_ok (by omega) (by omega)
  have m6 : gMul (.int 104729) (.int i) = .ok (.int (104729 * i), false) := mul_ok (by decide) (by omega)
  have m7 : gMul (.int 3) (.int k) = .ok (.int (3 * k), false) := mul_ok (by decide) (by omega)
  generalize hA : x % p1 * (48271 + 2 * k * k) + 7919 * (k + 1) * (k + 1) + 104729 * i = A at *
  have t2 : gMod (.int A) (.int p2) = .ok (.int (A % p2), false) := mod_ok p2a
  have B1 := Int.emod_nonneg A (b := p2) (by omega)
  have B2 := Int.emod_lt_of_pos A p2a
  generalize hB : A % p2 = B at *
  have m8 : gMul (.int B) (.int B) = .ok (.int (B * B), false) := mul_ok (by omega) (by omega)
  have bb : B * B < 2 ^ 62 := by
    have : B * B ≤ 2147483647 * 2147483647 := Int.mul_le_mul (by omega) (by omega) (by omega) (by omega)
    omega
  have bb0 : 0 ≤ B * B := Int.mul_nonneg B1 B1
  have m9 : gMul (.int (B * B)) (.int B) = .ok (.int (B * B * B), false) := mul_ok (by omega) (by omega)
  have t3 : gMod (.int (B * B * B)) (.int p3) = .ok (.int (B * B * B % p3), false) := mod_ok p3a
  have d1 : gDiv (.int y) (.int b) = .ok (.int (y / b), false) := div_ok hb.1 (by omega)
  have hl' : l.length < CAP := Nat.lt_trans hl (by decide)
  by_cases c : (0 : Int) < y
  · have t4 : gMod (.int y) (.int b) = .ok (.int (y % b), false) := mod_ok hb.1
    refine ⟨y % b, y / b, some (.int y, false), Int.emod_nonneg _ (by omega), Int.emod_lt_of_pos _ hb.1, ?_⟩
    unfold digB digE
    simp [sSeq, sSet, sIf, sApp, fY, toB, fOp, eVar, eC, R.bind, gAdd, gGt, gLt, s1, s2, s3, e1, e2, e3, t1, t2, t3, t4, m1, m2, m3, m4, m5, m6, m7, m8, m9, hA, hB, d1, c, hl', List.map_append]
  · have t4 : gMod (.int (B * B * B % p3)) (.int b) = .ok (.int (B * B * B % p3 % b), false) := mod_ok hb.1
    refine ⟨B * B * B % p3 % b, y / b, some (.int (B * B * B % p3), false), Int.emod_nonneg _ (by omega), Int.emod_lt_of_pos _ hb.1, ?_⟩
    unfold digB digE
    simp [sSeq, sSet, sIf, sNil, sApp, fY, toB, fOp, eVar, eC, R.bind, gAdd, gGt, gLt, s1, s2, s3, e1, e2, e3, t1, t2, t3, t4, m1, m2, m3, m4, m5, m6, m7, m8, m9, hA, hB, d1, c, hl', List.map_append]
theorem dig_loop {ns : List Int} {i c b x : Int} (hi : 0 ≤ i ∧ i < 1000) (hb : 0 < b ∧ b < 2 ^ 40) : ∀ (ks : List Int) (y : Int) (l : List Int) (a8 a9 : Option (D × Bool)), (∀ k ∈ ks, 0 ≤ k ∧ k < 1000) → l.length + ks.length ≤ 1000 → (∀ z ∈ l, 0 ≤ z ∧ z < b) →
    ∃ y' l' a b', l'.length = l.length + ks.length ∧ (∀ z ∈ l', 0 ≤ z ∧ z < b) ∧ forL (gN 8) digB (ks.map D.int) (digE ns i c b x y l a8 a9) = .nx (digE ns i c b x y' l' a b')
  | [], y, l, a8, a9, _, _, hz => ⟨y, l, a8, a9, by simp, hz, rfl⟩
  | k :: ks, y, l, a8, a9, hk, hl, hz => by
    simp only [List.length_cons] at hl
    obtain ⟨z, y1, a1, z0, z1, e⟩ := dig_step (ns := ns) (c := c) (x := x) (y := y) (l := l) (a9 := a9) hi hb (hk k List.mem_cons_self) (by omega)
    obtain ⟨y2, l2, a2, b2, h1, h2, h3⟩ := dig_loop hi hb ks y1 (l ++ [z]) (some (.int k, false)) a1 (fun q m => hk q (List.mem_cons_of_mem _ m)) (by simp; omega) (fun q m => by
      rcases List.mem_append.mp m with m | m
      · exact hz q m
      · rw [List.mem_singleton.mp m]; exact ⟨z0, z1⟩)
    refine ⟨y2, l2, a2, b2, by simp at h1 ⊢; omega, h2, ?_⟩
    rw [List.map_cons, forL]
    have g : gN 8 (.int k) (digE ns i c b x y l a8 a9) = some (digE ns i c b x y l (some (.int k, false)) a9) := rfl
    rw [g]
    simp only [e]
    exact h3
theorem rng_map (c : Nat) : rngD 0 1 c = ((List.range c).map fun i : Nat => (i : Int)).map D.int := by
  unfold rngD
  rw [List.map_map]
  exact List.map_congr_left fun i _ => by simp
theorem seq_nx {s t : SF} {ρ ρ' : Pd.Env} (h : s ρ = .nx ρ') : sSeq s t ρ = t ρ' := by unfold sSeq; rw [h]
theorem set_nx {i : Nat} {f : EF} {ρ : Pd.Env} {d : D} {b : Bool} (h : f ρ = .ok (d, b)) : sSet i f ρ = .nx (ρ.set i (some (d, false))) := by unfold sSet; rw [h]
theorem fcall_of {g : List D → R (D × Bool)} {f : Pd.Env → R (List D)} {ρ : Pd.Env} {ds : List D} (h : f ρ = .ok ds) : fCall g f ρ = g ds := by unfold fCall; rw [h]
theorem bind_of {α β : Type} {r : R α} {g : α → R β} {x : α} (h : r = .ok x) : r.bind g = g x := by rw [h]
theorem pw18 : gPow (.int 10) (.int 18) = .ok (.int 1000000000000000000, false) := by
  show (if (0 : Int) ≤ 18 ∧ (18 : Int) ≤ 1000 ∧ (10 : Int).natAbs < 1000 then R.ok (D.int (10 ^ (18 : Int).toNat), false) else R.st) = _
  rw [if_pos (by decide)]
  rfl
theorem d_r (c : Nat) (hc : c ≤ 1000) : gR1 [.int (c : Int)] = .ok (rngD 0 1 c) := by
    simp only [gR1]
    rw [if_pos (by unfold RB; omega)]
    rw [Int.toNat_natCast]
theorem sfor_of {fi : Pd.Env → R (List D)} {g : D → Pd.Env → Option Pd.Env} {sb : SF} {ρ : Pd.Env} {ds : List D} (h : fi ρ = .ok ds) : sFor fi g sb ρ = forL g sb ds ρ := by unfold sFor; rw [h]
theorem d_loop {ns : List Int} {i b x y y' : Int} {c : Nat} {l : List Int} {a b' : Option (D × Bool)} (r : gR1 [.int (c : Int)] = .ok (rngD 0 1 c)) (h3 : forL (gN 8) digB (((List.range c).map fun i : Nat => (i : Int)).map D.int) (digE ns i c b x y [] none none) = .nx (digE ns i c b x y' l a b')) : sFor (fun ρ => ((fCons (eVar 2) fNil) ρ).bind gR1) (gN 8) digB (digE ns i c b x y [] none none) = .nx (digE ns i c b x y' l a b') := by
    have e : ((fCons (eVar 2) fNil) (digE ns i c b x y [] none none)).bind gR1 = .ok (rngD 0 1 c) :=
      (bind_of (r := (fCons (eVar 2) fNil) (digE ns i c b x y [] none none)) (g := gR1) (x := ([D.int (c : Int)] : List D)) rfl).trans r
    refine (sfor_of (fi := fun ρ => ((fCons (eVar 2) fNil) ρ).bind gR1) (ds := rngD 0 1 c) e).trans ?_
    rw [rng_map]
    exact h3
theorem d_q3 {ns : List Int} {i b x y y' : Int} {c : Nat} {l : List Int} {a b' : Option (D × Bool)} (hy : (if (1000000000000000000 : Int) ≤ x then x else 0) = y) : fIf (fY (fOp gGe (eVar 5) (fOp gPow (eC (.int 10)) (eC (.int 18))))) (eVar 5) (eC (.int 0)) [some (.scr ns, false), some (.int i, false), some (.int c, false), some (.int b, false), some (PR, false), some (.int x, false), none, none, none, none] = .ok (.int y, false) := by
    show (((gPow (.int 10) (.int 18)).bind fun z => gGe (.int x) z.1).bind toB).bind (fun t : Bool => if t then R.ok (D.int x, false) else R.ok (D.int 0, false)) = _
    rw [pw18]
    show (if decide ((1000000000000000000 : Int) ≤ x) then R.ok (D.int x, false) else R.ok (D.int 0, false)) = _
    rw [← hy]
    by_cases q : (1000000000000000000 : Int) ≤ x
    · rw [if_pos q, decide_eq_true q]; rfl
    · rw [if_neg q, decide_eq_false q]; rfl
theorem d_body {ns : List Int} {i b x y y' : Int} {c : Nat} {l : List Int} {a b' : Option (D × Bool)} (hx : g__law_cell [.scr ns, .int i] = .ok (.int x, false)) (q3 : fIf (fY (fOp gGe (eVar 5) (fOp gPow (eC (.int 10)) (eC (.int 18))))) (eVar 5) (eC (.int 0)) [some (.scr ns, false), some (.int i, false), some (.int c, false), some (.int b, false), some (PR, false), some (.int x, false), none, none, none, none] = .ok (.int y, false)) (loop : sFor (fun ρ => ((fCons (eVar 2) fNil) ρ).bind gR1) (gN 8) digB (digE ns i c b x y [] none none) = .nx (digE ns i c b x y' l a b')) : s__law_digits [some (.scr ns, false), some (.int i, false), some (.int c, false), some (.int b, false), none, none, none, none, none, none] = .rt (.lst (l.map D.int)) true := by
    unfold s__law_digits
    refine (seq_nx (ρ' := [some (.scr ns, false), some (.int i, false), some (.int c, false), some (.int b, false), some (PR, false), none, none, none, none, none]) rfl).trans ?_
    refine (seq_nx (ρ' := [some (.scr ns, false), some (.int i, false), some (.int c, false), some (.int b, false), some (PR, false), some (.int x, false), none, none, none, none]) (set_nx (d := .int x) (b := false) ((fcall_of (ds := [.scr ns, .int i]) rfl).trans hx))).trans ?_
    refine (seq_nx (ρ' := [some (.scr ns, false), some (.int i, false), some (.int c, false), some (.int b, false), some (PR, false), some (.int x, false), some (.int y, false), none, none, none]) (set_nx (d := .int y) (b := false) q3)).trans ?_
    refine (seq_nx (ρ' := digE ns i c b x y [] none none) rfl).trans ?_
    refine (seq_nx loop).trans ?_
    rfl
theorem d_fin {ns : List Int} {i b x y y' : Int} {c : Nat} {l : List Int} {a b' : Option (D × Bool)} (body : s__law_digits [some (.scr ns, false), some (.int i, false), some (.int c, false), some (.int b, false), none, none, none, none, none, none] = .rt (.lst (l.map D.int)) true) : g__law_digits [.scr ns, .int i, .int c, .int b] = .ok (.lst (l.map D.int), true) := by
  unfold g__law_digits fnD0
  have e0 : (List.map (fun d : D => some (d, false)) [D.scr ns, .int i, .int (c : Int), .int b] ++ List.replicate (10 - [D.scr ns, .int i, .int (c : Int), .int b].length) none : Pd.Env) = [some (.scr ns, false), some (.int i, false), some (.int c, false), some (.int b, false), none, none, none, none, none, none] := rfl
  rw [e0, body]

theorem digits_ok (ns : List Int) {i b : Int} (c : Nat) (hi : 0 ≤ i ∧ i < 1000) (hb : 0 < b ∧ b < 2 ^ 40) (hc : c ≤ 1000) :
    ∃ l : List Int, l.length = c ∧ (∀ z ∈ l, 0 ≤ z ∧ z < b) ∧ g__law_digits [.scr ns, .int i, .int c, .int b] = .ok (.lst (l.map D.int), true) := by
  obtain ⟨x, hx⟩ := cell_ok ns hi.1 (by omega)
  obtain ⟨y, hy⟩ : ∃ y : Int, (if (1000000000000000000 : Int) ≤ x then x else 0) = y := ⟨_, rfl⟩
  obtain ⟨y', l, a, b', h1, h2, h3⟩ := dig_loop (ns := ns) (c := c) (x := x) hi hb ((List.range c).map fun i : Nat => (i : Int)) y [] none none
    (fun k m => by obtain ⟨j, hj, rfl⟩ := List.mem_map.mp m; have := List.mem_range.mp hj; omega) (by simpa using hc) (fun z m => by simp at m)
  exact ⟨l, by simpa using h1, h2, d_fin (x := x) (y := y) (y' := y') (a := a) (b' := b') (d_body hx (d_q3 (y' := y') (l := l) (a := a) (b' := b') hy) (d_loop (d_r c hc) h3))⟩
end Gen

/-! Qs1: _law_statements, without choices, from 40 digits or more. -/
namespace Pd
open PySem PySem.Spec PyProof.Rows L2 Nt
structure Sm where
  one : Str
  word : Str
  oth : Str
abbrev SD (s : Sm) : D := .tup [.str s.one, .str s.word, .str s.oth]
abbrev SsD (sts : List Sm) : D := .tup (sts.map SD)
structure SmOk (s : Sm) : Prop where
  one : okS s.one = true
  oth : okS s.oth = true
  word : okS s.word = true
  ne : s.one ≠ s.oth
/-- ways to read -/
theorem op_to {g : D → D → R (D × Bool)} {fa fb : EF} {ρ : Env} {x y : D} {a b : Bool} {r : R (D × Bool)} (h1 : fa ρ = .ok (x, a)) (h2 : fb ρ = .ok (y, b)) (k : g x y = r) : fOp g fa fb ρ = r := by unfold fOp; rw [h1]; simp only [R.bind, h2]; exact k
end Pd
namespace Pd
open PySem PySem.Spec PyProof.Rows L2 Nt
theorem true_pair {ps : List Int} {n : Nat} (t : Tree ps n) (hn : n ≤ 13) {a b : Int} (ha : 0 ≤ a ∧ a < n) (hb : 0 ≤ b ∧ b < n) {p : Int × Int} {c : Int} (q : True' ps a b p.1 p.2 c) : p ∈ pairsN 12 := by
  obtain ⟨i, hi⟩ := List.getElem?_of_mem q.ca
  obtain ⟨j, hj⟩ := List.getElem?_of_mem q.cb
  have l1 := line_len t ha.1 ha.2 hi
  have l2 := line_len t hb.1 hb.2 hj
  have d1 := q.da
  have d2 := q.db
  have hc := line_range t ha.1 ha.2 q.ca
  have p1 := line_pos t hc.1 hc.2
  have b1 := (line_in t a.toNat (Nat.le_refl _) ha.1 ha.2).2
  have b2 := (line_in t b.toNat (Nat.le_refl _) hb.1 hb.2).2
  refine pairsN_mem.mpr ⟨by omega, by show p.1 ≤ ((12 : Nat) : Int); omega, by omega, by show p.2 ≤ ((12 : Nat) : Int); omega, fun e => ?_⟩
  rw [e] at d1 d2
  have d1 : ((line ps a).length : Int) - 0 = (line ps c).length := d1
  have d2 : ((line ps b).length : Int) - 0 = (line ps c).length := d2
  have e1 := line_uniq t ha.1 ha.2 (List.mem_of_getElem? (line_self t ha.1 ha.2)) q.ca (by omega)
  have e2 := line_uniq t hb.1 hb.2 (List.mem_of_getElem? (line_self t hb.1 hb.2)) q.cb (by omega)
  exact q.ne (e1.trans e2.symm)
/-- statements as they are made -/
def GenSm (P : Nat) (s : Sm) : Prop := ∃ (a b : Nat) (p : Int × Int), a < P ∧ b < P ∧ a ≠ b ∧ p ∈ pairsN 12 ∧ s = ⟨nm a, wd p.1 p.2, nm b⟩
theorem wd_okP {p : Int × Int} (h : p ∈ pairsN 12) : okS (wd p.1 p.2) = true := by
  obtain ⟨h1, h2, h3, h4, h5⟩ := pairsN_mem.mp h
  exact (Gen.wd_ok (u := p.1) (d := p.2) ⟨h1, by omega⟩ ⟨h3, by omega⟩ fun z => h5 (Prod.ext z.1 z.2)).2
theorem nm_okS {k : Nat} (h : k < 26) : okS (nm k) = true := List.all_eq_true.mp nm_ok k (List.mem_range.mpr h)
theorem GenSm.ok {P : Nat} (hP : P ≤ 26) {s : Sm} (h : GenSm P s) : SmOk s := by
  obtain ⟨a, b, p, ha, hb, hne, hp, rfl⟩ := h
  exact ⟨nm_okS (by omega), nm_okS (by omega), wd_okP hp, fun e => hne (nm_inj e)⟩
end Pd
namespace Gen
open PySem PySem.Spec PyProof.Rows L2 Pd Nt
theorem word_p {p : Int × Int} (hp : p ∈ pairsN 12) : g__law_word [.int p.1, .int p.2] = .ok (.str (wd p.1 p.2), false) := by
  obtain ⟨h1, h2, h3, h4, h5⟩ := pairsN_mem.mp hp
  exact law_word_eq ⟨h1, by omega⟩ ⟨h3, by omega⟩ fun z => h5 (Prod.ext z.1 z.2)
theorem isNon_oPD (o : Option (Int × Int)) : gIs (oPD o) .non = .ok (.bl o.isNone, false) := by cases o <;> rfl
theorem isNN_oPD (o : Option (Int × Int)) : gIsN (oPD o) .non = .ok (.bl o.isSome, false) := by cases o <;> rfl
section
variable {ds ps : List Int} (hl : 40 ≤ ds.length) (t : Tree ps 9) {P : Nat} (hP : 0 < P ∧ P ≤ 9) {k : Int} (hk : 0 ≤ k ∧ k ≤ 6)
include hl t hP hk
theorem st_step {sts : List Sm} (hs : ∀ s ∈ sts, GenSm P s) (hn : sts.length ≤ 100) (a1 a6 a7 a8 : Option (D × Bool)) :
    ∃ (sts' : List Sm) (p6 p7 p8 : Option (D × Bool)), b__law_statements_1 [some (LI ds, false), a1, some (.int (P : Nat), false), some (LI ps, false), some (SsD sts, false), some (.int k, false), a6, a7, a8] =
      .nx [some (LI ds, false), a1, some (.int (P : Nat), false), some (LI ps, false), some (SsD sts', false), some (.int k, false), p6, p7, p8] ∧ (∀ s ∈ sts', GenSm P s) ∧ sts'.length ≤ sts.length + 1 := by
  have mP : ∀ a, gMod (.int a) (.int (P : Nat)) = .ok (.int (a % (P : Nat)), false) := fun _ => mod_int (by omega)
  have m2 : gMul (.int 2) (.int k) = .ok (.int (2 * k), false) := mul_int (by omega) (by omega)
  have x1 := ix_dg (l := ds) (i := 1 + 2 * k) (by omega) (by omega)
  have x2 := ix_dg (l := ds) (i := 2 + 2 * k) (by omega) (by omega)
  have x3 := ix_dg (l := ds) (i := 12 + k) (by omega) (by omega)
  have r1 := emod_range (dg ds (1 + 2 * k)) (b := (P : Int)) (by omega)
  have r2 := emod_range (dg ds (2 + 2 * k)) (b := (P : Int)) (by omega)
  obtain ⟨a, ea⟩ := Int.eq_ofNat_of_zero_le r1.1
  obtain ⟨b, eb⟩ := Int.eq_ofNat_of_zero_le r2.1
  have ha : a < P := by omega
  have hb : b < P := by omega
  have pr := law_pair_eq t (by decide) (a := (a : Int)) (b := (b : Int)) ⟨by omega, by show (a : Int) < ((9 : Nat) : Int); omega⟩ ⟨by omega, by show (b : Int) < ((9 : Nat) : Int); omega⟩
  have s1 : (sSet 6 (fOp gMod (fOp gIx (eVar 0) (fOp gAdd (eC (.int 1)) (fOp gMul (eC (.int 2)) (eVar 5)))) (eVar 2))) [some (LI ds, false), a1, some (.int (P : Nat), false), some (LI ps, false), some (SsD sts, false), some (.int k, false), a6, a7, a8] =
      .nx [some (LI ds, false), a1, some (.int (P : Nat), false), some (LI ps, false), some (SsD sts, false), some (.int k, false), some (.int a, false), a7, a8] := set_to (b := false) (by simp only [RUN, R.bind, m2, x1, mP, ea])
  have s2 : (sSet 7 (fOp gMod (fOp gIx (eVar 0) (fOp gAdd (eC (.int 2)) (fOp gMul (eC (.int 2)) (eVar 5)))) (eVar 2))) [some (LI ds, false), a1, some (.int (P : Nat), false), some (LI ps, false), some (SsD sts, false), some (.int k, false), some (.int a, false), a7, a8] =
      .nx [some (LI ds, false), a1, some (.int (P : Nat), false), some (LI ps, false), some (SsD sts, false), some (.int k, false), some (.int a, false), some (.int b, false), a8] := set_to (b := false) (by simp only [RUN, R.bind, m2, x2, mP, eb])
  have s3 : (sSet 8 (fCall g__law_pair (fCons (eVar 3) (fCons (eVar 6) (fCons (eVar 7) fNil))))) [some (LI ds, false), a1, some (.int (P : Nat), false), some (LI ps, false), some (SsD sts, false), some (.int k, false), some (.int a, false), some (.int b, false), a8] =
      .nx [some (LI ds, false), a1, some (.int (P : Nat), false), some (LI ps, false), some (SsD sts, false), some (.int k, false), some (.int a, false), some (.int b, false), some (oPD (pairOf ps a b), false)] := set_to (b := false) (call_to rfl pr)
  by_cases c : (a : Int) = b
  · exact ⟨sts, _, _, _, seq_to s1 (seq_to s2 (seq_to s3 (if_no (by simp only [RUN, R.bind, c]) rfl))), hs, by omega⟩
  · have hne : a ≠ b := fun e => c (by rw [e])
    have na := law_name_eq (k := a) (by omega)
    have nb := law_name_eq (k := b) (by omega)
    have m6 : ∀ a, gMod (.int a) (.int 6) = .ok (.int (a % 6), false) := fun _ => mod_int (by decide)
    have m3 : ∀ a, gMod (.int a) (.int 3) = .ok (.int (a % 3), false) := fun _ => mod_int (by decide)
    have m4 : ∀ a, gMod (.int a) (.int 4) = .ok (.int (a % 4), false) := fun _ => mod_int (by decide)
    have d6 : ∀ a, gDiv (.int a) (.int 6) = .ok (.int (a / 6), false) := fun _ => div_int (by decide)
    have d18 : ∀ a, gDiv (.int a) (.int 18) = .ok (.int (a / 18), false) := fun _ => div_int (by decide)
    -- the pair that is told
    have fin : ∀ p : Int × Int, p ∈ pairsN 12 → (sSet 4 (fOp gAdd (eVar 4) (fTup (fCons (fTup (fCons (fCall g__law_name (fCons (eVar 6) fNil)) (fCons (fCall g__law_word (fCons (fOp gIx (eVar 8) (eC (.int 0))) (fCons (fOp gIx (eVar 8) (eC (.int 1))) fNil))) (fCons (fCall g__law_name (fCons (eVar 7) fNil)) fNil)))) fNil))))
        [some (LI ds, false), a1, some (.int (P : Nat), false), some (LI ps, false), some (SsD sts, false), some (.int k, false), some (.int a, false), some (.int b, false), some (PD p, false)] =
        .nx [some (LI ds, false), a1, some (.int (P : Nat), false), some (LI ps, false), some (SsD (sts ++ [⟨nm a, wd p.1 p.2, nm b⟩]), false), some (.int k, false), some (.int a, false), some (.int b, false), some (PD p, false)] := fun p hp => by
      have wp := word_p hp
      have y0 : gIx (PD p) (.int 0) = .ok (.int p.1, false) := rfl
      have y1 : gIx (PD p) (.int 1) = .ok (.int p.2, false) := rfl
      have ga : gAdd (SsD sts) (.tup [.tup [.str (nm a), .str (wd p.1 p.2), .str (nm b)]]) = .ok (SsD (sts ++ [⟨nm a, wd p.1 p.2, nm b⟩]), false) := by
        show (if (sts.map SD).length + 1 ≤ CAP then R.ok (D.tup (sts.map SD ++ [SD ⟨nm a, wd p.1 p.2, nm b⟩]), false) else .st) = _
        rw [List.length_map, if_pos (by show _ ≤ 1000000; omega), SsD, List.map_append]
        rfl
      exact set_to (b := false) (by simp only [RUN, R.bind, y0, y1, na, nb, wp, ga])
    have good : ∀ p : Int × Int, p ∈ pairsN 12 → (∀ s ∈ sts ++ [⟨nm a, wd p.1 p.2, nm b⟩], GenSm P s) ∧ (sts ++ [(⟨nm a, wd p.1 p.2, nm b⟩ : Sm)]).length ≤ sts.length + 1 := fun p hp => by
      refine ⟨fun s hs' => ?_, by simp⟩
      rcases List.mem_append.mp hs' with h | h
      · exact hs s h
      · exact ⟨a, b, p, ha, hb, hne, hp, List.mem_singleton.mp h⟩
    have neq : (fY (fOp gNe (eVar 6) (eVar 7))) [some (LI ds, false), a1, some (.int (P : Nat), false), some (LI ps, false), some (SsD sts, false), some (.int k, false), some (.int a, false), some (.int b, false), some (oPD (pairOf ps a b), false)] = .ok true := by
      simp only [RUN, R.bind, c]
    by_cases c2 : ((pairOf ps a b).isNone || decide (dg ds (12 + k) % 6 = 0)) = true
    · have q3 := emod_range (dg ds (12 + k) / 6) (b := 3) (by decide)
      have q4 := emod_range (dg ds (12 + k) / 18) (b := 4) (by decide)
      have hp : ((1 + dg ds (12 + k) / 6 % 3, dg ds (12 + k) / 18 % 4) : Int × Int) ∈ pairsN 12 := pairsN_mem.mpr ⟨by show 0 ≤ 1 + dg ds (12 + k) / 6 % 3; omega, by show 1 + dg ds (12 + k) / 6 % 3 ≤ ((12 : Nat) : Int); omega, q4.1, by show dg ds (12 + k) / 18 % 4 ≤ ((12 : Nat) : Int); omega, fun e => by
        have := congrArg Prod.fst e
        have : 1 + dg ds (12 + k) / 6 % 3 = 0 := this
        omega⟩
      refine ⟨_, _, _, _, seq_to s1 (seq_to s2 (seq_to s3 (if_yes neq (seq_to (if_yes ?_ (set_to (d := PD (1 + dg ds (12 + k) / 6 % 3, dg ds (12 + k) / 18 % 4)) (b := false) ?_)) (fin _ hp))))), good _ hp⟩
      · simp only [RUN, R.bind, isNon_oPD, x3, m6, c2]
      · simp only [RUN, R.bind, x3, d6, d18, m3, m4]
    · have c3 : ((pairOf ps a b).isNone || decide (dg ds (12 + k) % 6 = 0)) = false := Bool.eq_false_iff.mpr c2
      cases e : pairOf ps a b with
      | none => rw [e] at c3; simp at c3
      | some p =>
        obtain ⟨cc, q⟩ := pair_true t (a := (a : Int)) (b := (b : Int)) ⟨by omega, by show (a : Int) < ((9 : Nat) : Int); omega⟩ ⟨by omega, by show (b : Int) < ((9 : Nat) : Int); omega⟩ e
        have hp := true_pair t (by decide) (a := (a : Int)) (b := (b : Int)) ⟨by omega, by show (a : Int) < ((9 : Nat) : Int); omega⟩ ⟨by omega, by show (b : Int) < ((9 : Nat) : Int); omega⟩ q
        rw [e] at s3 neq c3
        refine ⟨_, _, _, _, seq_to s1 (seq_to s2 (seq_to s3 (if_yes neq (seq_to (if_no ?_ rfl) (fin p hp))))), good p hp⟩
        simp only [RUN, R.bind, isNon_oPD, x3, m6, c3]
end
theorem cut_LI {l : List Int} (h : 20 ≤ l.length) : gSl (LI l) (some 20) none = .ok (LI (l.drop 20), true) := by
  show R.ok (D.lst (Pd.cutD (l.map D.int) (some 20) none), true) = _
  have : Pd.cutD (l.map D.int) (some 20) none = (l.drop 20).map D.int := by
    unfold Pd.cutD
    have e1 : HT.sIx (l.map D.int).length 0 (some 20) = 20 := by
      rw [List.length_map]
      simp [HT.sIx]
      omega
    have e2 : HT.sIx (l.map D.int).length (l.map D.int).length none = l.length := by
      rw [List.length_map]
      simp [HT.sIx]
    rw [e1, e2, List.map_drop]
    rw [List.take_of_length_le]
    simp
  rw [this]
theorem law_statements_eq {ds : List Int} (hl : 40 ≤ ds.length) (hb : ∀ z ∈ ds, 0 ≤ z ∧ z < 27720) {most P : Nat} (hm : most ≤ 6) (hP : 0 < P ∧ P ≤ 9) :
    ∃ sts : List Sm, (∀ s ∈ sts, GenSm P s) ∧ sts.length ≤ most ∧ g__law_statements [LI ds, .int (most : Nat), .int (P : Nat)] = .ok (SsD sts, false) := by
  obtain ⟨ps, t, et⟩ := law_tree_eq (ds := ds.drop 20) (n := 9) (by decide) (by simp; omega)
  have x0 := ix_dg (l := ds) (i := 0) (by omega) (by omega)
  have mm : gMod (.int (dg ds 0)) (.int ((most : Int) + 1)) = .ok (.int (dg ds 0 % ((most : Int) + 1)), false) := mod_int (by omega)
  have rr := emod_range (dg ds 0) (b := (most : Int) + 1) (by omega)
  obtain ⟨c, ec⟩ := Int.eq_ofNat_of_zero_le rr.1
  obtain ⟨ρ', e, sts, p5, p6, p7, p8, rfl, h1, h2⟩ := forL_pre (g := gN 5) (sb := b__law_statements_1) (enc := fun k : Nat => D.int (k : Int)) (fun pre ρ => ∃ sts p5 p6 p7 p8, ρ = [some (LI ds, false), some (.int (most : Nat), false), some (.int (P : Nat), false), some (LI ps, false), some (SsD sts, false), p5, p6, p7, p8] ∧ (∀ s ∈ sts, GenSm P s) ∧ sts.length ≤ pre.length)
    (List.range c) [] [some (LI ds, false), some (.int (most : Nat), false), some (.int (P : Nat), false), some (LI ps, false), some (SsD [], false), none, none, none, none] ⟨[], none, none, none, none, rfl, fun _ h => by (cases h), Nat.le_refl _⟩ (by
    rintro pre k suf e ρ ⟨sts, p5, p6, p7, p8, rfl, h1, h2⟩
    have e : List.range c = pre ++ k :: suf := e
    have hk : k < c := List.mem_range.mp (by rw [e]; simp)
    have hlen := congrArg List.length e
    simp at hlen
    obtain ⟨sts', q6, q7, q8, e1, h3, h4⟩ := st_step hl t hP (k := (k : Int)) (by omega) h1 (by omega) (some (.int (most : Nat), false)) p6 p7 p8
    exact ⟨_, _, rfl, e1, _, _, _, _, _, rfl, h3, by simp; omega⟩)
  rw [List.nil_append, List.length_range] at h2
  refine ⟨sts, h1, by omega, fnD0_rt (seq_to (set_to (b := true) (call_to (ds := [LI (ds.drop 20), .int 9]) ?_ et)) (seq_to (set_to (b := false) rfl) (seq_to (for_to ?_ e) rfl)))⟩
  · have := cut_LI (l := ds) (by omega)
    show (fCons (fSl (eVar 0) (some (eC (.int 20))) none) (fCons (eC (.int 9)) fNil)) [some (LI ds, false), some (.int (most : Nat), false), some (.int (P : Nat), false), none, none, none, none, none, none] = _
    simp only [RUN, R.bind, fSl, fPart, this]
  · have g1 := gR1_int (j := (c : Int)) (by omega) (by omega)
    rw [Int.toNat_natCast, List.map_map] at g1
    refine rng_to (ds := [.int (c : Int)]) ?_ g1
    show (fCons (fOp gMod (fOp gIx (eVar 0) (eC (.int 0))) (fOp gAdd (eVar 1) (eC (.int 1)))) fNil) [some (LI ds, false), some (.int (most : Nat), false), some (.int (P : Nat), false), some (LI ps, false), some (SsD [], false), none, none, none, none] = _
    simp only [RUN, R.bind, x0, mm, ec]
end Gen


/-! Qv1: values of any kind, of so many parts, so deep; is_name, is_word, is_statement of them. -/
namespace Pd
open PySem PySem.Spec PyProof.Rows L2
def sok (s : Str) : Bool := okS s && decide (s.length ≤ CAP)
/-- values that are nested less than n deep, with at most L parts at each place -/
def vok (L : Nat) : Nat → D → Bool
  | _, .non => true | _, .bl _ => true | _, .int _ => true | _, .str s => sok s
  | n + 1, .tup xs => decide (xs.length ≤ L) && xs.all (vok L n) | n + 1, .lst xs => decide (xs.length ≤ L) && xs.all (vok L n)
  | _, _ => false
theorem vok_mono {L M : Nat} (hL : L ≤ M) : ∀ {n m : Nat} {d : D}, n ≤ m → vok L n d = true → vok M m d = true
  | n, m, .non, _, _ => by cases m <;> rfl
  | n, m, .bl _, _, _ => by cases m <;> rfl
  | n, m, .int _, _, _ => by cases m <;> rfl
  | n, m, .str s, _, h => by cases n <;> cases m <;> exact h
  | 0, m, .tup xs, _, h => by cases h
  | 0, m, .lst xs, _, h => by cases h
  | n + 1, 0, d, hm, h => absurd hm (by omega)
  | n + 1, m + 1, .tup xs, hm, h => by
    simp only [vok, Bool.and_eq_true, decide_eq_true_eq, List.all_eq_true] at h ⊢
    exact ⟨by omega, fun x hx => vok_mono hL (by omega) (h.2 x hx)⟩
  | n + 1, m + 1, .lst xs, hm, h => by
    simp only [vok, Bool.and_eq_true, decide_eq_true_eq, List.all_eq_true] at h ⊢
    exact ⟨by omega, fun x hx => vok_mono hL (by omega) (h.2 x hx)⟩
  | n, _, .dic _ _, _, h => by cases n <;> cases h
  | n, _, .scr _, _, h => by cases n <;> cases h
  | n, _, .kin _ _ _, _, h => by cases n <;> cases h
theorem vok_okN {L : Nat} : ∀ {n : Nat} {d : D}, vok L n d = true → okN n d = true
  | n, .non, _ => by cases n <;> rfl
  | n, .bl _, _ => by cases n <;> rfl
  | n, .int _, _ => by cases n <;> rfl
  | n, .str s, h => by
    have q : sok s = true := by cases n <;> exact h
    unfold sok at q
    rw [Bool.and_eq_true] at q
    have q1 := q.1
    cases n <;> exact q1
  | 0, .tup xs, h => by cases h
  | 0, .lst xs, h => by cases h
  | n + 1, .tup xs, h => by
    simp only [vok, okN, Bool.and_eq_true, decide_eq_true_eq, List.all_eq_true] at h ⊢
    exact fun x hx => vok_okN (h.2 x hx)
  | n + 1, .lst xs, h => by
    simp only [vok, okN, Bool.and_eq_true, decide_eq_true_eq, List.all_eq_true] at h ⊢
    exact fun x hx => vok_okN (h.2 x hx)
  | n, .dic _ _, h => by cases n <;> cases h
  | n, .scr _, h => by cases n <;> cases h
  | n, .kin _ _ _, h => by cases n <;> cases h
theorem vok_tup {L n : Nat} {xs : List D} : vok L (n + 1) (.tup xs) = true ↔ xs.length ≤ L ∧ ∀ x ∈ xs, vok L n x = true := by
  simp only [vok, Bool.and_eq_true, decide_eq_true_eq, List.all_eq_true]
theorem vok_lst {L n : Nat} {xs : List D} : vok L (n + 1) (.lst xs) = true ↔ xs.length ≤ L ∧ ∀ x ∈ xs, vok L n x = true := by
  simp only [vok, Bool.and_eq_true, decide_eq_true_eq, List.all_eq_true]
theorem vok_str {L n : Nat} {s : Str} (h : vok L n (.str s) = true) : okS s = true ∧ s.length ≤ CAP := by
  have h : sok s = true := by cases n <;> exact h
  unfold sok at h
  rw [Bool.and_eq_true, decide_eq_true_eq] at h
  exact h
/-- the kinds of a value -/
theorem vok_cases {L n : Nat} {d : D} (h : vok L n d = true) : d = .non ∨ (∃ b, d = .bl b) ∨ (∃ i, d = .int i) ∨ (∃ s, d = .str s) ∨ (∃ xs, d = .tup xs) ∨ ∃ xs, d = .lst xs := by
  cases d with
  | non => exact .inl rfl
  | bl b => exact .inr (.inl ⟨b, rfl⟩)
  | int b => exact .inr (.inr (.inl ⟨b, rfl⟩))
  | str b => exact .inr (.inr (.inr (.inl ⟨b, rfl⟩)))
  | tup b => exact .inr (.inr (.inr (.inr (.inl ⟨b, rfl⟩))))
  | lst b => exact .inr (.inr (.inr (.inr (.inr ⟨b, rfl⟩))))
  | dic _ _ => cases n <;> cases h
  | scr _ => cases n <;> cases h
  | kin _ _ _ => cases n <;> cases h
end Pd
namespace Gen
open PySem PySem.Spec PyProof.Rows L2 Pd Nt
/-- a sign is a small letter -/
def letB (c : Nat) : Bool := [97, 98, 99, 100, 101, 102, 103, 104, 105, 106, 107, 108, 109, 110, 111, 112, 113, 114, 115, 116, 117, 118, 119, 120, 121, 122].any fun z => z == c
def nameB (s : Str) : Bool := decide (1 ≤ s.length ∧ s.length ≤ 8) && s.cps.toList.all letB
theorem in_let (c : Nat) : gIn (.str ⟨#[c]⟩) (.str "abcdefghijklmnopqrstuvwxyz") = .ok (.bl (letB c), false) := rfl
theorem notIn_let (c : Nat) : gNotIn (.str ⟨#[c]⟩) (.str ⟨⟨[97, 98, 99, 100, 101, 102, 103, 104, 105, 106, 107, 108, 109, 110, 111, 112, 113, 114, 115, 116, 117, 118, 119, 120, 121, 122]⟩⟩) = .ok (.bl (!letB c), false) := rfl
theorem blsD_map : ∀ l : List Bool, blsD (l.map D.bl) = some l
  | [] => rfl
  | b :: l => by simp [blsD, blsD_map l]
theorem len_str {s : Str} (h : s.length ≤ CAP) : gLen [.str s] = .ok (.int s.length, false) := by
  simp only [gLen]
  rw [if_pos h]
theorem y_to {f : EF} {ρ : Pd.Env} {b x : Bool} (h : f ρ = .ok (.bl b, x)) : fY f ρ = .ok b := by unfold fY; rw [h]
theorem fand_yes {f g : EF} {ρ : Pd.Env} {r : R (D × Bool)} {x : Bool} (h1 : f ρ = .ok (.bl true, x)) (h2 : g ρ = r) : fAnd f g ρ = r := by unfold fAnd; rw [h1]; exact h2
theorem fand_no {f g : EF} {ρ : Pd.Env} {x : Bool} (h1 : f ρ = .ok (.bl false, x)) : fAnd f g ρ = .ok (.bl false, false) := by unfold fAnd; rw [h1]; rfl
theorem chain_len {s : Str} {ρ : Pd.Env} (h : s.length ≤ CAP) (h0 : ρ[0]? = some (some (.str s, false))) : fChain gLe gLe (eC (.int 1)) (fCall gLen (fCons (eVar 0) fNil)) (eC (.int 8)) ρ = .ok (.bl (decide (1 ≤ s.length ∧ s.length ≤ 8)), false) := by
  have e0 : eVar 0 ρ = .ok (.str s, false) := by unfold eVar; rw [h0]
  have e1 : fCall gLen (fCons (eVar 0) fNil) ρ = .ok (.int s.length, false) := call_to (ds := [.str s]) (cons_to e0 rfl) (len_str h)
  unfold fChain
  rw [e1]
  have l1 : gLe (.int 1) (.int (s.length : Int)) = .ok (.bl (decide ((1 : Int) ≤ s.length)), false) := rfl
  have l2 : gLe (.int (s.length : Int)) (.int 8) = .ok (.bl (decide ((s.length : Int) ≤ 8)), false) := rfl
  show ((gLe (.int 1) (.int (s.length : Int))).bind fun z => match z.1 with | .bl b => if b then (gLe (.int (s.length : Int)) (.int 8)) else .ok (.bl false, false) | _ => .st) = _
  rw [l1, l2]
  by_cases c1 : 1 ≤ s.length
  · have : decide ((1 : Int) ≤ s.length) = true := decide_eq_true (by omega)
    rw [this]
    show R.ok (D.bl (decide ((s.length : Int) ≤ 8)), false) = _
    congr 3
    rw [Bool.eq_iff_iff, decide_eq_true_iff, decide_eq_true_iff]
    omega
  · have : decide ((1 : Int) ≤ s.length) = false := decide_eq_false (by omega)
    rw [this]
    show R.ok (D.bl false, false) = _
    congr 3
    rw [Bool.eq_iff_iff, decide_eq_true_iff]
    constructor
    · intro h; cases h
    · omega
theorem is_name_str {s : Str} (h : s.length ≤ CAP) : g_is_name [.str s] = .ok (.bl (nameB s), false) := by
  refine fnD0_rt (ret_to (fand_yes (x := false) rfl ?_))
  show fAnd (fChain gLe gLe (eC (.int 1)) (fCall gLen (fCons (eVar 0) fNil)) (eC (.int 8))) (fCall gAll (fCons (fLc (fIt seqA (eVar 0)) (gN 1) fYes (fOp gIn (eVar 1) (eC (.str "abcdefghijklmnopqrstuvwxyz"))) [1]) fNil)) [some (.str s, false), none] = _
  have e := chain_len (ρ := [some (.str s, false), none]) h rfl
  unfold nameB
  by_cases c : 1 ≤ s.length ∧ s.length ≤ 8
  · rw [decide_eq_true c] at e ⊢
    have lc : fLc (fIt seqA (eVar 0)) (gN 1) fYes (fOp gIn (eVar 1) (eC (.str "abcdefghijklmnopqrstuvwxyz"))) [1] [some (.str s, false), none] = .ok (.lst ((s.cps.toList.filter fun _ => true).map fun c => .bl (letB c)), true) :=
      fLc_map (enc := fun c => .str ⟨#[c]⟩) (xs := s.cps.toList) (p := fun _ => true) (f := fun c => .bl (letB c)) (it_to rfl rfl) (fun x _ => ⟨_, rfl, rfl, fun _ => ⟨false, op_to (a := false) (b := false) rfl rfl (in_let x)⟩⟩) (by
        have : s.cps.toList.length = s.length := rfl
        omega)
    rw [fand_yes e rfl]
    refine (call_to (cons_to lc rfl) ?_).trans rfl
    have e2 : ((s.cps.toList.filter fun _ => true).map fun c => D.bl (letB c)) = (s.cps.toList.map letB).map D.bl := by
      rw [List.filter_eq_self.mpr (fun _ _ => rfl), List.map_map]; rfl
    show gAll [.lst ((s.cps.toList.filter fun _ => true).map fun c => D.bl (letB c))] = .ok (.bl (s.cps.toList.all letB), false)
    rw [e2]
    simp only [gAll, blsD_map]
    rw [List.all_map]
    rfl
  · rw [decide_eq_false c] at e ⊢
    rw [fand_no e]
    rfl
theorem law_is_name_str {s : Str} (h : s.length ≤ CAP) (ho : okS s = true) : g__law_is_name [.str s] = .ok (.bl (nameB s), false) := by
  have e := chain_len (ρ := [some (.str s, false), none]) h rfl
  unfold nameB
  by_cases c : 1 ≤ s.length ∧ s.length ≤ 8
  · rw [decide_eq_true c] at e ⊢
    refine fnD0_rt (seq_to (if_no ?_ rfl) (ret_to ?_))
    · show fOrT (fNotT (fY (fIsi "str" (eVar 0)))) (fNotT (fY (fChain gLe gLe (eC (.int 1)) (fCall gLen (fCons (eVar 0) fNil)) (eC (.int 8))))) [some (.str s, false), none] = _
      have e1 : fNotT (fY (fIsi "str" (eVar 0))) [some (.str s, false), none] = .ok false := rfl
      have e2 : fNotT (fY (fChain gLe gLe (eC (.int 1)) (fCall gLen (fCons (eVar 0) fNil)) (eC (.int 8)))) [some (.str s, false), none] = .ok false := by unfold fNotT; rw [y_to e]; rfl
      unfold fOrT
      rw [e1]
      exact e2
    · have lc : fLc (fIt seqA (eVar 0)) (gN 1) (fY (fOp gNotIn (eVar 1) (eC (.str ⟨⟨[97, 98, 99, 100, 101, 102, 103, 104, 105, 106, 107, 108, 109, 110, 111, 112, 113, 114, 115, 116, 117, 118, 119, 120, 121, 122]⟩⟩)))) (eVar 1) [1] [some (.str s, false), none] = .ok (.lst ((s.cps.toList.filter fun c => !letB c).map fun c => .str ⟨#[c]⟩), true) :=
        fLc_map (enc := fun c => .str ⟨#[c]⟩) (xs := s.cps.toList) (p := fun c => !letB c) (f := fun c => .str ⟨#[c]⟩) (it_to rfl rfl) (fun x _ => ⟨_, rfl, y_to (op_to (a := false) (b := false) rfl rfl (notIn_let x)), fun _ => ⟨false, rfl⟩⟩) (by
          have : s.cps.toList.length = s.length := rfl
          omega)
      refine op_to (y := .lst []) (b := true) lc rfl ?_
      have hh := eq_enc (enc := fun c : Nat => D.str ⟨#[c]⟩) (xs := s.cps.toList.filter fun c => !letB c) (ys := []) (fun y hy => by
        have hy := (List.mem_filter.mp hy).1
        have := okL_all s.cps.toList
        have ho : okL s.cps.toList = true := ho
        rw [this, List.all_eq_true] at ho
        have := ho y hy
        show okL [y] = true
        rw [okL_all]
        simpa using this) (fun y hy => by cases hy) (fun _ _ y hy => by cases hy)
      refine hh.trans ?_
      congr 3
      rw [Bool.eq_iff_iff, decide_eq_true_iff, List.filter_eq_nil_iff, Bool.true_and, List.all_eq_true]
      simp
  · rw [decide_eq_false c] at e ⊢
    refine fnD0_rt (seq_ret (if_yes ?_ rfl))
    show fOrT (fNotT (fY (fIsi "str" (eVar 0)))) (fNotT (fY (fChain gLe gLe (eC (.int 1)) (fCall gLen (fCons (eVar 0) fNil)) (eC (.int 8))))) [some (.str s, false), none] = _
    have e1 : fNotT (fY (fIsi "str" (eVar 0))) [some (.str s, false), none] = .ok false := rfl
    have e2 : fNotT (fY (fChain gLe gLe (eC (.int 1)) (fCall gLen (fCons (eVar 0) fNil)) (eC (.int 8)))) [some (.str s, false), none] = .ok true := by unfold fNotT; rw [y_to e]; rfl
    unfold fOrT
    rw [e1]
    exact e2
def nameV : D → Bool
  | .str s => nameB s
  | _ => false
theorem is_name_v {L n : Nat} {d : D} (h : vok L n d = true) : g_is_name [d] = .ok (.bl (nameV d), false) ∧ g__law_is_name [d] = .ok (.bl (nameV d), false) := by
  rcases vok_cases h with rfl | ⟨b, rfl⟩ | ⟨i, rfl⟩ | ⟨s, rfl⟩ | ⟨xs, rfl⟩ | ⟨xs, rfl⟩
  · exact ⟨rfl, rfl⟩
  · exact ⟨rfl, rfl⟩
  · exact ⟨rfl, rfl⟩
  · obtain ⟨h1, h2⟩ := vok_str h
    exact ⟨is_name_str h2, law_is_name_str h2 h1⟩
  · exact ⟨rfl, rfl⟩
  · exact ⟨rfl, rfl⟩
end Gen

/-! Qv2: is_statement of any value is what the law's own check says. -/
namespace Gen
open PySem PySem.Spec PyProof.Rows L2 Pd Nt
theorem or_yes {f g : Pd.Env → R Bool} {ρ : Pd.Env} (h1 : f ρ = .ok true) : fOrT f g ρ = .ok true := by unfold fOrT; rw [h1]; first | done | rfl
theorem or_to {f g : Pd.Env → R Bool} {ρ : Pd.Env} {r : R Bool} (h1 : f ρ = .ok false) (h2 : g ρ = r) : fOrT f g ρ = r := by unfold fOrT; rw [h1]; exact h2
theorem not_to {f : Pd.Env → R Bool} {ρ : Pd.Env} {b : Bool} (h1 : f ρ = .ok b) : fNotT f ρ = .ok (!b) := by unfold fNotT; rw [h1]; first | done | rfl
theorem and_yes {f g : Pd.Env → R Bool} {ρ : Pd.Env} {r : R Bool} (h1 : f ρ = .ok true) (h2 : g ρ = r) : fAndT f g ρ = r := by unfold fAndT; rw [h1]; exact h2
theorem and_no {f g : Pd.Env → R Bool} {ρ : Pd.Env} (h1 : f ρ = .ok false) : fAndT f g ρ = .ok false := by unfold fAndT; rw [h1]; first | done | rfl
def stT (G : List D → R (D × Bool)) : Pd.Env → R Bool := (fOrT (fNotT (fY (fIsi "tuple" (eVar 0)))) (fOrT (fY (fOp gNe (fCall gLen (fCons (eVar 0) fNil)) (eC (.int 3)))) (fOrT (fNotT (fY (fCall G (fCons (fOp gIx (eVar 0) (eC (.int 0))) fNil)))) (fNotT (fY (fCall G (fCons (fOp gIx (eVar 0) (eC (.int 2))) fNil)))))))
theorem st_short {G : List D → R (D × Bool)} {xs : List D} (h : xs.length ≠ 3) : stT G [some (.tup xs, false)] = .ok true := by
  refine or_to rfl (or_yes ?_)
  have e : fOp gNe (fCall gLen (fCons (eVar 0) fNil)) (eC (.int 3)) [some (.tup xs, false)] = .ok (.bl (!decide ((xs.length : Int) = 3)), false) := rfl
  rw [y_to e, decide_eq_false (by omega)]
  rfl
theorem st_three {G : List D → R (D × Bool)} {a b c : D} {p q : Bool} (h1 : G [a] = .ok (.bl p, false)) (h2 : G [c] = .ok (.bl q, false)) : stT G [some (.tup [a, b, c], false)] = .ok (!p || !q) := by
  refine or_to rfl (or_to rfl ?_)
  have e1 : fNotT (fY (fCall G (fCons (fOp gIx (eVar 0) (eC (.int 0))) fNil))) [some (.tup [a, b, c], false)] = .ok (!p) := not_to (y_to (call_to (ds := [a]) rfl h1))
  have e2 : fNotT (fY (fCall G (fCons (fOp gIx (eVar 0) (eC (.int 2))) fNil))) [some (.tup [a, b, c], false)] = .ok (!q) := not_to (y_to (call_to (ds := [c]) rfl h2))
  cases p with
  | true => exact (or_to e1 e2).trans rfl
  | false => exact (or_yes e1).trans rfl
theorem is_word_str {w : Str} (h : okS w = true) : g_is_word [.str w] = .ok (.bl (!decide (rd w = [])), false) :=
  fnD0_rt (ret_to (fand_yes (x := false) rfl (op_to (y := .lst []) (b := true) (call_to rfl (readings_eq h)) rfl (neL_PD (rd w) []))))
def wordV : D → Bool
  | .str s => !decide (rd s = [])
  | _ => false
theorem is_word_v {L n : Nat} {d : D} (h : vok L n d = true) : g_is_word [d] = .ok (.bl (wordV d), false) := by
  rcases vok_cases h with rfl | ⟨b, rfl⟩ | ⟨i, rfl⟩ | ⟨s, rfl⟩ | ⟨xs, rfl⟩ | ⟨xs, rfl⟩
  · rfl
  · rfl
  · rfl
  · exact is_word_str (vok_str h).1
  · rfl
  · rfl
theorem law_word_v {L n : Nat} {a b c : D} (h : vok L n b = true) : fAnd (fIsi "str" (fOp gIx (eVar 0) (eC (.int 1)))) (fOp gNe (fCall g__law_readings (fCons (fOp gIx (eVar 0) (eC (.int 1))) fNil)) (fLst fNil)) [some (.tup [a, b, c], false)] = .ok (.bl (wordV b), false) := by
  rcases vok_cases h with rfl | ⟨b, rfl⟩ | ⟨i, rfl⟩ | ⟨s, rfl⟩ | ⟨xs, rfl⟩ | ⟨xs, rfl⟩
  · rfl
  · rfl
  · rfl
  · exact fand_yes (x := false) rfl (op_to (y := .lst []) (b := true) (call_to (ds := [.str s]) rfl (law_readings_eq (vok_str h).1)) rfl (neL_PD (rd s) []))
  · rfl
  · rfl
theorem fand_to {f g : EF} {ρ : Pd.Env} {p q x : Bool} (h1 : f ρ = .ok (.bl p, x)) (h2 : g ρ = .ok (.bl q, false)) : fAnd f g ρ = .ok (.bl (p && q), false) := by
  cases p with
  | true => exact (fand_yes h1 h2).trans rfl
  | false => exact (fand_no h1).trans rfl
theorem name_str {d : D} (h : nameV d = true) : ∃ s, d = .str s := by
  cases d with
  | str s => exact ⟨s, rfl⟩
  | _ => cases h
theorem is_st_v {L n : Nat} {d : D} (h : vok L n d = true) : ∃ q, g_is_statement [d] = .ok (.bl q, false) ∧ g__law_is_statement [d] = .ok (.bl q, false) := by
  rcases vok_cases h with rfl | ⟨b, rfl⟩ | ⟨i, rfl⟩ | ⟨s, rfl⟩ | ⟨xs, rfl⟩ | ⟨xs, rfl⟩
  · exact ⟨false, rfl, rfl⟩
  · exact ⟨false, rfl, rfl⟩
  · exact ⟨false, rfl, rfl⟩
  · exact ⟨false, rfl, rfl⟩
  · cases n with
    | zero => cases h
    | succ n =>
      obtain ⟨_, h⟩ := vok_tup.mp h
      by_cases l3 : xs.length = 3
      · obtain ⟨a, b, c, rfl⟩ : ∃ a b c, xs = [a, b, c] := by
          rcases xs with _ | ⟨a, _ | ⟨b, _ | ⟨c, _ | ⟨e, xs⟩⟩⟩⟩ <;> simp at l3
          exact ⟨a, b, c, rfl⟩
        have ha := h a (by simp)
        have hb := h b (by simp)
        have hc := h c (by simp)
        have t1 := st_three (b := b) (is_name_v ha).1 (is_name_v hc).1
        have t2 := st_three (b := b) (is_name_v ha).2 (is_name_v hc).2
        by_cases k : nameV a = true ∧ nameV c = true
        · rw [k.1, k.2] at t1 t2
          obtain ⟨x, rfl⟩ := name_str k.1
          obtain ⟨y, rfl⟩ := name_str k.2
          have ne : fOp gNe (fOp gIx (eVar 0) (eC (.int 0))) (fOp gIx (eVar 0) (eC (.int 2))) [some (.tup [.str x, b, .str y], false)] = .ok (.bl (!decide (x = y)), false) := op_to (x := .str x) (y := .str y) (a := false) (b := false) rfl rfl (ne_str (vok_str ha).1 (vok_str hc).1)
          refine ⟨!decide (x = y) && wordV b, fnD0_rt (seq_to (if_no t1 rfl) (ret_to (fand_to ne ?_))), fnD0_rt (seq_to (if_no t2 rfl) (ret_to (fand_to ne (law_word_v hb))))⟩
          exact call_to (ds := [b]) rfl (is_word_v hb)
        · have k2 : (!nameV a || !nameV c) = true := by
            cases e1 : nameV a <;> cases e2 : nameV c <;> simp_all
          rw [k2] at t1 t2
          exact ⟨false, fnD0_rt (seq_ret (if_yes t1 rfl)), fnD0_rt (seq_ret (if_yes t2 rfl))⟩
      · exact ⟨false, fnD0_rt (seq_ret (if_yes (st_short l3) rfl)), fnD0_rt (seq_ret (if_yes (st_short l3) rfl))⟩
  · exact ⟨false, rfl, rfl⟩
end Gen

/-! Qv3: _law_any_value. -/
namespace Pd
open PySem PySem.Spec PyProof.Rows L2
section
variable {τ : Type} {g : D → Env → Option Env} {fe : EF} {enc : τ → D} {ρ : Env} {P : D → Prop}
theorem lc_ex : ∀ (xs : List τ), (∀ x ∈ xs, ∃ ρ1 v b, g (enc x) ρ = some ρ1 ∧ fe ρ1 = .ok (v, b) ∧ P v) → ∃ vs, lcL g fYes fe ρ (xs.map enc) = .ok vs ∧ vs.length = xs.length ∧ ∀ v ∈ vs, P v
  | [], _ => ⟨[], rfl, rfl, fun _ h => by cases h⟩
  | x :: xs, h => by
    obtain ⟨ρ1, v, b, e1, e2, e3⟩ := h x List.mem_cons_self
    obtain ⟨vs, e4, e5, e6⟩ := lc_ex xs fun y hy => h y (List.mem_cons_of_mem _ hy)
    refine ⟨v :: vs, ?_, by simp [e5], fun w hw => ?_⟩
    · rw [List.map_cons, lcL, e1]
      simp only [fYes, e2, e4]
    · rcases List.mem_cons.mp hw with rfl | hw
      · exact e3
      · exact e6 w hw
theorem flc_ex {fi : Env → R (List D)} {vs : List Nat} {ρ0 : Env} {xs : List τ} (hi : fi ρ0 = .ok (xs.map enc)) (h : ∀ x ∈ xs, ∃ ρ1 v b, g (enc x) (wipeE ρ0 vs) = some ρ1 ∧ fe ρ1 = .ok (v, b) ∧ P v) (hl : xs.length ≤ CAP) :
    ∃ l, fLc fi g fYes fe vs ρ0 = .ok (.lst l, true) ∧ l.length = xs.length ∧ ∀ v ∈ l, P v := by
  obtain ⟨l, e1, e2, e3⟩ := lc_ex xs h
  refine ⟨l, ?_, e2, e3⟩
  unfold fLc
  rw [hi]
  simp only [e1]
  rw [if_pos (by omega)]
end
theorem sl_from {l : List Int} {i : Nat} (h : i ≤ l.length) : gSl (LI l) (some (i : Nat)) none = .ok (LI (l.drop i), true) := by
  show R.ok (D.lst (Pd.cutD (l.map D.int) (some (i : Nat)) none), true) = _
  have : Pd.cutD (l.map D.int) (some (i : Nat)) none = (l.drop i).map D.int := by
    unfold Pd.cutD
    rw [HT.sIx_nat, HT.sIx_none, List.length_map, Nat.min_eq_left h, ← List.map_drop, List.take_of_length_le]
    simp
  rw [this]
theorem sl_till {l : List Int} {i : Nat} (h : i ≤ l.length) : gSl (LI l) none (some (i : Nat)) = .ok (LI (l.take i), true) := by
  show R.ok (D.lst (Pd.cutD (l.map D.int) none (some (i : Nat))), true) = _
  have : Pd.cutD (l.map D.int) none (some (i : Nat)) = (l.take i).map D.int := by
    unfold Pd.cutD
    rw [HT.sIx_nat, HT.sIx_none, List.length_map, Nat.min_eq_left h, ← List.map_drop, ← List.map_take]
    simp
  rw [this]
theorem add_LI {a b : List Int} (h : a.length + b.length ≤ 1000) : gAdd (LI a) (LI b) = .ok (LI (a ++ b), true) := by
  show (if (a.map D.int).length + (b.map D.int).length ≤ CAP then R.ok (D.lst (a.map D.int ++ b.map D.int), true) else .st) = _
  rw [List.length_map, List.length_map, if_pos (by show _ ≤ 1000000; omega), ← List.map_append]
theorem rot_to {l : List Int} {i : Nat} {ρ : Env} {x k : Nat} (h : i ≤ l.length) (hl : l.length ≤ 1000) (h1 : ρ[x]? = some (some (LI l, false))) (h2 : ρ[k]? = some (some (.int (i : Nat), false))) :
    fOp gAdd (fSl (eVar x) (some (eVar k)) none) (fSl (eVar x) none (some (eVar k))) ρ = .ok (LI (l.drop i ++ l.take i), true) := by
  have v1 : eVar x ρ = .ok (LI l, false) := by unfold eVar; rw [h1]
  have v2 : eVar k ρ = .ok (.int (i : Nat), false) := by unfold eVar; rw [h2]
  have a : fSl (eVar x) (some (eVar k)) none ρ = .ok (LI (l.drop i), true) := by
    unfold fSl
    simp only [R.bind, v1, fPart, v2]
    exact sl_from h
  have b : fSl (eVar x) none (some (eVar k)) ρ = .ok (LI (l.take i), true) := by
    unfold fSl
    simp only [R.bind, v1, fPart, v2]
    exact sl_till h
  exact op_to a b (add_LI (by simp; omega))
end Pd
namespace Gen
open PySem PySem.Spec PyProof.Rows L2 Pd Nt
theorem pick3i (a b c : Int) {i : Int} (h : 0 ≤ i ∧ i < 3) : ∃ N, gIx (.lst [.int a, .int b, .int c]) (.int i) = .ok (.int N, false) := by
  have : i = 0 ∨ i = 1 ∨ i = 2 := by omega
  rcases this with rfl | rfl | rfl
  · exact ⟨a, rfl⟩
  · exact ⟨b, rfl⟩
  · exact ⟨c, rfl⟩
theorem pickV {L n : Nat} {l : List D} {i : Int} (h0 : 0 ≤ i) (h1 : i < l.length) (hl : ∀ x ∈ l, vok L n x = true) : ∃ v, gIx (.lst l) (.int i) = .ok (v, false) ∧ vok L n v = true ∧ l[i.toNat]? = some v := by
  obtain ⟨k, rfl⟩ := Int.eq_ofNat_of_zero_le h0
  have hk : k < l.length := by omega
  exact ⟨l[k], ix_nat (List.getElem?_eq_getElem hk), hl _ (List.getElem_mem hk), List.getElem?_eq_getElem hk⟩
theorem pw39 : ∃ T, gPow (.int 10) (.int 39) = .ok (.int T, false) := by
  refine ⟨10 ^ 39, ?_⟩
  show (if (0 : Int) ≤ 39 ∧ (39 : Int) ≤ 1000 ∧ (10 : Int).natAbs < 1000 then R.ok (D.int (10 ^ (39 : Int).toNat), false) else R.st) = _
  rw [if_pos (by decide)]
  rfl
theorem lt_int (a b : Int) : gLt (.int a) (.int b) = .ok (.bl (decide (a < b)), false) := rfl
def strsK : List D := [.str ⟨⟨[]⟩⟩, .str ⟨⟨[48]⟩⟩, .str ⟨⟨[97]⟩⟩, .str ⟨⟨[97, 120]⟩⟩, .str ⟨⟨[51]⟩⟩, .str ⟨⟨[110, 111, 110, 101]⟩⟩, .str ⟨⟨[65]⟩⟩, .str ⟨⟨[126]⟩⟩]
theorem any_ok : ∀ (m j : Nat) (ds : List Int) (dp : Int), dp = 4 - (j : Int) → j ≤ 4 → j < m → ds.length = 60 → ∃ v f, g__law_any_value_n m [LI ds, .int dp] = .ok (v, f) ∧ vok 4 j v = true
  | 0, j, ds, dp, _, _, h, _ => absurd h (by omega)
  | m + 1, j, ds, dp, e, hj, hm, hl => by
    have x0 := ix_dg (l := ds) (i := dp) (by omega) (by omega)
    have x1 := ix_dg (l := ds) (i := dp + 1) (by omega) (by omega)
    have x2 := ix_dg (l := ds) (i := dp + 2) (by omega) (by omega)
    have x3 := ix_dg (l := ds) (i := dp + 3) (by omega) (by omega)
    have x4 := ix_dg (l := ds) (i := dp + 4) (by omega) (by omega)
    have m12 : ∀ a, gMod (.int a) (.int 12) = .ok (.int (a % 12), false) := fun _ => mod_int (by decide)
    have m3 : ∀ a, gMod (.int a) (.int 3) = .ok (.int (a % 3), false) := fun _ => mod_int (by decide)
    have m4 : ∀ a, gMod (.int a) (.int 4) = .ok (.int (a % 4), false) := fun _ => mod_int (by decide)
    have m8 : ∀ a, gMod (.int a) (.int 8) = .ok (.int (a % 8), false) := fun _ => mod_int (by decide)
    have rc := emod_range (dg ds dp) (b := 12) (by decide)
    obtain ⟨c, ec⟩ : ∃ c, dg ds dp % 12 = c := ⟨_, rfl⟩
    rw [ec] at rc
    obtain ⟨T, eT⟩ := pw39
    obtain ⟨N, eN⟩ := pick3i (dg ds (dp + 1) % 12 - 2) (0 - T) T (emod_range (dg ds (dp + 2)) (b := 3) (by decide))
    have s1 : sSet 2 (fOp gMod (fOp gIx (eVar 0) (eVar 1)) (eC (.int 12))) [some (LI ds, false), some (.int dp, false), none, none, none, none] = .nx [some (LI ds, false), some (.int dp, false), some (.int c, false), none, none, none] :=
      set_to (b := false) (by simp only [RUN, R.bind, x0, m12, ec])
    have s2 : sSet 3 (fOp gIx (fLst (fCons (fOp gSub (fOp gMod (fOp gIx (eVar 0) (fOp gAdd (eVar 1) (eC (.int 1)))) (eC (.int 12))) (eC (.int 2))) (fCons (fOp gSub (eC (.int 0)) (fOp gPow (eC (.int 10)) (eC (.int 39)))) (fCons (fOp gPow (eC (.int 10)) (eC (.int 39))) fNil)))) (fOp gMod (fOp gIx (eVar 0) (fOp gAdd (eVar 1) (eC (.int 2)))) (eC (.int 3)))) [some (LI ds, false), some (.int dp, false), some (.int c, false), none, none, none] = .nx [some (LI ds, false), some (.int dp, false), some (.int c, false), some (.int N, false), none, none] :=
      set_to (b := false) (by simp only [RUN, R.bind, x1, x2, m12, m3, eT, eN])
    have t1 : (fOrT (fY (fOp gLt (eVar 2) (eC (.int 4)))) (fY (fOp gGt (eVar 1) (eC (.int 3))))) [some (LI ds, false), some (.int dp, false), some (.int c, false), some (.int N, false), none, none] = .ok (decide (c < 4) || decide (3 < dp)) := by simp only [RUN, R.bind]
    show ∃ v f, fnD0 6 (s__law_any_value (g__law_any_value_n m)) [LI ds, .int dp] = .ok (v, f) ∧ vok 4 j v = true
    by_cases k1 : (decide (c < 4) || decide (3 < dp)) = true
    · rw [k1] at t1
      exact ⟨.int N, false, fnD0_rt (seq_to s1 (seq_to s2 (seq_ret (if_yes t1 rfl)))), by cases j <;> rfl⟩
    · have k1' : (decide (c < 4) || decide (3 < dp)) = false := Bool.eq_false_iff.mpr k1
      rw [k1'] at t1
      simp only [Bool.or_eq_false_iff, decide_eq_false_iff_not] at k1'
      have t2 : (fY (fOp gLt (eVar 2) (eC (.int 7)))) [some (LI ds, false), some (.int dp, false), some (.int c, false), some (.int N, false), none, none] = .ok (decide (c < 7)) := by simp only [RUN, R.bind]
      by_cases k2 : c < 7
      · rw [decide_eq_true k2] at t2
        obtain ⟨v, ev, hv, _⟩ := pickV (L := 4) (n := j) (l := [.bl true, .bl false, .non]) (i := c - 4) (by omega) (by show c - 4 < ((3 : Nat) : Int); omega) (by intro x hx; simp at hx; rcases hx with rfl | rfl | rfl <;> cases j <;> rfl)
        exact ⟨v, false, fnD0_rt (seq_to s1 (seq_to s2 (seq_to (if_no t1 rfl) (seq_ret (if_yes t2 (ret_to (b := false) (by simp only [RUN, R.bind, ev]))))))), hv⟩
      · rw [decide_eq_false k2] at t2
        have t3 : (fY (fOp gLt (eVar 2) (eC (.int 9)))) [some (LI ds, false), some (.int dp, false), some (.int c, false), some (.int N, false), none, none] = .ok (decide (c < 9)) := by simp only [RUN, R.bind]
        by_cases k3 : c < 9
        · rw [decide_eq_true k3] at t3
          have r8 := emod_range (dg ds (dp + 3)) (b := 8) (by decide)
          obtain ⟨v, ev, hv, _⟩ := pickV (L := 4) (n := j) (l := strsK) (i := dg ds (dp + 3) % 8) r8.1 r8.2 (by
            intro x hx
            have : strsK.all (fun x => match x with | .str s => sok s | _ => false) = true := by decide +kernel
            rw [List.all_eq_true] at this
            have := this x hx
            cases x <;> cases j <;> first | exact this | cases this)
          have ev : gIx (.lst [.str ⟨⟨[]⟩⟩, .str ⟨⟨[48]⟩⟩, .str ⟨⟨[97]⟩⟩, .str ⟨⟨[97, 120]⟩⟩, .str ⟨⟨[51]⟩⟩, .str ⟨⟨[110, 111, 110, 101]⟩⟩, .str ⟨⟨[65]⟩⟩, .str ⟨⟨[126]⟩⟩]) (.int (dg ds (dp + 3) % 8)) = .ok (v, false) := ev
          exact ⟨v, false, fnD0_rt (seq_to s1 (seq_to s2 (seq_to (if_no t1 rfl) (seq_to (if_no t2 rfl) (seq_ret (if_yes t3 (ret_to (b := false) (by simp only [RUN, R.bind, x3, m8, ev])))))))), hv⟩
        · rw [decide_eq_false k3] at t3
          cases j with
          | zero => exact absurd k1'.2 (by omega)
          | succ j =>
            have r4 := emod_range (dg ds (dp + 4)) (b := 4) (by decide)
            obtain ⟨q, eq⟩ := Int.eq_ofNat_of_zero_le r4.1
            have hq : q < 4 := by omega
            obtain ⟨l, el, l1, l2⟩ := flc_ex (g := gN 5) (enc := fun k : Nat => D.int (k : Int)) (fe := fCall (g__law_any_value_n m) (fCons (fOp gAdd (fSl (eVar 0) (some (eVar 5)) none) (fSl (eVar 0) none (some (eVar 5)))) (fCons (fOp gAdd (eVar 1) (eC (.int 1))) fNil)))
              (fi := fun ρ => ((fCons (fOp gMod (fOp gIx (eVar 0) (fOp gAdd (eVar 1) (eC (.int 4)))) (eC (.int 4))) fNil) ρ).bind gR1) (vs := [5]) (ρ0 := [some (LI ds, false), some (.int dp, false), some (.int c, false), some (.int N, false), none, none]) (xs := List.range q) (P := fun v => vok 4 j v = true)
              (by
                have g1 := gR1_int (j := (q : Int)) (by omega) (by omega)
                rw [Int.toNat_natCast, List.map_map] at g1
                refine rng_to (ds := [.int (q : Int)]) ?_ g1
                show (fCons (fOp gMod (fOp gIx (eVar 0) (fOp gAdd (eVar 1) (eC (.int 4)))) (eC (.int 4))) fNil) [some (LI ds, false), some (.int dp, false), some (.int c, false), some (.int N, false), none, none] = _
                simp only [RUN, R.bind, x4, m4, eq])
              (fun k hk => by
                have hk := List.mem_range.mp hk
                obtain ⟨v, f, e1, e2⟩ := any_ok m j (ds.drop k ++ ds.take k) (dp + 1) (by omega) (by omega) (by omega) (by simp; omega)
                refine ⟨_, v, f, rfl, call_to (ds := [LI (ds.drop k ++ ds.take k), .int (dp + 1)]) ?_ e1, e2⟩
                exact cons_to (rot_to (l := ds) (i := k) (by omega) (by omega) rfl rfl) rfl)
              (by show _ ≤ 1000000; simp; omega)
            have l1 : l.length = q := by simpa using l1
            have s4 := set_to (i := 4) el
            by_cases k4 : c = 9
            · refine ⟨.lst l, false, fnD0_rt (seq_to s1 (seq_to s2 (seq_to (if_no t1 rfl) (seq_to (if_no t2 rfl) (seq_to (if_no t3 rfl) (seq_to s4 (ret_to ?_))))))), vok_lst.mpr ⟨by omega, l2⟩⟩
              show fIf (fY (fOp gEq (eVar 2) (eC (.int 9)))) (eVar 4) (fCall gTuple (fCons (eVar 4) fNil)) [some (LI ds, false), some (.int dp, false), some (.int c, false), some (.int N, false), some (.lst l, false), none] = _
              simp only [RUN, R.bind, k4]
            · refine ⟨.tup l, false, fnD0_rt (seq_to s1 (seq_to s2 (seq_to (if_no t1 rfl) (seq_to (if_no t2 rfl) (seq_to (if_no t3 rfl) (seq_to s4 (ret_to ?_))))))), vok_tup.mpr ⟨by omega, l2⟩⟩
              show fIf (fY (fOp gEq (eVar 2) (eC (.int 9)))) (eVar 4) (fCall gTuple (fCons (eVar 4) fNil)) [some (LI ds, false), some (.int dp, false), some (.int c, false), some (.int N, false), some (.lst l, false), none] = _
              simp only [RUN, R.bind, k4, gTuple]
end Gen

/-! Qv4: _law_paths. -/
namespace Gen
open PySem PySem.Spec PyProof.Rows L2 Pd Nt
abbrev TI (p : List Int) : D := .tup (p.map D.int)
/-- a path leads to a part of a value -/
def pathOk : List Int → D → Prop
  | [], _ => True
  | i :: p, .tup xs => ∃ (k : Nat) (d : D), i = k ∧ xs[k]? = some d ∧ pathOk p d
  | i :: p, .lst xs => ∃ (k : Nat) (d : D), i = k ∧ xs[k]? = some d ∧ pathOk p d
  | _ :: _, _ => False
theorem path_loop {G : List D → R (D × Bool)} {B n : Nat} (a0 : Option (D × Bool)) (hB : B ≤ 4096) (hn : n ≤ 100) : ∀ (ys : List D) (k : Nat) (ps : List (List Int)) (p2 p3 p4 : Option (D × Bool)),
    (∀ y ∈ ys, ∃ (qs : List (List Int)) (f : Bool), G [y] = .ok (.lst (qs.map TI), f) ∧ qs.length ≤ B ∧ ∀ q ∈ qs, q.length ≤ n ∧ pathOk q y) → ps.length + ys.length * B ≤ 100000 →
    ∃ (ps' : List (List Int)) (q2 q3 q4 : Option (D × Bool)), forL (gT [2, 3]) (b__law_paths_1 G) (enumD k ys) [a0, some (.lst (ps.map TI), false), p2, p3, p4] = .nx [a0, some (.lst (ps'.map TI), false), q2, q3, q4] ∧
      ps.length ≤ ps'.length ∧ ps'.length ≤ ps.length + ys.length * B ∧ ∀ p ∈ ps', p ∈ ps ∨ ∃ (i : Nat) (d : D) (q : List Int), ys[i]? = some d ∧ p = ((k + i : Nat) : Int) :: q ∧ q.length ≤ n ∧ pathOk q d
  | [], k, ps, p2, p3, p4, _, _ => ⟨ps, p2, p3, p4, rfl, Nat.le_refl _, by simp, fun p h => .inl h⟩
  | y :: ys, k, ps, p2, p3, p4, hG, hl => by
    obtain ⟨qs, f, e1, e2, e3⟩ := hG y List.mem_cons_self
    have hl : ps.length + (ys.length * B + B) ≤ 100000 := by
      rw [List.length_cons, Nat.succ_mul] at hl
      exact hl
    have lc : fLc (fIt seqA (fCall G (fCons (eVar 3) fNil))) (gN 4) fYes (fOp gAdd (fTup (fCons (eVar 2) fNil)) (eVar 4)) [4] [a0, some (.lst (ps.map TI), false), some (.int (k : Nat), false), some (y, false), p4] = .ok (.lst ((qs.filter fun _ => true).map fun q => TI ((k : Int) :: q)), true) := by
      refine fLc_map (enc := TI) (xs := qs) (p := fun _ => true) (f := fun q => TI ((k : Int) :: q)) (it_to (call_to (ds := [y]) rfl e1) rfl) (fun q hq => ⟨_, rfl, rfl, fun _ => ⟨false, ?_⟩⟩) (by show _ ≤ 1000000; omega)
      refine op_to (x := .tup [.int (k : Nat)]) (y := TI q) (a := false) (b := false) rfl rfl ?_
      show (if 1 + (q.map D.int).length ≤ CAP then R.ok (D.tup ([.int (k : Nat)] ++ q.map D.int), false) else .st) = _
      have := (e3 q hq).1
      rw [List.length_map, if_pos (by show _ ≤ 1000000; omega)]
      rfl
    rw [List.filter_eq_self.mpr (fun _ _ => rfl)] at lc
    have ga : gAdd (.lst (ps.map TI)) (.lst (qs.map fun q => TI ((k : Int) :: q))) = .ok (.lst ((ps ++ qs.map fun q => (k : Int) :: q).map TI), true) := by
      show (if (ps.map TI).length + (qs.map fun q => TI ((k : Int) :: q)).length ≤ CAP then R.ok (D.lst (ps.map TI ++ qs.map fun q => TI ((k : Int) :: q)), true) else .st) = _
      rw [List.length_map, List.length_map, if_pos (by show _ ≤ 1000000; omega), List.map_append, List.map_map]
      rfl
    have body : b__law_paths_1 G [a0, some (.lst (ps.map TI), false), some (.int (k : Nat), false), some (y, false), p4] = .nx [a0, some (.lst ((ps ++ qs.map fun q => (k : Int) :: q).map TI), false), some (.int (k : Nat), false), some (y, false), p4] :=
      set_to (b := true) (op_to (x := .lst (ps.map TI)) (a := false) rfl lc ga)
    obtain ⟨ps', q2, q3, q4, h1, h2, h3, h4⟩ := path_loop a0 hB hn ys (k + 1) (ps ++ qs.map fun q => (k : Int) :: q) (some (.int (k : Nat), false)) (some (y, false)) p4 (fun z hz => hG z (List.mem_cons_of_mem _ hz)) (by
      rw [List.length_append, List.length_map]; omega)
    rw [List.length_append, List.length_map] at h2 h3
    refine ⟨ps', q2, q3, q4, ?_, by omega, by rw [List.length_cons, Nat.succ_mul]; omega, fun p hp => ?_⟩
    · rw [enumD, forL]
      have g1 : gT [2, 3] (.tup [.int (k : Nat), y]) [a0, some (.lst (ps.map TI), false), p2, p3, p4] = some [a0, some (.lst (ps.map TI), false), some (.int (k : Nat), false), some (y, false), p4] := rfl
      rw [g1]
      simp only [body]
      exact h1
    · rcases h4 p hp with h | ⟨i, d, q, h5, h6, h7, h8⟩
      · rcases List.mem_append.mp h with h | h
        · exact .inl h
        · obtain ⟨q, hq, rfl⟩ := List.mem_map.mp h
          exact .inr ⟨0, y, q, rfl, rfl, (e3 q hq).1, (e3 q hq).2⟩
      · exact .inr ⟨i + 1, d, q, h5, by rw [h6]; congr 2; omega, h7, h8⟩
theorem paths_ok : ∀ (m n : Nat) (d : D), n < m → n ≤ 4 → vok 5 n d = true → ∃ ps : List (List Int), g__law_paths_n m [d] = .ok (.lst (ps.map TI), false) ∧ 1 ≤ ps.length ∧ ps.length ≤ 8 ^ n ∧ ∀ p ∈ ps, p.length ≤ n ∧ pathOk p d
  | 0, n, d, h, _, _ => absurd h (by omega)
  | m + 1, n, d, hm, hn, hv => by
    have pw : 1 ≤ 8 ^ n := Nat.pow_pos (by decide)
    show ∃ ps : List (List Int), fnD0 5 (s__law_paths (g__law_paths_n m)) [d] = .ok (.lst (ps.map TI), false) ∧ 1 ≤ ps.length ∧ ps.length ≤ 8 ^ n ∧ ∀ p ∈ ps, p.length ≤ n ∧ pathOk p d
    have plain : ∀ p ∈ [([] : List Int)], p.length ≤ n ∧ pathOk p d := fun p hp => by
      rw [List.mem_singleton.mp hp]
      exact ⟨Nat.zero_le _, trivial⟩
    have deep : ∀ xs : List D, 1 ≤ n → xs.length ≤ 5 → (∀ x ∈ xs, vok 5 (n - 1) x = true) → ∃ (ps' : List (List Int)) (q2 q3 q4 : Option (D × Bool)), forL (gT [2, 3]) (b__law_paths_1 (g__law_paths_n m)) (enumD 0 xs) [some (d, false), some (.lst ([([] : List Int)].map TI), false), none, none, none] = .nx [some (d, false), some (.lst (ps'.map TI), false), q2, q3, q4] ∧
        1 ≤ ps'.length ∧ ps'.length ≤ 8 ^ n ∧ ∀ p ∈ ps', p ∈ [([] : List Int)] ∨ ∃ (i : Nat) (d : D) (q : List Int), xs[i]? = some d ∧ p = ((0 + i : Nat) : Int) :: q ∧ q.length ≤ n - 1 ∧ pathOk q d := fun xs h1 h2 h3 => by
      have B0 : 8 ^ (n - 1) ≤ 512 := by
        have : (8 : Nat) ^ (n - 1) ≤ 8 ^ 3 := Nat.pow_le_pow_right (by decide) (by omega)
        exact this
      have B1 : 8 ^ n = 8 * 8 ^ (n - 1) := by
        obtain ⟨j, rfl⟩ : ∃ j, n = j + 1 := ⟨n - 1, by omega⟩
        rw [Nat.pow_succ]
        simp only [Nat.add_sub_cancel]
        omega
      have B2 : 1 ≤ 8 ^ (n - 1) := Nat.pow_pos (by decide)
      have B3 : xs.length * 8 ^ (n - 1) ≤ 5 * 8 ^ (n - 1) := Nat.mul_le_mul_right _ h2
      obtain ⟨ps', q2, q3, q4, k1, k2, k3, k4⟩ := path_loop (G := g__law_paths_n m) (B := 8 ^ (n - 1)) (n := n - 1) (some (d, false)) (by omega) (by omega) xs 0 [[]] none none none (fun y hy => by
        obtain ⟨qs, e1, e2, e3, e4⟩ := paths_ok m (n - 1) y (by omega) (by omega) (h3 y hy)
        exact ⟨qs, false, e1, e3, e4⟩) (by show 1 + _ ≤ _; omega)
      have k3 : ps'.length ≤ 1 + xs.length * 8 ^ (n - 1) := k3
      exact ⟨ps', q2, q3, q4, k1, k2, by omega, k4⟩
    rcases vok_cases hv with rfl | ⟨b, rfl⟩ | ⟨i, rfl⟩ | ⟨s, rfl⟩ | ⟨xs, rfl⟩ | ⟨xs, rfl⟩
    · exact ⟨[[]], fnD0_rt rfl, Nat.le_refl _, pw, plain⟩
    · exact ⟨[[]], fnD0_rt rfl, Nat.le_refl _, pw, plain⟩
    · exact ⟨[[]], fnD0_rt rfl, Nat.le_refl _, pw, plain⟩
    · exact ⟨[[]], fnD0_rt rfl, Nat.le_refl _, pw, plain⟩
    · cases n with
      | zero => cases hv
      | succ n =>
        obtain ⟨v1, v2⟩ := vok_tup.mp hv
        obtain ⟨ps', q2, q3, q4, k1, k2, k3, k4⟩ := deep xs (by omega) v1 v2
        refine ⟨ps', fnD0_rt (seq_to (set_to (d := .lst ([([] : List Int)].map TI)) (b := true) rfl) (seq_to (if_yes rfl (for_to (ds := enumD 0 xs) rfl k1)) rfl)), k2, k3, fun p hp => ?_⟩
        rcases k4 p hp with h | ⟨i, d, q, h1, h2, h3, h4⟩
        · exact plain p h
        · subst h2
          exact ⟨by rw [List.length_cons]; omega, 0 + i, d, rfl, by rw [Nat.zero_add]; exact h1, h4⟩
    · cases n with
      | zero => cases hv
      | succ n =>
        obtain ⟨v1, v2⟩ := vok_lst.mp hv
        obtain ⟨ps', q2, q3, q4, k1, k2, k3, k4⟩ := deep xs (by omega) v1 v2
        refine ⟨ps', fnD0_rt (seq_to (set_to (d := .lst ([([] : List Int)].map TI)) (b := true) rfl) (seq_to (if_yes rfl (for_to (ds := enumD 0 xs) rfl k1)) rfl)), k2, k3, fun p hp => ?_⟩
        rcases k4 p hp with h | ⟨i, d, q, h1, h2, h3, h4⟩
        · exact plain p h
        · subst h2
          exact ⟨by rw [List.length_cons]; omega, 0 + i, d, rfl, by rw [Nat.zero_add]; exact h1, h4⟩
end Gen

/-! Qv5: _law_other_value, _law_moved_item. -/
namespace Gen
open PySem PySem.Spec PyProof.Rows L2 Pd Nt
theorem slD_from {l : List D} {i : Nat} (h : i ≤ l.length) : gSl (.lst l) (some (i : Nat)) none = .ok (.lst (l.drop i), true) := by
  show R.ok (D.lst (Pd.cutD l (some (i : Nat)) none), true) = _
  have : Pd.cutD l (some (i : Nat)) none = l.drop i := by
    unfold Pd.cutD
    rw [HT.sIx_nat, HT.sIx_none, Nat.min_eq_left h, List.take_of_length_le]
    simp
  rw [this]
theorem slD_till {l : List D} {i : Nat} (h : i ≤ l.length) : gSl (.lst l) none (some (i : Nat)) = .ok (.lst (l.take i), true) := by
  show R.ok (D.lst (Pd.cutD l none (some (i : Nat))), true) = _
  have : Pd.cutD l none (some (i : Nat)) = l.take i := by
    unfold Pd.cutD
    rw [HT.sIx_nat, HT.sIx_none, Nat.min_eq_left h]
    simp
  rw [this]
theorem addD {a b : List D} (h : a.length + b.length ≤ 1000) : gAdd (.lst a) (.lst b) = .ok (.lst (a ++ b), true) := by
  show (if a.length + b.length ≤ CAP then R.ok (D.lst (a ++ b), true) else .st) = _
  rw [if_pos (by show _ ≤ 1000000; omega)]
theorem mov_ok {xs : List D} {k : Nat} {row : List Int} (hk : k < xs.length) (hx : xs.length ≤ 100) (hr : row.length = 5) : ∃ l, g__law_moved_item [.lst xs, .int (k : Nat), LI row] = .ok (.lst l, true) ∧ l.length ≤ xs.length + 1 ∧ ∀ x ∈ l, x ∈ xs := by
  have x0 := ix_dg (l := row) (i := 0) (by omega) (by omega)
  have x2 := ix_dg (l := row) (i := 2) (by omega) (by omega)
  have m3 : ∀ a, gMod (.int a) (.int 3) = .ok (.int (a % 3), false) := fun _ => mod_int (by decide)
  have mx : ∀ a, gMod (.int a) (.int (xs.length : Nat)) = .ok (.int (a % (xs.length : Nat)), false) := fun _ => mod_int (by omega)
  have gl : gLen [.lst xs] = .ok (.int (xs.length : Nat), false) := rfl
  have rt := emod_range (dg row 2) (b := (xs.length : Nat)) (by omega)
  obtain ⟨t, et⟩ := Int.eq_ofNat_of_zero_le rt.1
  have ht : t < xs.length := by omega
  obtain ⟨x, hxk⟩ : ∃ x, xs[k]? = some x := ⟨xs[k], List.getElem?_eq_getElem hk⟩
  have ex : gIx (.lst xs) (.int (k : Nat)) = .ok (x, false) := ix_nat hxk
  have mem : x ∈ xs := List.mem_of_getElem? hxk
  have s1 : sSet 3 (fOp gMod (fOp gIx (eVar 2) (eC (.int 2))) (fCall gLen (fCons (eVar 0) fNil))) [some (.lst xs, false), some (.int (k : Nat), false), some (LI row, false), none, none] = .nx [some (.lst xs, false), some (.int (k : Nat), false), some (LI row, false), some (.int (t : Nat), false), none] :=
    set_to (b := false) (by simp only [RUN, R.bind, x2, gl, mx, et])
  have e3 : fOp gMod (fOp gIx (eVar 2) (eC (.int 0))) (eC (.int 3)) [some (.lst xs, false), some (.int (k : Nat), false), some (LI row, false), some (.int (t : Nat), false), none] = .ok (.int (dg row 0 % 3), false) := by simp only [RUN, R.bind, x0, m3]
  have t1 : (fY (fOp gEq (fOp gMod (fOp gIx (eVar 2) (eC (.int 0))) (eC (.int 3))) (eC (.int 0)))) [some (.lst xs, false), some (.int (k : Nat), false), some (LI row, false), some (.int (t : Nat), false), none] = .ok (decide (dg row 0 % 3 = 0)) := y_to (op_to (b := false) e3 rfl rfl)
  have t2 : (fY (fOp gEq (fOp gMod (fOp gIx (eVar 2) (eC (.int 0))) (eC (.int 3))) (eC (.int 1)))) [some (.lst xs, false), some (.int (k : Nat), false), some (LI row, false), some (.int (t : Nat), false), none] = .ok (decide (dg row 0 % 3 = 1)) := y_to (op_to (b := false) e3 rfl rfl)
  have cut : (fOp gAdd (fSl (eVar 0) none (some (eVar 1))) (fSl (eVar 0) (some (fOp gAdd (eVar 1) (eC (.int 1)))) none)) [some (.lst xs, false), some (.int (k : Nat), false), some (LI row, false), some (.int (t : Nat), false), none] = .ok (.lst (xs.take k ++ xs.drop (k + 1)), true) := by
    have a : fSl (eVar 0) none (some (eVar 1)) [some (.lst xs, false), some (.int (k : Nat), false), some (LI row, false), some (.int (t : Nat), false), none] = .ok (.lst (xs.take k), true) := slD_till (by omega)
    have b : fSl (eVar 0) (some (fOp gAdd (eVar 1) (eC (.int 1)))) none [some (.lst xs, false), some (.int (k : Nat), false), some (LI row, false), some (.int (t : Nat), false), none] = .ok (.lst (xs.drop (k + 1)), true) := slD_from (i := k + 1) (by omega)
    exact op_to a b (addD (by simp; omega))
  have put : ∀ (v : Nat) (ys : List D) (ρ : Pd.Env), t ≤ ys.length → ys.length ≤ 100 → ρ[v]? = some (some (.lst ys, false)) → ρ[3]? = some (some (.int (t : Nat), false)) → ρ[0]? = some (some (.lst xs, false)) → ρ[1]? = some (some (.int (k : Nat), false)) →
      (fOp gAdd (fOp gAdd (fSl (eVar v) none (some (eVar 3))) (fLst (fCons (fOp gIx (eVar 0) (eVar 1)) fNil))) (fSl (eVar v) (some (eVar 3)) none)) ρ = .ok (.lst (ys.take t ++ [x] ++ ys.drop t), true) := fun v ys ρ h1 h2 hv h3 h0 h4 => by
    have vv : eVar v ρ = .ok (.lst ys, false) := by unfold eVar; rw [hv]
    have v3 : eVar 3 ρ = .ok (.int (t : Nat), false) := by unfold eVar; rw [h3]
    have v0 : eVar 0 ρ = .ok (.lst xs, false) := by unfold eVar; rw [h0]
    have v1 : eVar 1 ρ = .ok (.int (k : Nat), false) := by unfold eVar; rw [h4]
    have a : fSl (eVar v) none (some (eVar 3)) ρ = .ok (.lst (ys.take t), true) := by
      unfold fSl
      simp only [R.bind, vv, fPart, v3]
      exact slD_till h1
    have b : fSl (eVar v) (some (eVar 3)) none ρ = .ok (.lst (ys.drop t), true) := by
      unfold fSl
      simp only [R.bind, vv, fPart, v3]
      exact slD_from h1
    have c : fLst (fCons (fOp gIx (eVar 0) (eVar 1)) fNil) ρ = .ok (.lst [x], true) := by
      have : fCons (fOp gIx (eVar 0) (eVar 1)) fNil ρ = .ok [x] := cons_to (op_to v0 v1 ex) rfl
      unfold fLst
      rw [this]
      rfl
    exact op_to (op_to a c (addD (by simp; omega))) b (addD (by simp; omega))
  by_cases c1 : dg row 0 % 3 = 0
  · rw [decide_eq_true c1] at t1
    refine ⟨_, fnD0_rt (seq_to s1 (seq_ret (if_yes t1 (ret_to cut)))), by simp; omega, fun y hy => ?_⟩
    rcases List.mem_append.mp hy with h | h
    · exact List.mem_of_mem_take h
    · exact List.mem_of_mem_drop h
  · rw [decide_eq_false c1] at t1
    by_cases c2 : dg row 0 % 3 = 1
    · rw [decide_eq_true c2] at t2
      refine ⟨_, fnD0_rt (seq_to s1 (seq_to (if_no t1 rfl) (seq_ret (if_yes t2 (ret_to (put 0 xs _ (by omega) hx rfl rfl rfl rfl)))))), by simp; omega, fun y hy => ?_⟩
      rcases List.mem_append.mp hy with h | h
      · rcases List.mem_append.mp h with h | h
        · exact List.mem_of_mem_take h
        · rw [List.mem_singleton.mp h]; exact mem
      · exact List.mem_of_mem_drop h
    · rw [decide_eq_false c2] at t2
      have hl : (xs.take k ++ xs.drop (k + 1)).length = xs.length - 1 := by simp; omega
      refine ⟨_, fnD0_rt (seq_to s1 (seq_to (if_no t1 rfl) (seq_to (if_no t2 rfl) (seq_to (set_to cut) (ret_to (put 4 (xs.take k ++ xs.drop (k + 1)) _ (by omega) (by omega) rfl rfl rfl rfl)))))), by
        rw [List.length_append, List.length_append, List.length_take, List.length_drop, hl, List.length_singleton]; omega, fun y hy => ?_⟩
      have inn : ∀ z ∈ xs.take k ++ xs.drop (k + 1), z ∈ xs := fun z hz => by
        rcases List.mem_append.mp hz with h | h
        · exact List.mem_of_mem_take h
        · exact List.mem_of_mem_drop h
      rcases List.mem_append.mp hy with h | h
      · rcases List.mem_append.mp h with h | h
        · exact inn y (List.mem_of_mem_take h)
        · rw [List.mem_singleton.mp h]; exact mem
      · exact inn y (List.mem_of_mem_drop h)
def optsK (v : D) (T : Int) : List D := [.non, .bl true, .bl false, .int 7, .int (0 - 1), .int T, .str ⟨⟨[48]⟩⟩, .str ⟨⟨[]⟩⟩, .tup [], .lst [], .tup [v], .lst [v], .tup [.int 0], .tup [.int 1, .int 0], .int 1, .int 0]
theorem optsK_ok {L n : Nat} (hL : 2 ≤ L) {v : D} {T : Int} (h : vok L n v = true) : ∀ x ∈ optsK v T, vok L (n + 1) x = true := by
  intro x hx
  have i : ∀ (m : Nat) (z : Int), vok L m (.int z) = true := fun m z => by cases m <;> rfl
  simp only [optsK, List.mem_cons, List.not_mem_nil, or_false] at hx
  rcases hx with rfl | rfl | rfl | rfl | rfl | rfl | rfl | rfl | rfl | rfl | rfl | rfl | rfl | rfl | rfl | rfl
  · rfl
  · rfl
  · rfl
  · rfl
  · rfl
  · rfl
  · show sok _ = true
    decide +kernel
  · show sok _ = true
    decide +kernel
  · exact vok_tup.mpr ⟨by simp, fun x hx => by cases hx⟩
  · exact vok_lst.mpr ⟨by simp, fun x hx => by cases hx⟩
  · exact vok_tup.mpr ⟨by simp; omega, fun x hx => by rw [List.mem_singleton.mp hx]; exact h⟩
  · exact vok_lst.mpr ⟨by simp; omega, fun x hx => by rw [List.mem_singleton.mp hx]; exact h⟩
  · exact vok_tup.mpr ⟨by simp; omega, fun x hx => by rw [List.mem_singleton.mp hx]; exact i _ _⟩
  · refine vok_tup.mpr ⟨by simpa using hL, fun x hx => ?_⟩
    simp only [List.mem_cons, List.not_mem_nil, or_false] at hx
    rcases hx with rfl | rfl <;> exact i _ _
  · rfl
  · rfl
theorem oth_ok {L n : Nat} (hL : 2 ≤ L) {d : D} (h : vok L n d = true) {row : List Int} (hr : row.length = 5) : ∃ v, g__law_other_value [d, LI row] = .ok (v, false) ∧ vok L (n + 1) v = true := by
  obtain ⟨T, eT⟩ := pw39
  have h1 : vok L (n + 1) d = true := vok_mono (Nat.le_refl _) (Nat.le_succ _) h
  have s1 : sSet 2 (fLst (fCons (eC .non) (fCons (eC (.bl true)) (fCons (eC (.bl false)) (fCons (eC (.int 7)) (fCons (fOp gSub (eC (.int 0)) (eC (.int 1))) (fCons (fOp gPow (eC (.int 10)) (eC (.int 39))) (fCons (eC (.str ⟨⟨[48]⟩⟩)) (fCons (eC (.str ⟨⟨[]⟩⟩)) (fCons (fTup fNil) (fCons (fLst fNil) (fCons (fTup (fCons (eVar 0) fNil)) (fCons (fLst (fCons (eVar 0) fNil)) (fCons (fTup (fCons (eC (.int 0)) fNil)) (fCons (fTup (fCons (eC (.int 1)) (fCons (eC (.int 0)) fNil))) (fCons (eC (.int 1)) (fCons (eC (.int 0)) fNil))))))))))))))))) [some (d, false), some (LI row, false), none] = .nx [some (d, false), some (LI row, false), some (.lst (optsK d T), false)] := by
    refine set_to (b := true) ?_
    have c : ∀ (l : List D) (f : Pd.Env → R (List D)) (ρ : Pd.Env), f ρ = .ok l → l.length ≤ 100 → fLst f ρ = .ok (.lst l, true) := fun l f ρ e hl => by
      unfold fLst
      rw [e]
      show (if l.length ≤ CAP then R.ok (D.lst l, true) else .st) = _
      rw [if_pos (by show _ ≤ 1000000; omega)]
    refine c _ _ _ ?_ (by show 16 ≤ 100; decide)
    have pT : fOp gPow (eC (.int 10)) (eC (.int 39)) [some (d, false), some (LI row, false), none] = .ok (.int T, false) := eT
    exact cons_to rfl (cons_to rfl (cons_to rfl (cons_to rfl (cons_to rfl (cons_to pT rfl)))))
  have fin : ∀ l : List D, 1 ≤ l.length → (∀ x ∈ l, vok L (n + 1) x = true) → ∃ v, (sRet (fOp gIx (eVar 2) (fOp gMod (fOp gIx (eVar 1) (eC (.int 1))) (fCall gLen (fCons (eVar 2) fNil))))) [some (d, false), some (LI row, false), some (.lst l, false)] = .rt v false ∧ vok L (n + 1) v = true := fun l l1 l2 => by
    have x1 := ix_dg (l := row) (i := 1) (by omega) (by omega)
    have r := emod_range (dg row 1) (b := (l.length : Nat)) (by omega)
    obtain ⟨v, ev, hv, _⟩ := pickV (L := L) (n := n + 1) (l := l) r.1 r.2 l2
    have ml : gMod (.int (dg row 1)) (.int (l.length : Nat)) = .ok (.int (dg row 1 % (l.length : Nat)), false) := mod_int (by omega)
    have gl : gLen [.lst l] = .ok (.int (l.length : Nat), false) := rfl
    refine ⟨v, ret_to ?_, hv⟩
    simp only [RUN, R.bind, x1, gl, ml, ev]
  have kk := optsK_ok (T := T) hL h
  have kl : (optsK d T).length = 16 := rfl
  have both : ∀ pre : List D, pre.length ≤ 100 → (∀ x ∈ pre, vok L (n + 1) x = true) → (1 ≤ (pre ++ optsK d T).length) ∧ ∀ x ∈ pre ++ optsK d T, vok L (n + 1) x = true := fun pre _ hp => by
    refine ⟨by rw [List.length_append, kl]; omega, fun x hx => ?_⟩
    rcases List.mem_append.mp hx with h | h
    · exact hp x h
    · exact kk x h
  have i : ∀ (m : Nat) (z : Int), vok L m (.int z) = true := fun m z => by cases m <;> rfl
  have bb : ∀ (m : Nat) (z : Bool), vok L m (.bl z) = true := fun m z => by cases m <;> rfl
  have none2 : ∀ t1 : (fAndT (fY (fIsi "int" (eVar 0))) (fNotT (fY (fIsi "bool" (eVar 0))))) [some (d, false), some (LI row, false), some (.lst (optsK d T), false)] = .ok false, ∀ t2 : (fY (fIsi2 "list" "tuple" (eVar 0))) [some (d, false), some (LI row, false), some (.lst (optsK d T), false)] = .ok false, ∃ v, g__law_other_value [d, LI row] = .ok (v, false) ∧ vok L (n + 1) v = true := fun t1 t2 => by
    obtain ⟨v, e, hv⟩ := fin (optsK d T) (by rw [kl]; decide) kk
    exact ⟨v, fnD0_rt (seq_to s1 (seq_to (if_no t1 rfl) (seq_to (if_no t2 rfl) e))), hv⟩
  rcases vok_cases h with rfl | ⟨b, rfl⟩ | ⟨z, rfl⟩ | ⟨s, rfl⟩ | ⟨xs, rfl⟩ | ⟨xs, rfl⟩
  · exact none2 rfl rfl
  · exact none2 rfl rfl
  · obtain ⟨v, e, hv⟩ := fin ([.int (z + 1), .int (z - 1), .bl (z != 0), .int (z + 1), .int (z - 1), .bl (z != 0)] ++ optsK (.int z) T) (by simp) (both _ (by simp) (fun x hx => by
      simp only [List.mem_cons, List.not_mem_nil, or_false] at hx
      rcases hx with rfl | rfl | rfl | rfl | rfl | rfl <;> first | exact i _ _ | exact bb _ _)).2
    refine ⟨v, fnD0_rt (seq_to s1 (seq_to (if_yes rfl (set_to (b := true) ?_)) (seq_to (if_no rfl rfl) e))), hv⟩
    exact op_to (x := .lst [.int (z + 1), .int (z - 1), .bl (z != 0), .int (z + 1), .int (z - 1), .bl (z != 0)]) (y := .lst (optsK (.int z) T)) (a := true) (b := false) rfl rfl (addD (by rw [kl]; simp))
  · exact none2 rfl rfl
  · have ht : ∀ ys : List D, (∀ y ∈ ys, y ∈ xs) → ys.length = xs.length → vok L (n + 1) (.tup ys) = true ∧ vok L (n + 1) (.lst ys) = true := fun ys h2 h3 => by
      obtain ⟨v1, v2⟩ := vok_tup.mp h1
      exact ⟨vok_tup.mpr ⟨by omega, fun y hy => v2 y (h2 y hy)⟩, vok_lst.mpr ⟨by omega, fun y hy => v2 y (h2 y hy)⟩⟩
    obtain ⟨v, e, hv⟩ := fin ([.lst xs, .tup xs, .tup xs.reverse, .lst xs] ++ optsK (.tup xs) T) (by simp) (both _ (by simp) (fun x hx => by
      simp only [List.mem_cons, List.not_mem_nil, or_false] at hx
      rcases hx with rfl | rfl | rfl | rfl
      · exact (ht xs (fun _ h => h) rfl).2
      · exact (ht xs (fun _ h => h) rfl).1
      · exact (ht xs.reverse (fun _ h => List.mem_reverse.mp h) List.length_reverse).1
      · exact (ht xs (fun _ h => h) rfl).2)).2
    refine ⟨v, fnD0_rt (seq_to s1 (seq_to (if_no rfl rfl) (seq_to (if_yes rfl (set_to (b := true) ?_)) e))), hv⟩
    exact op_to (x := .lst [.lst xs, .tup xs, .tup xs.reverse, .lst xs]) (y := .lst (optsK (.tup xs) T)) (a := true) (b := false) rfl rfl (addD (by rw [kl]; simp))
  · have ht : ∀ ys : List D, (∀ y ∈ ys, y ∈ xs) → ys.length = xs.length → vok L (n + 1) (.tup ys) = true ∧ vok L (n + 1) (.lst ys) = true := fun ys h2 h3 => by
      obtain ⟨v1, v2⟩ := vok_lst.mp h1
      exact ⟨vok_tup.mpr ⟨by omega, fun y hy => v2 y (h2 y hy)⟩, vok_lst.mpr ⟨by omega, fun y hy => v2 y (h2 y hy)⟩⟩
    obtain ⟨v, e, hv⟩ := fin ([.lst xs, .tup xs, .tup xs.reverse, .lst xs] ++ optsK (.lst xs) T) (by simp) (both _ (by simp) (fun x hx => by
      simp only [List.mem_cons, List.not_mem_nil, or_false] at hx
      rcases hx with rfl | rfl | rfl | rfl
      · exact (ht xs (fun _ h => h) rfl).2
      · exact (ht xs (fun _ h => h) rfl).1
      · exact (ht xs.reverse (fun _ h => List.mem_reverse.mp h) List.length_reverse).1
      · exact (ht xs (fun _ h => h) rfl).2)).2
    refine ⟨v, fnD0_rt (seq_to s1 (seq_to (if_no rfl rfl) (seq_to (if_yes rfl (set_to (b := true) ?_)) e))), hv⟩
    exact op_to (x := .lst [.lst xs, .tup xs, .tup xs.reverse, .lst xs]) (y := .lst (optsK (.lst xs) T)) (a := true) (b := false) rfl rfl (addD (by rw [kl]; simp))
end Gen

/-! Qv6: _law_change_at, _law_mutated. -/
namespace Gen
open PySem PySem.Spec PyProof.Rows L2 Pd Nt
theorem eqTI (p : List Int) : gEq (TI p) (.tup []) = .ok (.bl (decide (p = [])), false) := by
  have o : okN 64 (TI p) = true := by
    show (p.map D.int).all (okN 63) = true
    rw [List.all_eq_true]
    intro d hd
    obtain ⟨z, _, rfl⟩ := List.mem_map.mp hd
    rfl
  unfold gEq
  rw [o]
  cases p <;> rfl
theorem tailTI (k : Int) (p : List Int) : gSl (TI (k :: p)) (some 1) none = .ok (TI p, false) := by
  show R.ok (D.tup (Pd.cutD ((k :: p).map D.int) (some ((1 : Nat) : Int)) none), false) = _
  have : Pd.cutD ((k :: p).map D.int) (some ((1 : Nat) : Int)) none = p.map D.int := by
    unfold Pd.cutD
    rw [HT.sIx_nat, HT.sIx_none, Nat.min_eq_left (by simp), List.take_of_length_le (by simp)]
    rfl
  rw [this]
section
variable {L : Nat} (hL : 2 ≤ L) (hL2 : L ≤ 50) {row : List Int} (hr : row.length = 5)
include hL hL2 hr
theorem change_step {G : List D → R (D × Bool)} {n : Nat} {d x : D} {xs : List D} {k : Nat} {p : List Int} (hp : p.length ≤ 50) (h1 : xs.length ≤ L) (h2 : ∀ x ∈ xs, vok L n x = true) (hk : xs[k]? = some x)
    (hg : ∃ v, G [x, TI p, LI row] = .ok (v, false) ∧ vok (L + 1) (n + 1) v = true) :
    ∃ l, (sIf (fAndT (fY (fOp gEq (fCall gLen (fCons (eVar 1) fNil)) (eC (.int 1)))) (fY (fOp gEq (fOp gMod (fOp gIx (eVar 2) (eC (.int 3))) (eC (.int 2))) (eC (.int 0))))) (sSeq (sShare 3)
      (sOwn 3 (fCall g__law_moved_item (fCons (eVar 3) (fCons (fOp gIx (eVar 1) (eC (.int 0))) (fCons (eVar 2) fNil)))))) (sPutL 3 (fOp gIx (eVar 1) (eC (.int 0))) (fCall G (fCons (fIxO 3 (fOp gIx (eVar 1) (eC (.int 0)))) (fCons (fSl (eVar 1) (some (eC (.int 1))) none) (fCons (eVar 2) fNil)))))) [some (d, false), some (TI ((k : Int) :: p), false), some (LI row, false), some (.lst xs, true)] =
      .nx [some (d, false), some (TI ((k : Int) :: p), false), some (LI row, false), some (.lst l, true)] ∧ l.length ≤ L + 1 ∧ ∀ y ∈ l, vok (L + 1) (n + 1) y = true := by
  have x3 := ix_dg (l := row) (i := 3) (by omega) (by omega)
  have m2 : ∀ a, gMod (.int a) (.int 2) = .ok (.int (a % 2), false) := fun _ => mod_int (by decide)
  have hk' : k < xs.length := (List.getElem?_eq_some_iff.mp hk).1
  have y0 : gIx (TI ((k : Int) :: p)) (.int 0) = .ok (.int (k : Nat), false) := ixT_nat (i := 0) rfl
  have up : ∀ y ∈ xs, vok (L + 1) (n + 1) y = true := fun y hy => vok_mono (Nat.le_succ _) (Nat.le_succ _) (h2 y hy)
  have a1 : (fY (fOp gEq (fCall gLen (fCons (eVar 1) fNil)) (eC (.int 1)))) [some (d, false), some (TI ((k : Int) :: p), false), some (LI row, false), some (.lst xs, true)] = .ok (decide ((((k : Int) :: p).map D.int).length = (1 : Int))) := y_to (op_to (a := false) (b := false) (call_to (ds := [TI ((k : Int) :: p)]) rfl rfl) rfl rfl)
  have a2 : (fY (fOp gEq (fOp gMod (fOp gIx (eVar 2) (eC (.int 3))) (eC (.int 2))) (eC (.int 0)))) [some (d, false), some (TI ((k : Int) :: p), false), some (LI row, false), some (.lst xs, true)] = .ok (decide (dg row 3 % 2 = 0)) := y_to (op_to (x := .int (dg row 3 % 2)) (a := false) (b := false) (op_to (a := false) (b := false) (op_to (a := false) (b := false) rfl rfl x3) rfl (m2 _)) rfl rfl)
  have path0 : (fOp gIx (eVar 1) (eC (.int 0))) [some (d, false), some (TI ((k : Int) :: p), false), some (LI row, false), some (.lst xs, true)] = .ok (.int (k : Nat), false) := op_to (a := false) (b := false) rfl rfl y0
  have two : ∃ l, (sPutL 3 (fOp gIx (eVar 1) (eC (.int 0))) (fCall G (fCons (fIxO 3 (fOp gIx (eVar 1) (eC (.int 0)))) (fCons (fSl (eVar 1) (some (eC (.int 1))) none) (fCons (eVar 2) fNil))))) [some (d, false), some (TI ((k : Int) :: p), false), some (LI row, false), some (.lst xs, true)] =
      .nx [some (d, false), some (TI ((k : Int) :: p), false), some (LI row, false), some (.lst l, true)] ∧ l.length ≤ L + 1 ∧ ∀ y ∈ l, vok (L + 1) (n + 1) y = true := by
    obtain ⟨v, ev, hv⟩ := hg
    have ixo : fIxO 3 (fOp gIx (eVar 1) (eC (.int 0))) [some (d, false), some (TI ((k : Int) :: p), false), some (LI row, false), some (.lst xs, true)] = .ok (x, false) := by
      have q : L2.atI xs ((k : Nat) : Int) = some x := by rw [Pd.atI_nat]; exact hk
      show ((fOp gIx (eVar 1) (eC (.int 0))) [some (d, false), some (TI ((k : Int) :: p), false), some (LI row, false), some (.lst xs, true)]).bind (fun y => match y.1 with
        | .int j => (match L2.atI xs j with | some d => .ok (d, false) | none => .st)
        | _ => .st) = _
      rw [path0]
      show (match L2.atI xs ((k : Nat) : Int) with | some d => R.ok (d, false) | none => .st) = _
      rw [q]
    have sl : fSl (eVar 1) (some (eC (.int 1))) none [some (d, false), some (TI ((k : Int) :: p), false), some (LI row, false), some (.lst xs, true)] = .ok (TI p, false) := tailTI k p
    have fv : (fCall G (fCons (fIxO 3 (fOp gIx (eVar 1) (eC (.int 0)))) (fCons (fSl (eVar 1) (some (eC (.int 1))) none) (fCons (eVar 2) fNil)))) [some (d, false), some (TI ((k : Int) :: p), false), some (LI row, false), some (.lst xs, true)] = .ok (v, false) :=
      call_to (ds := [x, TI p, LI row]) (cons_to ixo (cons_to sl rfl)) ev
    have ixn : ixN xs.length ((k : Nat) : Int) = some k := by
      unfold ixN
      rw [if_pos (by omega), if_pos (by omega)]
      rfl
    refine ⟨xs.set k v, ?_, by rw [List.length_set]; omega, fun y hy => ?_⟩
    · unfold sPutL
      rw [fv, path0]
      show (match ixN xs.length ((k : Nat) : Int) with | some n => Out.nx (([some (d, false), some (TI ((k : Int) :: p), false), some (LI row, false), some (.lst xs, true)] : Pd.Env).set 3 (some (.lst (xs.set n v), true))) | none => .st) = _
      rw [ixn]
      rfl
    · rcases List.mem_or_eq_of_mem_set hy with h | h
      · exact up y h
      · rw [h]; exact hv
  by_cases c1 : ((((k : Int) :: p).map D.int).length : Int) = 1
  · rw [decide_eq_true c1] at a1
    by_cases c2 : dg row 3 % 2 = 0
    · rw [decide_eq_true c2] at a2
      obtain ⟨l, em, l1, l2⟩ := mov_ok (xs := xs) (k := k) (row := row) hk' (by omega) hr
      have y0' : (fOp gIx (eVar 1) (eC (.int 0))) [some (d, false), some (TI ((k : Int) :: p), false), some (LI row, false), some (.lst xs, false)] = .ok (.int (k : Nat), false) := op_to (a := false) (b := false) rfl rfl y0
      exact ⟨l, if_yes (and_yes a1 a2) (seq_to rfl (own_to (call_to (ds := [.lst xs, .int (k : Nat), LI row]) (cons_to rfl (cons_to y0' rfl)) em))), by omega, fun y hy => up y (l2 y hy)⟩
    · rw [decide_eq_false c2] at a2
      obtain ⟨l, e, l1, l2⟩ := two
      exact ⟨l, if_no (and_yes a1 a2) e, l1, l2⟩
  · rw [decide_eq_false c1] at a1
    obtain ⟨l, e, l1, l2⟩ := two
    exact ⟨l, if_no (and_no a1) e, l1, l2⟩
theorem change_ok : ∀ (m : Nat) (p : List Int) (n : Nat) (d : D), p.length < m → p.length ≤ 50 → vok L n d = true → pathOk p d → ∃ v, g__law_change_at_n m [d, TI p, LI row] = .ok (v, false) ∧ vok (L + 1) (n + 1) v = true
  | 0, p, n, d, h, _, _, _ => absurd h (by omega)
  | m + 1, [], n, d, hm, hp, hv, h => by
    obtain ⟨v, e, h⟩ := oth_ok hL hv hr
    exact ⟨v, fnD0_rt (seq_ret (if_yes (y_to (op_to (a := false) (b := false) rfl rfl (eqTI []))) (ret_to (call_to (ds := [d, LI row]) rfl e)))), vok_mono (Nat.le_succ _) (Nat.le_refl _) h⟩
  | m + 1, i :: p, n, d, hm, hp, hv, h => by
    rw [List.length_cons] at hm hp
    have t0 : (fY (fOp gEq (eVar 1) (fTup fNil))) [some (d, false), some (TI (i :: p), false), some (LI row, false), none] = .ok false := (y_to (op_to (a := false) (b := false) rfl rfl (eqTI (i :: p)))).trans rfl
    rcases vok_cases hv with rfl | ⟨b, rfl⟩ | ⟨z, rfl⟩ | ⟨s, rfl⟩ | ⟨xs, rfl⟩ | ⟨xs, rfl⟩
    · exact h.elim
    · exact h.elim
    · exact h.elim
    · exact h.elim
    · cases n with
      | zero => cases hv
      | succ n =>
        obtain ⟨v1, v2⟩ := vok_tup.mp hv
        obtain ⟨k, x, rfl, hk, hx⟩ := h
        have hg := change_ok m p n x (by omega) (by omega) (v2 x (List.mem_of_getElem? hk)) hx
        obtain ⟨l, e, l1, l2⟩ := change_step hL hL2 hr (G := g__law_change_at_n m) (d := .tup xs) (by omega) v1 v2 hk hg
        exact ⟨.tup l, fnD0_rt (seq_to (if_no t0 rfl) (seq_to (own_to (d := .lst xs) rfl) (seq_to e (seq_to rfl rfl)))), vok_tup.mpr ⟨l1, l2⟩⟩
    · cases n with
      | zero => cases hv
      | succ n =>
        obtain ⟨v1, v2⟩ := vok_lst.mp hv
        obtain ⟨k, x, rfl, hk, hx⟩ := h
        have hg := change_ok m p n x (by omega) (by omega) (v2 x (List.mem_of_getElem? hk)) hx
        obtain ⟨l, e, l1, l2⟩ := change_step hL hL2 hr (G := g__law_change_at_n m) (d := .lst xs) (by omega) v1 v2 hk hg
        exact ⟨.lst l, fnD0_rt (seq_to (if_no t0 rfl) (seq_to (own_to (d := .lst xs) rfl) (seq_to e (seq_to rfl rfl)))), vok_lst.mpr ⟨l1, l2⟩⟩
theorem mutated_ok {n : Nat} {d : D} (hL5 : L ≤ 5) (hn : n ≤ 4) (hv : vok L n d = true) : ∃ v, g__law_mutated [d, LI row] = .ok (v, false) ∧ vok (L + 1) (n + 1) v = true := by
  obtain ⟨ps, e1, e2, e3, e4⟩ := paths_ok 10 n d (by omega) hn (vok_mono hL5 (Nat.le_refl _) hv)
  have x4 := ix_dg (l := row) (i := 4) (by omega) (by omega)
  have hl : (ps.map TI).length = ps.length := List.length_map ..
  have r := emod_range (dg row 4) (b := (ps.length : Nat)) (by omega)
  obtain ⟨t, et⟩ := Int.eq_ofNat_of_zero_le r.1
  have ht : t < ps.length := by omega
  obtain ⟨p, ep⟩ : ∃ p, ps[t]? = some p := ⟨ps[t], List.getElem?_eq_getElem ht⟩
  obtain ⟨p1, p2⟩ := e4 p (List.mem_of_getElem? ep)
  obtain ⟨v, ev, hv'⟩ := change_ok hL hL2 hr 10 p n d (by omega) (by omega) hv p2
  have gl : gLen [.lst (ps.map TI)] = .ok (.int (ps.length : Nat), false) := by rw [← hl]; rfl
  have mp : gMod (.int (dg row 4)) (.int (ps.length : Nat)) = .ok (.int (t : Nat), false) := by rw [Pd.mod_int (by omega), et]
  have gi : gIx (.lst (ps.map TI)) (.int (t : Nat)) = .ok (TI p, false) := ix_nat (by rw [List.getElem?_map, ep]; rfl)
  refine ⟨v, fnD0_rt (seq_to (set_to (d := .lst (ps.map TI)) (b := false) (call_to (ds := [d]) rfl e1)) (ret_to (call_to (ds := [d, TI p, LI row]) ?_ ev))), hv'⟩
  have a : (fOp gIx (eVar 2) (fOp gMod (fOp gIx (eVar 1) (eC (.int 4))) (fCall gLen (fCons (eVar 2) fNil)))) [some (d, false), some (LI row, false), some (.lst (ps.map TI), false)] = .ok (TI p, false) :=
    op_to (a := false) (b := false) rfl (op_to (x := .int (dg row 4)) (y := .int (ps.length : Nat)) (a := false) (b := false) (op_to (a := false) (b := false) rfl rfl x4) (call_to (ds := [.lst (ps.map TI)]) rfl gl) mp) gi
  exact cons_to rfl (cons_to a rfl)
end
end Gen

/-! Qv7: people; the law's own names. -/
namespace Pd
open PySem PySem.Spec PyProof.Rows L2
theorem isort_same {l m : List Str} (h : l.Perm m) : isort leS l = isort leS m := by
  rw [leS_eq]
  have h1 := isort_pw (PySem.W.sortLe_total (PyProof.Rows.listOrd itemOrd) false (fun k : Str => PySem.W.keyToks (.str k))) l
  exact sorted_one ((isort_perm sLe l).trans h) h1
theorem strsD_map (l : List Str) : strsD (l.map D.str) = some l := by
  induction l with
  | nil => rfl
  | cons x l ih => simp [strsD, ih]
theorem set_names {l m : List Str} (h1 : l.Nodup) (h2 : ∀ x, x ∈ l ↔ x ∈ m) : isort leS l = isort leS (dedS m) :=
  isort_same ((List.perm_ext_iff_of_nodup h1 (dedS_ok m).1).mpr fun x => (h2 x).trans ((dedS_ok m).2 x).symm)
def nmsOf (sts : List Sm) : List Str := sts.flatMap fun s => [s.one, s.oth]
theorem nmsOf_snoc (sts : List Sm) (s : Sm) : nmsOf (sts ++ [s]) = nmsOf sts ++ [s.one, s.oth] := by
  unfold nmsOf
  rw [List.flatMap_append]
  simp
theorem nmsOf_len (l : List Sm) : (nmsOf l).length = 2 * l.length := by
  induction l with
  | nil => rfl
  | cons s l ih => unfold nmsOf at *; rw [List.flatMap_cons, List.length_append, ih]; simp; omega
end Pd
namespace Gen
open PySem PySem.Spec PyProof.Rows L2 Pd Nt
theorem addL {a b : List Str} (h : a.length + b.length ≤ 1000) : gAdd (LS a) (LS b) = .ok (LS (a ++ b), true) := by
  show gAdd (.lst (a.map D.str)) (.lst (b.map D.str)) = .ok (.lst ((a ++ b).map D.str), true)
  rw [addD (by simpa using h), List.map_append]
theorem people_eq {sts : List Sm} (hs : ∀ s ∈ sts, SmOk s) (hn : sts.length ≤ 20) : g_people [SsD sts] = .ok (LS (isort leS (dedS (nmsOf sts))), true) := by
  obtain ⟨ρ', e, l, p2, p3, p4, p5, rfl, h1, h2, h3⟩ := forL_pre (g := gT [2, 3, 4]) (sb := b_people_1) (enc := SD) (fun pre ρ => ∃ l p2 p3 p4 p5, ρ = [some (SsD sts, false), some (LS l, false), p2, p3, p4, p5] ∧ l.Nodup ∧ (∀ x, x ∈ l ↔ x ∈ nmsOf pre) ∧ l.length ≤ 2 * pre.length)
    sts [] [some (SsD sts, false), some (LS [], false), none, none, none, none] ⟨[], none, none, none, none, rfl, List.nodup_nil, fun x => Iff.rfl, Nat.zero_le _⟩ (by
    rintro pre s suf e ρ ⟨l, p2, p3, p4, p5, rfl, h1, h2, h3⟩
    have e : sts = pre ++ s :: suf := e
    have hl : pre.length ≤ 20 := by rw [e] at hn; simp at hn; omega
    have so : SmOk s := hs s (by rw [e]; simp)
    have ok : ∀ x ∈ l, okS x = true := fun x hx => by
      obtain ⟨t, ht, hx⟩ := List.mem_flatMap.mp ((h2 x).mp hx)
      have to := hs t (by rw [e]; simp [ht])
      simp only [List.mem_cons, List.not_mem_nil, or_false] at hx
      rcases hx with rfl | rfl
      · exact to.one
      · exact to.oth
    have nin : ∀ x ∈ [s.one, s.oth], gNotIn (.str x) (LS l) = .ok (.bl (!decide (x ∈ l)), false) := fun x hx => by
      have ox : okS x = true := by
        simp only [List.mem_cons, List.not_mem_nil, or_false] at hx
        rcases hx with rfl | rfl
        · exact so.one
        · exact so.oth
      exact notIn_enc (enc := D.str) (x := x) (xs := l) ox (fun y hy => ok y hy) (fun y hy => strEq_dec y x)
    have lc : fLc (fIt seqA (fTup (fCons (eVar 2) (fCons (eVar 4) fNil)))) (gN 5) (fY (fOp gNotIn (eVar 5) (eVar 1))) (eVar 5) [5] [some (SsD sts, false), some (LS l, false), some (.str s.one, false), some (.str s.word, false), some (.str s.oth, false), p5] = .ok (.lst (([s.one, s.oth].filter fun x => !decide (x ∈ l)).map D.str), true) :=
      fLc_map (enc := D.str) (xs := [s.one, s.oth]) (p := fun x => !decide (x ∈ l)) (f := D.str) rfl (fun x hx => ⟨_, rfl, y_to (op_to (a := false) (b := false) rfl rfl (nin x hx)), fun _ => ⟨false, rfl⟩⟩) (by show 2 ≤ 1000000; decide)
    have fl : ([s.one, s.oth].filter fun x => !decide (x ∈ l)).length ≤ 2 := List.length_filter_le _ _
    refine ⟨_, _, rfl, set_to (op_to (x := LS l) (a := false) rfl lc (addL (a := l) (b := [s.one, s.oth].filter fun x => !decide (x ∈ l)) (by omega))), l ++ [s.one, s.oth].filter fun x => !decide (x ∈ l), _, _, _, p5, rfl, ?_, fun x => ?_, by rw [List.length_append, List.length_append, List.length_singleton]; omega⟩
    · rw [List.nodup_append]
      refine ⟨h1, List.Pairwise.filter _ (by simp [so.ne]), fun a ha b hb q => ?_⟩
      subst q
      have := (List.mem_filter.mp hb).2
      simp [ha] at this
    · rw [nmsOf_snoc, List.mem_append, List.mem_append, List.mem_filter]
      constructor
      · rintro (h | h)
        · exact .inl ((h2 x).mp h)
        · exact .inr h.1
      · rintro (h | h)
        · exact .inl ((h2 x).mpr h)
        · by_cases c : x ∈ l
          · exact .inl c
          · exact .inr ⟨h, by simp [c]⟩)
  rw [List.nil_append] at h2
  have ok : ∀ x ∈ l, okS x = true := fun x hx => by
    obtain ⟨t, ht, hx⟩ := List.mem_flatMap.mp ((h2 x).mp hx)
    have to := hs t ht
    simp only [List.mem_cons, List.not_mem_nil, or_false] at hx
    rcases hx with rfl | rfl
    · exact to.one
    · exact to.oth
  refine fnD0_rt (seq_to (set_to (d := LS []) (b := true) rfl) (seq_to (for_to (ds := sts.map SD) rfl e) (ret_to (call_to (ds := [LS l]) rfl ?_))))
  rw [sort_strs ok, set_names h1 h2]
theorem due_loop {sts : List Sm} (hn : sts.length ≤ 20) (a0 a1 a2 a3 a4 a5 a6 a8 a9 a10 a11 a12 a13 a14 : Option (D × Bool)) :
    ∃ p12 p13 p14, forL (gT [12, 13, 14]) b_law_2 (sts.map SD) [a0, a1, a2, a3, a4, a5, a6, some (LS [], false), a8, a9, a10, a11, a12, a13, a14] =
      .nx [a0, a1, a2, a3, a4, a5, a6, some (LS (nmsOf sts), false), a8, a9, a10, a11, p12, p13, p14] := by
  obtain ⟨ρ', e, p12, p13, p14, rfl⟩ := forL_pre (g := gT [12, 13, 14]) (sb := b_law_2) (enc := SD) (fun pre ρ => ∃ p12 p13 p14, ρ = [a0, a1, a2, a3, a4, a5, a6, some (LS (nmsOf pre), false), a8, a9, a10, a11, p12, p13, p14])
    sts [] _ ⟨a12, a13, a14, rfl⟩ (by
    rintro pre s suf e ρ ⟨p12, p13, p14, rfl⟩
    have e : sts = pre ++ s :: suf := e
    have hl : pre.length ≤ 20 := by rw [e] at hn; simp at hn; omega
    have nl := nmsOf_len pre
    refine ⟨_, _, rfl, set_to (op_to (x := LS (nmsOf pre)) (y := LS [s.one, s.oth]) (a := false) (b := true) rfl rfl (addL (by rw [nl]; show 2 * pre.length + 2 ≤ 1000; omega))), some (.str s.one, false), some (.str s.word, false), some (.str s.oth, false), ?_⟩
    rw [nmsOf_snoc]
    rfl)
  exact ⟨p12, p13, p14, e⟩
theorem set_sorted_to {l : List Str} {ρ : Pd.Env} {i : Nat} (h : ρ[i]? = some (some (LS l, false))) (hl : l.length < 900) : fSetSorted (eVar i) ρ = .ok (LS (isort leS (dedS l)), true) := by
  have v : eVar i ρ = .ok (LS l, false) := by unfold eVar; rw [h]
  unfold fSetSorted
  rw [v]
  show (match strsD (l.map D.str) with | some xs => if xs.length < 900 then R.ok (D.lst ((isort leS (dedS xs)).map D.str), true) else .st | none => .st) = _
  rw [strsD_map]
  simp only [if_pos hl]
end Gen

/-! Mo04: the law of k04. -/
namespace Gen
open PySem PySem.Spec PyProof.Rows L2 Pd Nt
theorem cut5 {l : List Int} {k : Nat} (hl : l.length = 60) (hk : k < 6) : ∃ row : List Int, gSl (LI l) (some (5 * (k : Int))) (some (5 * (k : Int) + 5)) = .ok (LI row, true) ∧ row.length = 5 := by
  refine ⟨(l.drop (5 * k)).take 5, ?_, by simp; omega⟩
  show R.ok (D.lst (Pd.cutD (l.map D.int) (some (5 * (k : Int))) (some (5 * (k : Int) + 5))), true) = _
  have : Pd.cutD (l.map D.int) (some (5 * (k : Int))) (some (5 * (k : Int) + 5)) = ((l.drop (5 * k)).take 5).map D.int := by
    have e1 : (5 * (k : Int)) = ((5 * k : Nat) : Int) := by omega
    have e2 : (5 * (k : Int) + 5) = ((5 * k + 5 : Nat) : Int) := by omega
    unfold Pd.cutD
    rw [e2, e1, HT.sIx_nat, HT.sIx_nat, List.length_map, Nat.min_eq_left (by omega), Nat.min_eq_left (by omega), List.map_take, List.map_drop]
    congr 1
    omega
  rw [this]
theorem sd_vok {s : Sm} (h : GenSm 9 s) : vok 3 1 (SD s) = true := by
  obtain ⟨a, b, p, ha, hb, hne, hp, rfl⟩ := h
  have nmk : ∀ k, k < 9 → sok (nm k) = true := fun k hk => by
    unfold sok
    rw [nm_okS (by omega), Bool.true_and]
    exact decide_eq_true (by show 3 ≤ 1000000; decide)
  have wk : sok (wd p.1 p.2) = true := by
    obtain ⟨h1, h2, h3, h4, h5⟩ := pairsN_mem.mp hp
    obtain ⟨q1, q2⟩ := wd_ok (u := p.1) (d := p.2) ⟨h1, by omega⟩ ⟨h3, by omega⟩ fun z => h5 (Prod.ext z.1 z.2)
    unfold sok
    rw [q2, Bool.true_and]
    exact decide_eq_true (by show _ ≤ 1000000; omega)
  refine vok_tup.mpr ⟨by simp, fun x hx => ?_⟩
  simp only [List.mem_cons, List.not_mem_nil, or_false] at hx
  rcases hx with rfl | rfl | rfl
  · exact nmk a ha
  · exact wk
  · exact nmk b hb
/-- ann is a sibling of zoe -/
def smAZ : Sm := ⟨⟨⟨[97, 110, 110]⟩⟩, ⟨⟨[115, 105, 98, 108, 105, 110, 103]⟩⟩, ⟨⟨[122, 111, 101]⟩⟩⟩
theorem az_vok : vok 3 1 (SD smAZ) = true := by decide +kernel
theorem az_ok : SmOk smAZ := ⟨by decide +kernel, by decide +kernel, by decide +kernel, by decide +kernel⟩
theorem bk {l : List Int} (hl : l.length = 60) {sts : List Sm} (hs : ∀ s ∈ sts, vok 3 1 (SD s) = true) (h1 : 1 ≤ sts.length) {vs : List D} (hv : ∀ v ∈ vs, vok 5 5 v = true) (hn : vs.length ≤ 500) {k : Nat} (hk : k < 6) (a0 a2 a3 a7 a8 a9 a10 a11 a12 a13 a14 : Option (D × Bool)) :
    ∃ vs' p9 p10 p11, b_law_1 [a0, some (.lst vs, true), a2, a3, some (LI l, false), some (SsD sts, false), some (.int (k : Nat), false), a7, a8, a9, a10, a11, a12, a13, a14] =
      .nx [a0, some (.lst vs', true), a2, a3, some (LI l, false), some (SsD sts, false), some (.int (k : Nat), false), a7, a8, p9, p10, p11, a12, a13, a14] ∧ (∀ v ∈ vs', vok 5 5 v = true) ∧ vs'.length ≤ vs.length + 4 := by
  obtain ⟨row, er, hr⟩ := cut5 hl hk
  have xk := ix_dg (l := l) (i := (k : Int)) (by omega) (by omega)
  have hsl : (sts.map SD).length = sts.length := List.length_map ..
  have r := emod_range (dg l k) (b := (sts.length : Nat)) (by omega)
  obtain ⟨t, et⟩ := Int.eq_ofNat_of_zero_le r.1
  have ht : t < sts.length := by omega
  obtain ⟨s, es⟩ : ∃ s, sts[t]? = some s := ⟨sts[t], List.getElem?_eq_getElem ht⟩
  have v0 := hs s (List.mem_of_getElem? es)
  obtain ⟨v1, e1, hv1⟩ := mutated_ok (L := 3) (by decide) (by decide) hr (n := 1) (by decide) (by decide) v0
  obtain ⟨v2, e2, hv2⟩ := mutated_ok (L := 4) (by decide) (by decide) (row := row.reverse) (by rw [List.length_reverse]; exact hr) (n := 2) (by decide) (by decide) hv1
  obtain ⟨v3, f3, e3, hv3⟩ := any_ok 10 4 (l.drop k ++ l.take k) 0 (by decide) (by decide) (by decide) (by simp; omega)
  have m5 : gMul (.int 5) (.int (k : Nat)) = .ok (.int (5 * (k : Nat)), false) := mul_int (by decide) (by omega)
  have gl : gLen [SsD sts] = .ok (.int (sts.length : Nat), false) := by rw [← hsl]; rfl
  have mp : gMod (.int (dg l k)) (.int (sts.length : Nat)) = .ok (.int (t : Nat), false) := by rw [Pd.mod_int (by omega), et]
  have gi : gIx (SsD sts) (.int (t : Nat)) = .ok (SD s, false) := ixT_nat (by rw [List.getElem?_map, es]; rfl)
  refine ⟨vs ++ [SD s, v1, v2] ++ [v3], some (LI row, false), some (SD s, false), some (v1, false), ?_, fun v hv' => ?_, by simp⟩
  · have s1 : sSet 9 (fSl (eVar 4) (some (fOp gMul (eC (.int 5)) (eVar 6))) (some (fOp gAdd (fOp gMul (eC (.int 5)) (eVar 6)) (eC (.int 5))))) [a0, some (.lst vs, true), a2, a3, some (LI l, false), some (SsD sts, false), some (.int (k : Nat), false), a7, a8, a9, a10, a11, a12, a13, a14] =
        .nx [a0, some (.lst vs, true), a2, a3, some (LI l, false), some (SsD sts, false), some (.int (k : Nat), false), a7, a8, some (LI row, false), a10, a11, a12, a13, a14] := by
      refine set_to (b := true) ?_
      have q : (fOp gMul (eC (.int 5)) (eVar 6)) [a0, some (.lst vs, true), a2, a3, some (LI l, false), some (SsD sts, false), some (.int (k : Nat), false), a7, a8, a9, a10, a11, a12, a13, a14] = .ok (.int (5 * (k : Nat)), false) := op_to (a := false) (b := false) rfl rfl m5
      have q2 : (fOp gAdd (fOp gMul (eC (.int 5)) (eVar 6)) (eC (.int 5))) [a0, some (.lst vs, true), a2, a3, some (LI l, false), some (SsD sts, false), some (.int (k : Nat), false), a7, a8, a9, a10, a11, a12, a13, a14] = .ok (.int (5 * (k : Nat) + 5), false) := op_to (b := false) q rfl rfl
      have q3 : (eVar 4) [a0, some (.lst vs, true), a2, a3, some (LI l, false), some (SsD sts, false), some (.int (k : Nat), false), a7, a8, a9, a10, a11, a12, a13, a14] = .ok (LI l, false) := rfl
      unfold fSl fPart
      simp only [q3, q2, q, R.bind]
      exact er
    have s2 : sSet 10 (fOp gIx (eVar 5) (fOp gMod (fOp gIx (eVar 4) (eVar 6)) (fCall gLen (fCons (eVar 5) fNil)))) [a0, some (.lst vs, true), a2, a3, some (LI l, false), some (SsD sts, false), some (.int (k : Nat), false), a7, a8, some (LI row, false), a10, a11, a12, a13, a14] =
        .nx [a0, some (.lst vs, true), a2, a3, some (LI l, false), some (SsD sts, false), some (.int (k : Nat), false), a7, a8, some (LI row, false), some (SD s, false), a11, a12, a13, a14] :=
      set_to (b := false) (op_to (x := SsD sts) (a := false) (b := false) rfl (op_to (x := .int (dg l k)) (a := false) (b := false) (op_to (x := LI l) (y := .int (k : Nat)) (a := false) (b := false) rfl rfl xk) (call_to (ds := [SsD sts]) rfl gl) mp) gi)
    have s3 : sSet 11 (fCall g__law_mutated (fCons (eVar 10) (fCons (eVar 9) fNil))) [a0, some (.lst vs, true), a2, a3, some (LI l, false), some (SsD sts, false), some (.int (k : Nat), false), a7, a8, some (LI row, false), some (SD s, false), a11, a12, a13, a14] =
        .nx [a0, some (.lst vs, true), a2, a3, some (LI l, false), some (SsD sts, false), some (.int (k : Nat), false), a7, a8, some (LI row, false), some (SD s, false), some (v1, false), a12, a13, a14] :=
      set_to (b := false) (call_to (ds := [SD s, LI row]) rfl e1)
    have s5 : sOwn 1 (fOp gAdd (eVar 1) (fLst (fCons (eVar 10) (fCons (eVar 11) (fCons (fCall g__law_mutated (fCons (eVar 11) (fCons (fRev (eVar 9)) fNil))) fNil))))) [a0, some (.lst vs, false), a2, a3, some (LI l, false), some (SsD sts, false), some (.int (k : Nat), false), a7, a8, some (LI row, false), some (SD s, false), some (v1, false), a12, a13, a14] =
        .nx [a0, some (.lst (vs ++ [SD s, v1, v2]), true), a2, a3, some (LI l, false), some (SsD sts, false), some (.int (k : Nat), false), a7, a8, some (LI row, false), some (SD s, false), some (v1, false), a12, a13, a14] := by
      refine own_to (op_to (x := .lst vs) (y := .lst [SD s, v1, v2]) (a := false) (b := true) rfl ?_ (addD (by simp; omega)))
      have rv : fRev (eVar 9) [a0, some (.lst vs, false), a2, a3, some (LI l, false), some (SsD sts, false), some (.int (k : Nat), false), a7, a8, some (LI row, false), some (SD s, false), some (v1, false), a12, a13, a14] = .ok (LI row.reverse, true) := by
        show R.ok (D.lst (row.map D.int).reverse, true) = _
        rw [← List.map_reverse]
      have m2 : (fCall g__law_mutated (fCons (eVar 11) (fCons (fRev (eVar 9)) fNil))) [a0, some (.lst vs, false), a2, a3, some (LI l, false), some (SsD sts, false), some (.int (k : Nat), false), a7, a8, some (LI row, false), some (SD s, false), some (v1, false), a12, a13, a14] = .ok (v2, false) :=
        call_to (ds := [v1, LI row.reverse]) (cons_to rfl (cons_to rv rfl)) e2
      have c : (fCons (eVar 10) (fCons (eVar 11) (fCons (fCall g__law_mutated (fCons (eVar 11) (fCons (fRev (eVar 9)) fNil))) fNil))) [a0, some (.lst vs, false), a2, a3, some (LI l, false), some (SsD sts, false), some (.int (k : Nat), false), a7, a8, some (LI row, false), some (SD s, false), some (v1, false), a12, a13, a14] = .ok [SD s, v1, v2] := cons_to rfl (cons_to rfl (cons_to m2 rfl))
      unfold fLst
      rw [c]
      rfl
    have s6 : sApp 1 (fCall g__law_any_value (fCons (fOp gAdd (fSl (eVar 4) (some (eVar 6)) none) (fSl (eVar 4) none (some (eVar 6)))) (fCons (eC (.int 0)) fNil))) [a0, some (.lst (vs ++ [SD s, v1, v2]), true), a2, a3, some (LI l, false), some (SsD sts, false), some (.int (k : Nat), false), a7, a8, some (LI row, false), some (SD s, false), some (v1, false), a12, a13, a14] =
        .nx [a0, some (.lst (vs ++ [SD s, v1, v2] ++ [v3]), true), a2, a3, some (LI l, false), some (SsD sts, false), some (.int (k : Nat), false), a7, a8, some (LI row, false), some (SD s, false), some (v1, false), a12, a13, a14] :=
      app_to (d := v3) (b := f3) rfl (call_to (ds := [LI (l.drop k ++ l.take k), .int 0]) (cons_to (rot_to (by omega) (by omega) rfl rfl) rfl) e3) (by show _ < 1000000; simp; omega)
    exact seq_to s1 (seq_to s2 (seq_to s3 (seq_to rfl (seq_to s5 s6))))
  · simp only [List.append_assoc, List.mem_append, List.mem_cons, List.not_mem_nil, or_false] at hv'
    rcases hv' with h | (rfl | rfl | rfl) | rfl
    · exact hv v h
    · exact vok_mono (by decide) (by decide) v0
    · exact vok_mono (by decide) (by decide) hv1
    · exact vok_mono (by decide) (by decide) hv2
    · exact vok_mono (by decide) (by decide) hv3
theorem ne_same {L : List Str} (h : ∀ x ∈ L, okS x = true) : gNe (LS L) (LS L) = .ok (.bl false, false) := by
  have := ne_enc (enc := D.str) (xs := L) (ys := L) (fun y hy => h y hy) (fun y hy => h y hy) (fun x _ y _ => strEq_dec x y)
  rw [decide_eq_true rfl] at this
  exact this
theorem bd4 (ns : List Int) {i : Int} (hi : 0 ≤ i ∧ i < 1000) {vs : List D} (hv : ∀ v ∈ vs, vok 5 5 v = true) (hn : vs.length ≤ 400) (a3 a4 a5 a6 a7 a8 a9 a10 a11 a12 a13 a14 : Option (D × Bool)) :
    ∃ vs' p4 p5 p6 p7 p8 p9 p10 p11 p12 p13 p14, law_5_b [some (.scr ns, false), some (.lst vs, true), some (.int i, false), a3, a4, a5, a6, a7, a8, a9, a10, a11, a12, a13, a14] =
      .nx [some (.scr ns, false), some (.lst vs', true), some (.int i, false), a3, p4, p5, p6, p7, p8, p9, p10, p11, p12, p13, p14] ∧ (∀ v ∈ vs', vok 5 5 v = true) ∧ vs'.length ≤ vs.length + 24 := by
  obtain ⟨l, hl, hb, ed⟩ := digits_ok ns (i := i) (b := 27720) 60 hi (by decide) (by decide)
  obtain ⟨sts, h1, h2, es⟩ := law_statements_eq (ds := l) (by omega) hb (most := 6) (P := 9) (by decide) (by decide)
  have hsv : ∀ s ∈ sts ++ [smAZ], vok 3 1 (SD s) = true := fun s hs => by
    rcases List.mem_append.mp hs with h | h
    · exact sd_vok (h1 s h)
    · rw [List.mem_singleton.mp h]; exact az_vok
  have hso : ∀ s ∈ sts ++ [smAZ], SmOk s := fun s hs => by
    rcases List.mem_append.mp hs with h | h
    · exact (h1 s h).ok (by decide)
    · rw [List.mem_singleton.mp h]; exact az_ok
  have hlen : (sts ++ [smAZ]).length = sts.length + 1 := by simp
  have ga : gAdd (SsD sts) (.tup [SD smAZ]) = .ok (SsD (sts ++ [smAZ]), false) := by
    show (if (sts.map SD).length + 1 ≤ CAP then R.ok (D.tup (sts.map SD ++ [SD smAZ]), false) else .st) = _
    rw [List.length_map, if_pos (by show _ ≤ 1000000; omega), SsD, List.map_append]
    rfl
  obtain ⟨S, eS⟩ : ∃ S, sts ++ [smAZ] = S := ⟨_, rfl⟩
  rw [eS] at hsv hso hlen ga
  obtain ⟨ρ', e, vs', b6, p9, p10, p11, rfl, g1, g2⟩ := forL_pre (g := gN 6) (sb := b_law_1) (enc := fun k : Nat => D.int (k : Int)) (fun pre ρ => ∃ vs' a6 p9 p10 p11, ρ = [some (.scr ns, false), some (.lst vs', true), some (.int i, false), a3, some (LI l, false), some (SsD S, false), a6, a7, a8, p9, p10, p11, a12, a13, a14] ∧ (∀ v ∈ vs', vok 5 5 v = true) ∧ vs'.length ≤ vs.length + 4 * pre.length)
    (List.range 6) [] _ ⟨vs, a6, a9, a10, a11, rfl, hv, Nat.le_refl _⟩ (by
    rintro pre k suf e ρ ⟨vs', a6, p9, p10, p11, rfl, g1, g2⟩
    have e : List.range 6 = pre ++ k :: suf := e
    have hk : k < 6 := List.mem_range.mp (by rw [e]; simp)
    have hle := congrArg List.length e
    simp at hle
    obtain ⟨vs2, q9, q10, q11, e1, e2, e3⟩ := bk hl hsv (by omega) g1 (by omega) hk (some (.scr ns, false)) (some (.int i, false)) a3 a7 a8 p9 p10 p11 a12 a13 a14
    exact ⟨_, _, rfl, e1, vs2, _, q9, q10, q11, rfl, e2, by rw [List.length_append, List.length_singleton]; omega⟩)
  rw [List.nil_append, List.length_range] at g2
  obtain ⟨p12, p13, p14, ew⟩ := due_loop (sts := S) (by omega) (some (.scr ns, false)) (some (.lst vs', true)) (some (.int i, false)) a3 (some (LI l, false)) (some (SsD S, false)) b6 a8 p9 p10 p11 a12 a13 a14
  have ep := people_eq hso (by omega)
  obtain ⟨P, eP⟩ : ∃ P, isort leS (dedS (nmsOf S)) = P := ⟨_, rfl⟩
  have okP : ∀ x ∈ P, okS x = true := fun x hx => by
    rw [← eP, (isort_perm leS _).mem_iff, (dedS_ok _).2] at hx
    obtain ⟨t, ht, hx⟩ := List.mem_flatMap.mp hx
    have to := hso t ht
    simp only [List.mem_cons, List.not_mem_nil, or_false] at hx
    rcases hx with rfl | rfl
    · exact to.one
    · exact to.oth
  rw [eP] at ep
  have nl := nmsOf_len S
  refine ⟨vs', some (LI l, false), some (SsD S, false), b6, some (LS (nmsOf S), false), some (LS P, false), p9, p10, p11, p12, p13, p14, ?_, g1, by omega⟩
  have w1 : law_5_1 [some (.scr ns, false), some (.lst vs, true), some (.int i, false), a3, a4, a5, a6, a7, a8, a9, a10, a11, a12, a13, a14] = .nx [some (.scr ns, false), some (.lst vs, true), some (.int i, false), a3, some (LI l, false), a5, a6, a7, a8, a9, a10, a11, a12, a13, a14] := set_to (b := true) (call_to (ds := [.scr ns, .int i, .int 60, .int 27720]) rfl ed)
  have w2 : law_5_2 [some (.scr ns, false), some (.lst vs, true), some (.int i, false), a3, some (LI l, false), a5, a6, a7, a8, a9, a10, a11, a12, a13, a14] = .nx [some (.scr ns, false), some (.lst vs, true), some (.int i, false), a3, some (LI l, false), some (SsD S, false), a6, a7, a8, a9, a10, a11, a12, a13, a14] :=
    set_to (b := false) (op_to (x := SsD sts) (y := .tup [SD smAZ]) (a := false) (b := false) (call_to (ds := [LI l, .int 6, .int 9]) rfl es) rfl ga)
  have w3 := for_to (fi := fun ρ => ((fCons (eC (.int 6)) fNil) ρ).bind gR1) (g := gN 6) (s := b_law_1) (ρ := [some (.scr ns, false), some (.lst vs, true), some (.int i, false), a3, some (LI l, false), some (SsD S, false), a6, a7, a8, a9, a10, a11, a12, a13, a14]) (ds := (List.range 6).map fun k : Nat => D.int (k : Int)) (by
    have g1 := gR1_int (j := 6) (by decide) (by decide)
    rw [List.map_map] at g1
    exact g1) e
  have w4 : law_5_4 [some (.scr ns, false), some (.lst vs', true), some (.int i, false), a3, some (LI l, false), some (SsD S, false), b6, a7, a8, p9, p10, p11, a12, a13, a14] = .nx [some (.scr ns, false), some (.lst vs', true), some (.int i, false), a3, some (LI l, false), some (SsD S, false), b6, some (LS [], false), a8, p9, p10, p11, a12, a13, a14] := set_to (d := LS []) (b := true) rfl
  have w5 : law_5_5 [some (.scr ns, false), some (.lst vs', true), some (.int i, false), a3, some (LI l, false), some (SsD S, false), b6, some (LS [], false), a8, p9, p10, p11, a12, a13, a14] = .nx [some (.scr ns, false), some (.lst vs', true), some (.int i, false), a3, some (LI l, false), some (SsD S, false), b6, some (LS (nmsOf S), false), a8, p9, p10, p11, p12, p13, p14] := for_to (ds := S.map SD) rfl ew
  have w6 : law_5_6 [some (.scr ns, false), some (.lst vs', true), some (.int i, false), a3, some (LI l, false), some (SsD S, false), b6, some (LS (nmsOf S), false), a8, p9, p10, p11, p12, p13, p14] = .nx [some (.scr ns, false), some (.lst vs', true), some (.int i, false), a3, some (LI l, false), some (SsD S, false), b6, some (LS (nmsOf S), false), some (LS P, false), p9, p10, p11, p12, p13, p14] := set_to (b := true) (call_to (ds := [SsD S]) rfl ep)
  have so := set_sorted_to (l := nmsOf S) (i := 7) (ρ := [some (.scr ns, false), some (.lst vs', true), some (.int i, false), a3, some (LI l, false), some (SsD S, false), b6, some (LS (nmsOf S), false), some (LS P, false), p9, p10, p11, p12, p13, p14]) rfl (by omega)
  rw [eP] at so
  have w7 : law_5_7 [some (.scr ns, false), some (.lst vs', true), some (.int i, false), a3, some (LI l, false), some (SsD S, false), b6, some (LS (nmsOf S), false), some (LS P, false), p9, p10, p11, p12, p13, p14] = .nx [some (.scr ns, false), some (.lst vs', true), some (.int i, false), a3, some (LI l, false), some (SsD S, false), b6, some (LS (nmsOf S), false), some (LS P, false), p9, p10, p11, p12, p13, p14] :=
    if_no (or_to (y_to (op_to (x := LS P) (y := LS P) (a := false) (b := true) rfl so (ne_same okP))) rfl) rfl
  exact seq_to w1 (seq_to w2 (seq_to w3 (seq_to w4 (seq_to w5 (seq_to w6 w7)))))
/-! the values that are told in the law -/
def vals1 : List D := [.tup [.str ⟨⟨[97, 110, 110]⟩⟩, .str ⟨⟨[112, 97, 114, 101, 110, 116]⟩⟩, .str ⟨⟨[98, 111, 98]⟩⟩], .tup [.str ⟨⟨[97, 110, 110]⟩⟩, .str ⟨⟨[112, 97, 114, 101, 110, 116]⟩⟩, .str ⟨⟨[97, 110, 110]⟩⟩], .tup [.str ⟨⟨[97, 110, 110]⟩⟩, .str ⟨⟨[99, 111, 117, 115, 105, 110, 32, 49, 32, 114, 101, 109, 111, 118, 101, 100, 32, 49]⟩⟩, .str ⟨⟨[98]⟩⟩]]
def vals2 : List D := [.tup [.str ⟨⟨[97, 110, 110]⟩⟩, .str ⟨⟨[99, 111, 117, 115, 105, 110, 32, 48]⟩⟩, .str ⟨⟨[98, 111, 98]⟩⟩], .tup [.str ⟨⟨[65, 110, 110]⟩⟩, .str ⟨⟨[112, 97, 114, 101, 110, 116]⟩⟩, .str ⟨⟨[98, 111, 98]⟩⟩], .tup [.str ⟨⟨[]⟩⟩, .str ⟨⟨[99, 104, 105, 108, 100]⟩⟩, .str ⟨⟨[98, 111, 98]⟩⟩]]
def vals3 : List D := [.tup [.str ⟨⟨[97, 97, 97, 97, 97, 97, 97, 97]⟩⟩, .str ⟨⟨[99, 104, 105, 108, 100]⟩⟩, .str ⟨⟨[98]⟩⟩], .tup [.str ⟨⟨[97, 97, 97, 97, 97, 97, 97, 97, 97]⟩⟩, .str ⟨⟨[99, 104, 105, 108, 100]⟩⟩, .str ⟨⟨[98]⟩⟩], .non, .int 5, .tup [], .lst [.str ⟨⟨[97, 110, 110]⟩⟩, .str ⟨⟨[112, 97, 114, 101, 110, 116]⟩⟩, .str ⟨⟨[98, 111, 98]⟩⟩]]
def vals4 : List D := [.tup [.str ⟨⟨[97, 110, 110]⟩⟩, .non, .str ⟨⟨[98, 111, 98]⟩⟩], .tup [.str ⟨⟨[97, 110, 110]⟩⟩, .str ⟨⟨[112, 97, 114, 101, 110, 116]⟩⟩], .tup [.str ⟨⟨[97, 110, 110]⟩⟩, .str ⟨⟨[112, 97, 114, 101, 110, 116]⟩⟩, .str ⟨⟨[98, 111, 98]⟩⟩, .int 1], .str ⟨⟨[97, 110, 110]⟩⟩]
theorem vals_ok : (vals1 ++ vals2 ++ vals3 ++ vals4).all (vok 5 5) = true := by decide +kernel
theorem same_eq (q : Bool) : g__law_same_bool [.bl q, .bl q] = .ok (.bl true, false) := by cases q <;> rfl
theorem ask_loop (ns : List Int) (a2 a4 a5 a6 a7 a8 a9 a10 a11 a12 a13 a14 : Option (D × Bool)) (w : D) : ∀ (vs : List D) (a3 : Option (D × Bool)), (∀ v ∈ vs, vok 5 5 v = true) →
    ∃ p3, forL (gN 3) law_6_b vs [some (.scr ns, false), some (w, false), a2, a3, a4, a5, a6, a7, a8, a9, a10, a11, a12, a13, a14] = .nx [some (.scr ns, false), some (w, false), a2, p3, a4, a5, a6, a7, a8, a9, a10, a11, a12, a13, a14]
  | [], a3, _ => ⟨a3, rfl⟩
  | v :: vs, a3, h => by
    obtain ⟨q, e1, e2⟩ := is_st_v (h v List.mem_cons_self)
    obtain ⟨p3, e⟩ := ask_loop ns a2 a4 a5 a6 a7 a8 a9 a10 a11 a12 a13 a14 w vs (some (v, false)) fun x hx => h x (List.mem_cons_of_mem _ hx)
    have b : law_6_b [some (.scr ns, false), some (w, false), a2, some (v, false), a4, a5, a6, a7, a8, a9, a10, a11, a12, a13, a14] = .nx [some (.scr ns, false), some (w, false), a2, some (v, false), a4, a5, a6, a7, a8, a9, a10, a11, a12, a13, a14] :=
      if_no ((not_to (y_to (call_to (ds := [.bl q, .bl q]) (cons_to (call_to (ds := [v]) rfl e1) (cons_to (call_to (ds := [v]) rfl e2) rfl)) (same_eq q)))).trans rfl) rfl
    refine ⟨p3, ?_⟩
    rw [forL]
    have g1 : gN 3 v [some (.scr ns, false), some (w, false), a2, a3, a4, a5, a6, a7, a8, a9, a10, a11, a12, a13, a14] = some [some (.scr ns, false), some (w, false), a2, some (v, false), a4, a5, a6, a7, a8, a9, a10, a11, a12, a13, a14] := rfl
    rw [g1]
    simp only [b]
    exact e
def smCA : Sm := ⟨⟨⟨[99, 121]⟩⟩, ⟨⟨[99, 104, 105, 108, 100]⟩⟩, ⟨⟨[97, 110, 110]⟩⟩⟩
theorem ca_ok : SmOk smCA := ⟨by decide +kernel, by decide +kernel, by decide +kernel, by decide +kernel⟩
theorem pp_ca : g_people [SsD [smCA]] = .ok (LS [⟨⟨[97, 110, 110]⟩⟩, ⟨⟨[99, 121]⟩⟩], true) := by
  have h := people_eq (sts := [smCA]) (fun s hs => by rw [List.mem_singleton.mp hs]; exact ca_ok) (by decide)
  have e : isort leS (dedS (nmsOf [smCA])) = [⟨⟨[97, 110, 110]⟩⟩, ⟨⟨[99, 121]⟩⟩] := by decide +kernel
  rwa [e] at h
theorem pp_nil : g_people [SsD []] = .ok (LS [], true) := by
  have h := people_eq (sts := []) (fun s hs => by cases hs) (by decide)
  have e : isort leS (dedS (nmsOf [])) = [] := by decide +kernel
  rwa [e] at h
theorem math (ns : List Int) (_ : ns.length ≤ 63) (_ : ∀ z ∈ ns, Builtin.Int.intBits z ≤ 1048576) : g_law [.scr ns] = .ok (.bl true, false) := by
  have l1 : law_1 [some (.scr ns, false), none, none, none, none, none, none, none, none, none, none, none, none, none, none] = .nx [some (.scr ns, false), some (.lst (vals1), true), none, none, none, none, none, none, none, none, none, none, none, none, none] := own_to (d := .lst vals1) rfl
  have l2 : law_2 [some (.scr ns, false), some (.lst (vals1), false), none, none, none, none, none, none, none, none, none, none, none, none, none] = .nx [some (.scr ns, false), some (.lst (vals1 ++ vals2), true), none, none, none, none, none, none, none, none, none, none, none, none, none] := own_to (op_to (x := .lst vals1) (y := .lst vals2) (a := false) (b := true) rfl rfl (addD (by decide)))
  have r8 : gMul (.str ⟨⟨[97]⟩⟩) (.int 8) = .ok (.str ⟨⟨[97, 97, 97, 97, 97, 97, 97, 97]⟩⟩, false) := by kernel_rfl
  have r9 : gMul (.str ⟨⟨[97]⟩⟩) (.int 9) = .ok (.str ⟨⟨[97, 97, 97, 97, 97, 97, 97, 97, 97]⟩⟩, false) := by kernel_rfl
  have l3 : law_3 [some (.scr ns, false), some (.lst (vals1 ++ vals2), false), none, none, none, none, none, none, none, none, none, none, none, none, none] = .nx [some (.scr ns, false), some (.lst (vals1 ++ vals2 ++ vals3), true), none, none, none, none, none, none, none, none, none, none, none, none, none] := by
    refine own_to (op_to (x := .lst (vals1 ++ vals2)) (y := .lst vals3) (a := false) (b := true) rfl ?_ (addD (by decide)))
    simp only [RUN, R.bind, r8, r9]
    rfl
  have l4 : law_4 [some (.scr ns, false), some (.lst (vals1 ++ vals2 ++ vals3), false), none, none, none, none, none, none, none, none, none, none, none, none, none] = .nx [some (.scr ns, false), some (.lst (vals1 ++ vals2 ++ vals3 ++ vals4), true), none, none, none, none, none, none, none, none, none, none, none, none, none] := own_to (op_to (x := .lst (vals1 ++ vals2 ++ vals3)) (y := .lst vals4) (a := false) (b := true) rfl rfl (addD (by decide)))
  obtain ⟨ρ', e, vs, p2, p4, p5, p6, p7, p8, p9, p10, p11, p12, p13, p14, rfl, g1, g2⟩ := forL_pre (g := gN 2) (sb := law_5_b) (enc := D.int) (fun pre ρ => ∃ vs p2 p4 p5 p6 p7 p8 p9 p10 p11 p12 p13 p14, ρ = [some (.scr ns, false), some (.lst vs, true), p2, none, p4, p5, p6, p7, p8, p9, p10, p11, p12, p13, p14] ∧ (∀ v ∈ vs, vok 5 5 v = true) ∧ vs.length ≤ 16 + 24 * pre.length)
    [0, 1] [] _ ⟨vals1 ++ vals2 ++ vals3 ++ vals4, none, none, none, none, none, none, none, none, none, none, none, none, rfl, fun v hv => List.all_eq_true.mp vals_ok v hv, by decide⟩ (by
    rintro pre i suf e ρ ⟨vs, p2, p4, p5, p6, p7, p8, p9, p10, p11, p12, p13, p14, rfl, g1, g2⟩
    have e : [0, 1] = pre ++ i :: suf := e
    have hi : i ∈ [(0 : Int), 1] := by rw [e]; simp
    have hle := congrArg List.length e
    simp at hle
    have hi' : 0 ≤ i ∧ i < 1000 := by
      simp only [List.mem_cons, List.not_mem_nil, or_false] at hi
      omega
    obtain ⟨vs', q4, q5, q6, q7, q8, q9, q10, q11, q12, q13, q14, e1, e2, e3⟩ := bd4 ns hi' g1 (by omega) none p4 p5 p6 p7 p8 p9 p10 p11 p12 p13 p14
    exact ⟨_, _, rfl, e1, vs', _, q4, q5, q6, q7, q8, q9, q10, q11, q12, q13, q14, rfl, e2, by rw [List.length_append, List.length_singleton]; omega⟩)
  obtain ⟨p3, e6⟩ := ask_loop ns p2 p4 p5 p6 p7 p8 p9 p10 p11 p12 p13 p14 (.lst vs) vs none g1
  have n1 : gEq (LS [⟨⟨[97, 110, 110]⟩⟩, ⟨⟨[99, 121]⟩⟩]) (LS [⟨⟨[97, 110, 110]⟩⟩, ⟨⟨[99, 121]⟩⟩]) = .ok (.bl true, false) := by kernel_rfl
  have n2 : gEq (LS []) (LS []) = .ok (.bl true, false) := by kernel_rfl
  refine fnD0_rt (seq_to l1 (seq_to rfl (seq_to l2 (seq_to rfl (seq_to l3 (seq_to rfl (seq_to l4 (seq_to (for_to (ds := [0, 1].map D.int) rfl e) (seq_to rfl (seq_to (for_to (ds := vs) rfl e6) (ret_to (b := false) ?_)))))))))))
  refine fand_yes (x := false) (op_to (x := LS [⟨⟨[97, 110, 110]⟩⟩, ⟨⟨[99, 121]⟩⟩]) (y := LS [⟨⟨[97, 110, 110]⟩⟩, ⟨⟨[99, 121]⟩⟩]) (a := true) (b := true) (call_to (ds := [SsD [smCA]]) rfl pp_ca) rfl n1) (op_to (x := LS []) (y := LS []) (a := true) (b := true) (call_to (ds := [SsD []]) rfl pp_nil) rfl n2)
end Gen

open PySem PySem.W PyProof.Rows
set_option maxRecDepth 100000 in
set_option maxHeartbeats 0 in
theorem PySem.Challenge.cw_cousinwords_k04_statements_holds : PySem.Challenge.rw_cousinwords_k04_statements.Holds := by
  w_on; o_law; k_head; (case hw => w_witness2)
  k_fill
  refine Gen.walk (l := PySem.Challenge.rw_cousinwords_k04_statements) rfl (by decide) rfl Gen.math (fun w h Y => PySem.W.kIn_of Y) ?F
  case F =>
    intro w mg fa h KX G hmg
    refine' Gen.all_mk KX G hmg ?a_greats ?l_greats ?c_greats ?k_greats ?a_word_of ?l_word_of ?c_word_of ?k_word_of ?a_all_pairs ?l_all_pairs ?c_all_pairs ?k_all_pairs ?a_readings ?l_readings ?c_readings ?k_readings ?a_is_word ?l_is_word ?c_is_word ?k_is_word ?a_is_name ?l_is_name ?c_is_name ?k_is_name ?a_is_statement ?l_is_statement ?c_is_statement ?k_is_statement ?a_people ?l_people ?c_people ?k_people ?a__law_cell ?l__law_cell ?c__law_cell ?k__law_cell ?a__law_digits ?l__law_digits ?c__law_digits ?k__law_digits ?a__law_same_bool ?l__law_same_bool ?c__law_same_bool ?k__law_same_bool ?a__law_paths ?l__law_paths ?c__law_paths ?k__law_paths ?a__law_other_value ?l__law_other_value ?c__law_other_value ?k__law_other_value ?a__law_moved_item ?l__law_moved_item ?c__law_moved_item ?k__law_moved_item ?a__law_change_at ?l__law_change_at ?c__law_change_at ?k__law_change_at ?a__law_mutated ?l__law_mutated ?c__law_mutated ?k__law_mutated ?a__law_any_value ?l__law_any_value ?c__law_any_value ?k__law_any_value ?a__law_word ?l__law_word ?c__law_word ?k__law_word ?a__law_pairs ?l__law_pairs ?c__law_pairs ?k__law_pairs ?a__law_readings ?l__law_readings ?c__law_readings ?k__law_readings ?a__law_tree ?l__law_tree ?c__law_tree ?k__law_tree ?a__law_line ?l__law_line ?c__law_line ?k__law_line ?a__law_pair ?l__law_pair ?c__law_pair ?k__law_pair ?a__law_name ?l__law_name ?c__law_name ?k__law_name ?a__law_statements ?l__law_statements ?c__law_statements ?k__law_statements ?a__law_is_name ?l__law_is_name ?c__law_is_name ?k__law_is_name ?a__law_is_statement ?l__law_is_statement ?c__law_is_statement ?k__law_is_statement ?a_law ?l_law ?c_law ?k_law ?y_LETTERS ?r_LETTERS ?y_MOST ?r_MOST ?z_abs ?z_all ?z_bool ?z_enumerate ?z_int ?z_isinstance ?z_len ?z_list ?z_max ?z_min ?z_range ?z_set ?z_sorted ?z_str ?z_tuple
    (case a_greats => k_is)
    (case l_greats => k_is)
    (case c_greats => k_is)
    (case k_greats => k_is)
    (case a_word_of => k_is)
    (case l_word_of => k_is)
    (case c_word_of => k_is)
    (case k_word_of => k_is)
    (case a_all_pairs => k_is)
    (case l_all_pairs => k_is)
    (case c_all_pairs => k_is)
    (case k_all_pairs => k_is)
    (case a_readings => k_is)
    (case l_readings => k_is)
    (case c_readings => k_is)
    (case k_readings => k_is)
    (case a_is_word => k_is)
    (case l_is_word => k_is)
    (case c_is_word => k_is)
    (case k_is_word => k_is)
    (case a_is_name => k_is)
    (case l_is_name => k_is)
    (case c_is_name => k_is)
    (case k_is_name => k_is)
    (case a_is_statement => k_is)
    (case l_is_statement => k_is)
    (case c_is_statement => k_is)
    (case k_is_statement => k_is)
    (case a_people => k_is)
    (case l_people => k_is)
    (case c_people => k_is)
    (case k_people => k_is)
    (case a__law_cell => k_is)
    (case l__law_cell => k_is)
    (case c__law_cell => k_is)
    (case k__law_cell => k_is)
    (case a__law_digits => k_is)
    (case l__law_digits => k_is)
    (case c__law_digits => k_is)
    (case k__law_digits => k_is)
    (case a__law_same_bool => k_is)
    (case l__law_same_bool => k_is)
    (case c__law_same_bool => k_is)
    (case k__law_same_bool => k_is)
    (case a__law_paths => k_is)
    (case l__law_paths => k_is)
    (case c__law_paths => k_is)
    (case k__law_paths => k_is)
    (case a__law_other_value => k_is)
    (case l__law_other_value => k_is)
    (case c__law_other_value => k_is)
    (case k__law_other_value => k_is)
    (case a__law_moved_item => k_is)
    (case l__law_moved_item => k_is)
    (case c__law_moved_item => k_is)
    (case k__law_moved_item => k_is)
    (case a__law_change_at => k_is)
    (case l__law_change_at => k_is)
    (case c__law_change_at => k_is)
    (case k__law_change_at => k_is)
    (case a__law_mutated => k_is)
    (case l__law_mutated => k_is)
    (case c__law_mutated => k_is)
    (case k__law_mutated => k_is)
    (case a__law_any_value => k_is)
    (case l__law_any_value => k_is)
    (case c__law_any_value => k_is)
    (case k__law_any_value => k_is)
    (case a__law_word => k_is)
    (case l__law_word => k_is)
    (case c__law_word => k_is)
    (case k__law_word => k_is)
    (case a__law_pairs => k_is)
    (case l__law_pairs => k_is)
    (case c__law_pairs => k_is)
    (case k__law_pairs => k_is)
    (case a__law_readings => k_is)
    (case l__law_readings => k_is)
    (case c__law_readings => k_is)
    (case k__law_readings => k_is)
    (case a__law_tree => k_is)
    (case l__law_tree => k_is)
    (case c__law_tree => k_is)
    (case k__law_tree => k_is)
    (case a__law_line => k_is)
    (case l__law_line => k_is)
    (case c__law_line => k_is)
    (case k__law_line => k_is)
    (case a__law_pair => k_is)
    (case l__law_pair => k_is)
    (case c__law_pair => k_is)
    (case k__law_pair => k_is)
    (case a__law_name => k_is)
    (case l__law_name => k_is)
    (case c__law_name => k_is)
    (case k__law_name => k_is)
    (case a__law_statements => k_is)
    (case l__law_statements => k_is)
    (case c__law_statements => k_is)
    (case k__law_statements => k_is)
    (case a__law_is_name => k_is)
    (case l__law_is_name => k_is)
    (case c__law_is_name => k_is)
    (case k__law_is_name => k_is)
    (case a__law_is_statement => k_is)
    (case l__law_is_statement => k_is)
    (case c__law_is_statement => k_is)
    (case k__law_is_statement => k_is)
    (case a_law => k_is)
    (case l_law => k_is)
    (case c_law => k_is)
    (case k_law => k_is)
    (case y_LETTERS => k_is)
    (case r_LETTERS => exact ⟨_, rfl⟩)
    (case y_MOST => k_is)
    (case r_MOST => exact ⟨_, rfl⟩)
    (case z_abs => k_is)
    (case z_all => k_is)
    (case z_bool => k_is)
    (case z_enumerate => k_is)
    (case z_int => k_is)
    (case z_isinstance => k_is)
    (case z_len => k_is)
    (case z_list => k_is)
    (case z_max => k_is)
    (case z_min => k_is)
    (case z_range => k_is)
    (case z_set => k_is)
    (case z_sorted => k_is)
    (case z_str => k_is)
    (case z_tuple => k_is)

