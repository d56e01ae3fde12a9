import PyProof.Rows.All
import Wide.All
import OpenK.AllK
import Wide.FinOn
import PyProof.EqAt
import PyProof.EqKinds
import PyProof.TupleCall
import PyProof.ReprRoads
import PyProof.NoPylong
import HandS.Base
import HandS.Call
import HandS.List
import HandS.Comp
import HandS.Ends
import HandS.Dict
import HandS.Iter
import HandS.Text
import HandS.Words
import HandS.WordsList
import HandS.Wide
import HandS.Gcd
import HandS.Rev
import HandS.Zip
import HandS.Conv
import HandS.Flow
import HandS.Style
import HandS.Defaults
import HandS.TupAny
import HandS.SortInts
import HandS.Exc
import HandS.IsInst
import KE.KMathGC
import KE.GoesMore
import KE.GoesEnum
import HandS.EndBits
import HandS.HeadHook2
import HandS.HeadEnd
import HandS.WideBits
import PySem.Challenge.RW_smoothbylot_k40_tie_shares
set_option Elab.async false
set_option linter.all false
set_option maxRecDepth 100000
set_option maxHeartbeats 4000000
namespace Pd
open PySem PySem.Spec PyProof.Rows L2

/-- plain data: a tuple is a value, a list (or another thing that changes) is an address -/
inductive D where
  | non | bl (b : Bool) | int (i : Int) | str (x : Str) | tup (xs : List D) | ref (a : Addr)

/-- what changes: a list; a list that is read only -/
inductive MO where
  | lst (xs : List D)
  | rol (xs : List D)

abbrev Mp := Addr → Option MO
def put (M : Mp) (a : Addr) (o : MO) : Mp := fun b => if b = a then some o else M b
theorem put_same {M : Mp} {a : Addr} {o : MO} : put M a o a = some o := if_pos rfl
theorem put_ne {M : Mp} {a b : Addr} {o : MO} (h : b ≠ a) : put M a o b = M b := if_neg h
theorem put_put {M : Mp} {a : Addr} {o u : MO} : put (put M a o) a u = put M a u := by
  funext b; unfold put; split <;> rfl
/-- a part of the small heap -/
def Sub (M' M : Mp) : Prop := ∀ a o, M' a = some o → M a = some o
theorem Sub.refl (M : Mp) : Sub M M := fun _ _ h => h
theorem Sub.trans {A B C : Mp} (h : Sub A B) (k : Sub B C) : Sub A C := fun a o e => k a o (h a o e)
theorem Sub.put {M' M : Mp} {a : Addr} {o : MO} (h : Sub M' M) (f : M' a = none) : Sub M' (put M a o) := fun b u e => by
  rw [put_ne (fun z => by rw [z, f] at e; cases e)]
  exact h b u e
theorem Sub.both {M' M : Mp} {a : Addr} {o : MO} (h : Sub M' M) : Sub (Pd.put M' a o) (Pd.put M a o) := fun b u e => by
  by_cases z : b = a
  · subst z; rw [put_same] at e ⊢; exact e
  · rw [put_ne z] at e ⊢; exact h b u e
theorem Sub.none {M' M : Mp} {a : Addr} (h : Sub M' M) (f : M a = none) : M' a = none := by
  cases e : M' a with
  | none => rfl
  | some o => rw [h a o e] at f; cases f

abbrev DSt := List (Option D)
abbrev DK := D → Mp → Prop

mutual
def Rep (K : PySem.W.Frag) (H : Hp) : D → V → Prop
  | .non, v => v = .non
  | .bl b, v => v = .bl b
  | .int i, v => v = .int i
  | .str x, v => v = .str x
  | .tup ds, v => ∃ a vs, v = .ref a ∧ SqT K H a vs ∧ RepL K H ds vs
  | .ref a, v => v = .ref a
def RepL (K : PySem.W.Frag) (H : Hp) : List D → List V → Prop
  | [], vs => vs = []
  | d :: ds, vs => ∃ w ws, vs = w :: ws ∧ Rep K H d w ∧ RepL K H ds ws
end

/-- the tuples stay -/
def Keep (K : PySem.W.Frag) (H H' : Hp) : Prop := ∀ a vs, SqT K H a vs → SqT K H' a vs
theorem Keep.refl {K : PySem.W.Frag} (H : Hp) : Keep K H H := fun _ _ h => h
theorem Keep.trans {K : PySem.W.Frag} {A B C : Hp} (h : Keep K A B) (k : Keep K B C) : Keep K A C := fun a vs e => k a vs (h a vs e)
mutual
theorem Rep.keep {K : PySem.W.Frag} {H H' : Hp} (k : Keep K H H') : ∀ {d : D} {v : V}, Rep K H d v → Rep K H' d v
  | .non, _, h => h
  | .bl _, _, h => h
  | .int _, _, h => h
  | .str _, _, h => h
  | .tup ds, v, h => by
    unfold Rep at h ⊢
    obtain ⟨a, vs, e, q, r⟩ := h
    exact ⟨a, vs, e, k a vs q, RepL.keep k r⟩
  | .ref _, _, h => h
theorem RepL.keep {K : PySem.W.Frag} {H H' : Hp} (k : Keep K H H') : ∀ {ds : List D} {vs : List V}, RepL K H ds vs → RepL K H' ds vs
  | [], _, h => h
  | d :: ds, vs, h => by
    unfold RepL at h ⊢
    obtain ⟨w, ws, e, q, r⟩ := h
    exact ⟨w, ws, e, Rep.keep k q, RepL.keep k r⟩
end

section
variable {K : PySem.W.Frag} {H H' : Hp}
theorem rep_non {v : V} : Rep K H .non v ↔ v = .non := by unfold Rep; exact Iff.rfl
theorem rep_bl {b : Bool} {v : V} : Rep K H (.bl b) v ↔ v = .bl b := by unfold Rep; exact Iff.rfl
theorem rep_int {i : Int} {v : V} : Rep K H (.int i) v ↔ v = .int i := by unfold Rep; exact Iff.rfl
theorem rep_str {x : Str} {v : V} : Rep K H (.str x) v ↔ v = .str x := by unfold Rep; exact Iff.rfl
theorem rep_ref {a : Addr} {v : V} : Rep K H (.ref a) v ↔ v = .ref a := by unfold Rep; exact Iff.rfl
theorem rep_tup {ds : List D} {v : V} : Rep K H (.tup ds) v ↔ ∃ a vs, v = .ref a ∧ SqT K H a vs ∧ RepL K H ds vs := by unfold Rep; exact Iff.rfl
theorem repL_nil {vs : List V} : RepL K H [] vs ↔ vs = [] := by unfold RepL; exact Iff.rfl
theorem repL_cons {d : D} {ds : List D} {vs : List V} : RepL K H (d :: ds) vs ↔ ∃ w ws, vs = w :: ws ∧ Rep K H d w ∧ RepL K H ds ws := by
  constructor
  · intro h; unfold RepL at h; exact h
  · intro h; unfold RepL; exact h
theorem RepL.length : ∀ {ds : List D} {vs : List V}, RepL K H ds vs → ds.length = vs.length
  | [], vs, h => by rw [repL_nil.mp h]; rfl
  | d :: ds, vs, h => by
    obtain ⟨w, ws, rfl, _, r⟩ := repL_cons.mp h
    rw [List.length_cons, List.length_cons, RepL.length r]
theorem RepL.get : ∀ {ds : List D} {vs : List V} {i : Nat} {d : D}, RepL K H ds vs → ds[i]? = some d → ∃ v, vs[i]? = some v ∧ Rep K H d v
  | [], _, _, _, _, e => by simp at e
  | d :: ds, vs, 0, x, h, e => by
    obtain ⟨w, ws, rfl, r, _⟩ := repL_cons.mp h
    simp at e; subst e
    exact ⟨w, rfl, r⟩
  | d :: ds, vs, i + 1, x, h, e => by
    obtain ⟨w, ws, rfl, _, r⟩ := repL_cons.mp h
    obtain ⟨v, h1, h2⟩ := RepL.get (i := i) (d := x) r (by simpa using e)
    exact ⟨v, by simpa using h1, h2⟩
theorem RepL.get' {ds : List D} {vs : List V} {i : Nat} {v : V} (r : RepL K H ds vs) (e : vs[i]? = some v) : ∃ d, ds[i]? = some d ∧ Rep K H d v := by
  have hi : i < ds.length := by rw [r.length]; exact (List.getElem?_eq_some_iff.mp e).1
  obtain ⟨w, h1, h2⟩ := r.get (d := ds[i]) (List.getElem?_eq_getElem hi)
  rw [e] at h1; cases h1
  exact ⟨_, List.getElem?_eq_getElem hi, h2⟩
theorem RepL.append : ∀ {ds es : List D} {vs ws : List V}, RepL K H ds vs → RepL K H es ws → RepL K H (ds ++ es) (vs ++ ws)
  | [], _, vs, _, h, k => by rw [repL_nil.mp h]; exact k
  | d :: ds, _, vs, _, h, k => by
    obtain ⟨w, ws, rfl, r, q⟩ := repL_cons.mp h
    exact repL_cons.mpr ⟨w, _, rfl, r, RepL.append q k⟩
theorem RepL.one {d : D} {v : V} (h : Rep K H d v) : RepL K H [d] [v] := repL_cons.mpr ⟨v, [], rfl, h, repL_nil.mpr rfl⟩
theorem RepL.set {d : D} {v : V} (h : Rep K H d v) : ∀ {ds : List D} {vs : List V} (i : Nat), RepL K H ds vs → RepL K H (ds.set i d) (vs.set i v)
  | [], vs, i, k => by rw [repL_nil.mp k]; exact repL_nil.mpr rfl
  | x :: ds, vs, 0, k => by
    obtain ⟨w, ws, rfl, r, q⟩ := repL_cons.mp k
    exact repL_cons.mpr ⟨v, ws, rfl, h, q⟩
  | x :: ds, vs, i + 1, k => by
    obtain ⟨w, ws, rfl, r, q⟩ := repL_cons.mp k
    exact repL_cons.mpr ⟨w, _, rfl, r, RepL.set h i q⟩
theorem RepL.take : ∀ {ds : List D} {vs : List V} (n : Nat), RepL K H ds vs → RepL K H (ds.take n) (vs.take n)
  | _, _, 0, _ => by rw [List.take_zero, List.take_zero]; exact repL_nil.mpr rfl
  | [], vs, n + 1, k => by rw [repL_nil.mp k]; exact repL_nil.mpr rfl
  | x :: ds, vs, n + 1, k => by
    obtain ⟨w, ws, rfl, r, q⟩ := repL_cons.mp k
    exact repL_cons.mpr ⟨w, _, rfl, r, RepL.take n q⟩
theorem RepL.drop : ∀ {ds : List D} {vs : List V} (n : Nat), RepL K H ds vs → RepL K H (ds.drop n) (vs.drop n)
  | _, _, 0, k => by rw [List.drop_zero, List.drop_zero]; exact k
  | [], vs, n + 1, k => by rw [repL_nil.mp k]; exact repL_nil.mpr rfl
  | x :: ds, vs, n + 1, k => by
    obtain ⟨w, ws, rfl, r, q⟩ := repL_cons.mp k
    exact RepL.drop n q
theorem RepL.reverse : ∀ {ds : List D} {vs : List V}, RepL K H ds vs → RepL K H ds.reverse vs.reverse
  | [], vs, k => by rw [repL_nil.mp k]; exact repL_nil.mpr rfl
  | x :: ds, vs, k => by
    obtain ⟨w, ws, rfl, r, q⟩ := repL_cons.mp k
    rw [List.reverse_cons, List.reverse_cons]
    exact RepL.append (RepL.reverse q) (RepL.one r)
end

/-- the small heap is held -/
def RepO (K : PySem.W.Frag) (H : Hp) (a : Addr) : MO → Prop
  | .lst ds => ∃ vs, H a = some (.lst vs) ∧ RepL K H ds vs
  | .rol ds => ∃ vs, Rd H a (.lst vs) ∧ RepL K H ds vs
def RepM (K : PySem.W.Frag) (H : Hp) (M : Mp) : Prop := ∀ a o, M a = some o → RepO K H a o
def RepS (K : PySem.W.Frag) (H : Hp) (d : DSt) (σ : L2.St) : Prop := d.length = σ.length ∧ ∀ (i : Nat) (x : D), d[i]? = some (some x) → ∃ v, σ[i]? = some (some v) ∧ Rep K H x v

/-- what a piece of code leaves alone -/
structure Prog (K : PySem.W.Frag) (H : Hp) (M : Mp) (H' : Hp) (M' : Mp) : Prop where
  keep : Keep K H H'
  fr : ∀ a o, H a = some o → M a = none → H' a = some o ∧ M' a = none
  live : ∀ a, H a ≠ none → H' a ≠ none
section
variable {K : PySem.W.Frag} {H H1 H2 H' : Hp} {M M1 M2 M' : Mp}
theorem Prog.refl : Prog K H M H M := ⟨Keep.refl H, fun _ _ h k => ⟨h, k⟩, fun _ h => h⟩
theorem Prog.trans (p : Prog K H M H1 M1) (q : Prog K H1 M1 H2 M2) : Prog K H M H2 M2 :=
  ⟨p.keep.trans q.keep, fun a o h k => let ⟨h1, k1⟩ := p.fr a o h k; q.fr a o h1 k1, fun a h => q.live a (p.live a h)⟩
theorem Prog.sub (p : Prog K H M H' M') (s : Sub M1 M') : Prog K H M H' M1 := ⟨p.keep, fun a o h k => ⟨(p.fr a o h k).1, s.none (p.fr a o h k).2⟩, p.live⟩
/-- seen from a part -/
theorem Prog.of_sub (p : Prog K H M1 H' M') (s : Sub M1 M) : Prog K H M H' M' := ⟨p.keep, fun a o h k => p.fr a o h (s.none k), p.live⟩
theorem RepM.sub (r : RepM K H M) (s : Sub M1 M) : RepM K H M1 := fun a o e => r a o (s a o e)
theorem RepM.lst {a : Addr} {ds : List D} (r : RepM K H M) (e : M a = some (.lst ds)) : ∃ vs, H a = some (.lst vs) ∧ RepL K H ds vs := r a _ e
theorem RepM.live {a : Addr} {o : MO} (r : RepM K H M) (e : M a = some o) : H a ≠ none := by
  have q := r a o e
  cases o with
  | lst ds => obtain ⟨vs, h, _⟩ := q; rw [h]; simp
  | rol ds =>
    obtain ⟨vs, h, _⟩ := q
    rcases h with h | ⟨o, h⟩ <;> (rw [h]; simp)
theorem RepM.fresh {a : Addr} (r : RepM K H M) (e : H a = none) : M a = none := by
  cases h : M a with
  | none => rfl
  | some o => exact absurd e (r.live h)
theorem Keep.new {p : Addr} {o : HO} (h : H p = none) : Keep K H (upd H p o) := fun a vs q => by
  rcases q with (q | ⟨ob, q⟩) | q
  · exact .inl (.inl (by rw [upd_ne (ne_of_none q h)]; exact q))
  · exact .inl (.inr ⟨ob, by rw [upd_ne (ne_of_none q h)]; exact q⟩)
  · exact .inr q
theorem Keep.mut {p : Addr} {xs : List V} {o : HO} (h : H p = some (.lst xs)) : Keep K H (upd H p o) := fun a vs q => by
  rcases q with (q | ⟨ob, q⟩) | q
  · exact .inl (.inl (by rw [upd_ne (ne_of q h (by simp))]; exact q))
  · exact .inl (.inr ⟨ob, by rw [upd_ne (ne_of q h (by simp))]; exact q⟩)
  · exact .inr q
theorem RepO.new {a p : Addr} {o : MO} {u : HO} (h : H p = none) (r : RepO K H a o) : RepO K (upd H p u) a o := by
  have k : Keep K H (upd H p u) := Keep.new h
  cases o with
  | lst ds =>
    obtain ⟨vs, e, q⟩ := r
    exact ⟨vs, by rw [upd_ne (ne_of_none e h)]; exact e, q.keep k⟩
  | rol ds =>
    obtain ⟨vs, e, q⟩ := r
    refine ⟨vs, ?_, q.keep k⟩
    rcases e with e | ⟨ob, e⟩
    · exact .inl (by rw [upd_ne (ne_of_none e h)]; exact e)
    · exact .inr ⟨ob, by rw [upd_ne (ne_of_none e h)]; exact e⟩
/-- a new thing that the small heap does not know (a tuple) -/
theorem RepM.new {p : Addr} {u : HO} (r : RepM K H M) (h : H p = none) : RepM K (upd H p u) M := fun a o e => RepO.new h (r a o e)
theorem Prog.new {p : Addr} {u : HO} (r : RepM K H M) (h : H p = none) : Prog K H M (upd H p u) M :=
  ⟨Keep.new h, fun a o e k => ⟨by rw [upd_ne (ne_of_none e h)]; exact e, k⟩, fun a e => by
    by_cases z : a = p
    · subst z; rw [upd_same]; simp
    · rw [upd_ne z]; exact e⟩
/-- a new list -/
theorem RepM.newL {p : Addr} {ds : List D} {vs : List V} (r : RepM K H M) (h : H p = none) (q : RepL K H ds vs) : RepM K (upd H p (.lst vs)) (put M p (.lst ds)) := fun a o e => by
  by_cases z : a = p
  · subst z
    rw [put_same] at e; cases e
    exact ⟨vs, upd_same, q.keep (Keep.new h)⟩
  · rw [put_ne z] at e
    exact RepO.new h (r a o e)
theorem Prog.newL {p : Addr} {u : HO} {o : MO} (r : RepM K H M) (h : H p = none) : Prog K H M (upd H p u) (put M p o) :=
  ⟨Keep.new h, fun a o e k => ⟨by rw [upd_ne (ne_of_none e h)]; exact e, by rw [put_ne (ne_of_none e h)]; exact k⟩, (Prog.new (M := M) r h).live⟩
/-- a list changes -/
theorem RepM.set {p : Addr} {ds es : List D} {ws : List V} (r : RepM K H M) (h : M p = some (.lst ds)) (q : RepL K H es ws) : RepM K (upd H p (.lst ws)) (put M p (.lst es)) := by
  obtain ⟨vs, hp, _⟩ := r.lst h
  have k : Keep K H (upd H p (.lst ws)) := Keep.mut hp
  intro a o e
  by_cases z : a = p
  · subst z
    rw [put_same] at e; cases e
    exact ⟨ws, upd_same, q.keep k⟩
  · rw [put_ne z] at e
    have r1 := r a o e
    cases o with
    | lst ds =>
      obtain ⟨vs, e, q⟩ := r1
      exact ⟨vs, by rw [upd_ne z]; exact e, q.keep k⟩
    | rol ds =>
      obtain ⟨vs, e, q⟩ := r1
      refine ⟨vs, ?_, q.keep k⟩
      rcases e with e | ⟨ob, e⟩
      · exact .inl (by rw [upd_ne z]; exact e)
      · exact .inr ⟨ob, by rw [upd_ne z]; exact e⟩
theorem Prog.set {p : Addr} {ds es : List D} {ws : List V} (r : RepM K H M) (h : M p = some (.lst ds)) : Prog K H M (upd H p (.lst ws)) (put M p (.lst es)) := by
  obtain ⟨vs, hp, _⟩ := r.lst h
  refine ⟨Keep.mut hp, fun a o e k => ?_, fun a e => ?_⟩
  · have z : a ≠ p := fun z => by rw [z, h] at k; cases k
    exact ⟨by rw [upd_ne z]; exact e, by rw [put_ne z]; exact k⟩
  · by_cases z : a = p
    · subst z; rw [upd_same]; simp
    · rw [upd_ne z]; exact e
theorem RepS.keep {d : DSt} {σ : L2.St} (r : RepS K H d σ) (k : Keep K H H') : RepS K H' d σ := ⟨r.1, fun i x e => let ⟨v, h1, h2⟩ := r.2 i x e; ⟨v, h1, h2.keep k⟩⟩
theorem RepS.set {d : DSt} {σ : L2.St} {x : D} {v : V} (r : RepS K H d σ) (h : Rep K H x v) (i : Nat) : RepS K H (d.set i (some x)) (σ.set i (some v)) := by
  refine ⟨by rw [List.length_set, List.length_set]; exact r.1, fun j y e => ?_⟩
  by_cases z : i = j
  · subst z
    by_cases hi : i < d.length
    · rw [List.getElem?_set_self hi] at e; cases e
      exact ⟨v, List.getElem?_set_self (by rw [← r.1]; exact hi), h⟩
    · rw [List.getElem?_eq_none (by rw [List.length_set]; omega)] at e; cases e
  · rw [List.getElem?_set_ne z] at e
    obtain ⟨w, h1, h2⟩ := r.2 j y e
    exact ⟨w, by rw [List.getElem?_set_ne z]; exact h1, h2⟩
/-- slots forgotten -/
def wipeD (d : DSt) : List Nat → DSt
  | [] => d
  | v :: vs => (wipeD d vs).set v none
theorem wipeD_length (d : DSt) : ∀ vs : List Nat, (wipeD d vs).length = d.length
  | [] => rfl
  | v :: vs => by unfold wipeD; rw [List.length_set, wipeD_length d vs]
theorem RepS.unset {d : DSt} {σ : L2.St} (r : RepS K H d σ) (i : Nat) : RepS K H (d.set i none) (σ.set i none) := by
  refine ⟨by rw [List.length_set, List.length_set]; exact r.1, fun j y e => ?_⟩
  by_cases z : i = j
  · subst z
    by_cases hi : i < d.length
    · rw [List.getElem?_set_self hi] at e; cases e
    · rw [List.getElem?_eq_none (by rw [List.length_set]; omega)] at e; cases e
  · rw [List.getElem?_set_ne z] at e
    obtain ⟨w, h1, h2⟩ := r.2 j y e
    exact ⟨w, by rw [List.getElem?_set_ne z]; exact h1, h2⟩
theorem RepS.wipe {d : DSt} {σ : L2.St} (r : RepS K H d σ) : ∀ vs : List Nat, RepS K H (wipeD d vs) (L2.wipe σ vs)
  | [] => r
  | v :: vs => by
    unfold wipeD L2.wipe
    exact (RepS.wipe r vs).unset v
end
end Pd

set_option maxHeartbeats 4000000
namespace Pd
open PySem L2

inductive Bi where
  | len | abs | int | gcd | lcm | comb | fact | tuple | list | repr | max2 | min2 | maxl | minl | suml | str
  deriving DecidableEq
inductive Ty where
  | int | bool | tuple | str | list
  deriving DecidableEq
inductive Mt where
  | append
  deriving DecidableEq

/-- expressions; argument lists (nil, cons); what a loop walks (itE .. rev) -/
inductive Px where
  | var (i : Nat) | int (i : Int) | str (x : Str) | bl (b : Bool) | non
  | bin (op : Operator) (a b : Px) | neg (a : Px)
  | cmp (op : CmpOp) (a b : Px) | chain (op op' : CmpOp) (a b c : Px)
  | and (a b : Px) | or (a b : Px) | not (a : Px) | truth (a : Px)
  | ife (c a b : Px)
  | nil | cons (e es : Px) | tup (es : Px) | lst (es : Px)
  | idx (a b : Px) | cut (a lo hi : Px) | absent | asInt (a : Px)
  | bi (f : Bi) (es : Px) | call (f : Str) (es : Px) | callK (f : Str) (is : List Nat) (es ks : Px) | isi (a : Px) (t : Ty)
  | mt (m : Mt) (o es : Px)
  | comp (own : List Nat) (tg : List Nat) (one : Bool) (it c elt : Px)
  | tcomp (own : List Nat) (tg : List Nat) (one : Bool) (it c elt : Px)
  | itE (e : Px) | rng (a b : Px) | enum (e : Px) | zip (a b : Px) | rev (e : Px)

inductive Ps where
  | skip | seq (a b : Ps)
  | asg (tg : List Nat) (one : Bool) (e : Px) | asgIx (o i e : Px)
  | par (is : List Nat) (es : Px)
  | expr (e : Px) | ret (e : Px) | ife (c : Px) (a b : Ps)
  | «while» (c : Px) (b : Ps) | «for» (tg : List Nat) (one : Bool) (it : Px) (b : Ps)
  | brk | cont | never

/-- items picked by their places -/
def pick {α : Type} (is : List Nat) (l : List α) : List α := is.filterMap fun i => l[i]?
/-- what a def promises: arguments, small heap, what is wanted of the answer -/
abbrev DSp := List D → Mp → DK → Prop

def listAt (M : Mp) (p : Addr) (ds : List D) : Prop := M p = some (.lst ds) ∨ M p = some (.rol ds)
def mulOk (a b : Int) : Prop := IntMulOk a b
def binD (op : Operator) (x y : D) (M : Mp) (Q : DK) : Prop :=
  match op, x, y with
  | .Add, .int a, .int b => Q (.int (a + b)) M
  | .Sub, .int a, .int b => Q (.int (a - b)) M
  | .Mult, .int a, .int b => IntMulOk a b ∧ Q (.int (a * b)) M
  | .FloorDiv, .int a, .int b => b ≠ 0 ∧ Q (.int (a.fdiv b)) M
  | .Mod, .int a, .int b => b ≠ 0 ∧ Q (.int (a.fmod b)) M
  | .Pow, .int a, .int b => (0 ≤ b ∧ b ≤ 1000000 ∧ a.natAbs < 2 ^ 64) ∧ Q (.int (a ^ b.toNat)) M
  | .Add, .str a, .str b => a.length + b.length ≤ sizeLine ∧ Q (.str (a ++ b)) M
  | .Add, .tup a, .tup b => a.length + b.length ≤ sizeLine ∧ Q (.tup (a ++ b)) M
  | .Add, .ref p, .ref q => ∃ a b, M p = some (.lst a) ∧ M q = some (.lst b) ∧ a.length + b.length ≤ sizeLine ∧ ∀ r, M r = none → Q (.ref r) (put M r (.lst (a ++ b)))
  | .Mult, .ref p, .int k => ∃ a, M p = some (.lst a) ∧ -(2 ^ 63) ≤ k ∧ k < 2 ^ 63 ∧ a.length * k.toNat ≤ sizeLine ∧ ∀ r, M r = none → Q (.ref r) (put M r (.lst (List.replicate k.toNat a).flatten))
  | _, _, _ => False

mutual
/-- data, with the lists read out -/
inductive Py (M : Mp) : D → PyData → Prop
  | non : Py M .non .none
  | bl (b : Bool) : Py M (.bl b) (.bool b)
  | int (i : Int) : Py M (.int i) (.int i)
  | str (x : Str) : Py M (.str x) (.str x)
  | tup {ds : List D} {ps : List PyData} : PyL M ds ps → Py M (.tup ds) (.tuple ps)
  | lst {p : Addr} {ds : List D} {ps : List PyData} : listAt M p ds → PyL M ds ps → Py M (.ref p) (.list ps)
inductive PyL (M : Mp) : List D → List PyData → Prop
  | nil : PyL M [] []
  | cons {d : D} {ds : List D} {p : PyData} {ps : List PyData} : Py M d p → PyL M ds ps → PyL M (d :: ds) (p :: ps)
end

def cmpD (op : CmpOp) (x y : D) (M : Mp) (Q : DK) : Prop :=
  match op, x, y with
  | .Eq, .int a, .int b => Q (.bl (decide (a = b))) M
  | .Eq, .str a, .str b => Q (.bl (decide (a = b))) M
  | .Eq, x, y => ∃ p q, Py M x p ∧ Py M y q ∧ SeqAt.shaped p = true ∧ SeqAt.shaped q = true ∧ Q (.bl (PyData.eqv p q)) M
  | .NotEq, .int a, .int b => Q (.bl (!decide (a = b))) M
  | .NotEq, .str a, .str b => Q (.bl (!decide (a = b))) M
  | .NotEq, x, y => ∃ p q, Py M x p ∧ Py M y q ∧ SeqAt.shaped p = true ∧ SeqAt.shaped q = true ∧ Q (.bl (!PyData.eqv p q)) M
  | .Lt, .int a, .int b => Q (.bl (decide (a < b))) M
  | .LtE, .int a, .int b => Q (.bl (decide (a ≤ b))) M
  | .Gt, .int a, .int b => Q (.bl (decide (b < a))) M
  | .GtE, .int a, .int b => Q (.bl (decide (b ≤ a))) M
  | .Is, x, .non => Q (.bl (match x with | .non => true | _ => false)) M
  | .IsNot, x, .non => Q (.bl (match x with | .non => false | _ => true)) M
  | .Is, .bl a, .bl b => Q (.bl (decide (a = b))) M
  | .IsNot, .bl a, .bl b => Q (.bl (!decide (a = b))) M
  | _, _, _ => False

def truD (x : D) (M : Mp) (Q : Bool → Mp → Prop) : Prop :=
  match x with
  | .non => Q false M
  | .bl b => Q b M
  | .int i => Q (i != 0) M
  | .str x => x.length ≤ sizeLine ∧ Q (x.length != 0) M
  | .tup ds => Q (!ds.isEmpty) M
  | .ref p => ∃ ds, listAt M p ds ∧ Q (!ds.isEmpty) M

def idxD (x y : D) (M : Mp) (Q : DK) : Prop :=
  match x, y with
  | .tup ds, .int i => ∃ d, atI ds i = some d ∧ Q d M
  | .ref p, .int i => ∃ ds d, listAt M p ds ∧ atI ds i = some d ∧ Q d M
  | .str z, .int i => ∃ c, z.length ≤ sizeLine ∧ atI z.cps.toList i = some c ∧ Q (.str ⟨#[c]⟩) M
  | _, _ => False

def cutL {α : Type} (xs : List α) (lo hi : Option Int) : List α := (xs.drop (HT.sIx xs.length 0 lo)).take (HT.sIx xs.length xs.length hi - HT.sIx xs.length 0 lo)
def partD : D → Option (Option Int)
  | .non => some none
  | .int i => some (some i)
  | _ => none
def cutD (x : D) (l h : Option Int) (M : Mp) (Q : DK) : Prop :=
  match x with
  | .tup ds => Q (.tup (cutL ds l h)) M
  | .ref p => ∃ ds, listAt M p ds ∧ ∀ r, M r = none → Q (.ref r) (put M r (.lst (cutL ds l h)))
  | .str z => z.length ≤ sizeLine ∧ Q (.str (cutS z l h)) M
  | _ => False

def biD (f : Bi) (xs : List D) (M : Mp) (Q : DK) : Prop :=
  match f, xs with
  | .len, [.tup ds] => Q (.int ds.length) M
  | .len, [.str x] => x.length ≤ sizeLine ∧ Q (.int x.length) M
  | .len, [.ref p] => ∃ ds, listAt M p ds ∧ Q (.int ds.length) M
  | .abs, [.int i] => Q (.int (if i < 0 then -i else i)) M
  | .int, [.int i] => Q (.int i) M
  | .int, [.bl b] => Q (.int (if b then 1 else 0)) M
  | .gcd, [.int a, .int b] => Q (.int ((Nat.gcd a.natAbs b.natAbs : Nat) : Int)) M
  | .lcm, [.int a, .int b] => (a.natAbs < 2 ^ 64 ∧ b.natAbs < 2 ^ 64) ∧ Q (.int ((Nat.lcm a.natAbs b.natAbs : Nat) : Int)) M
  | .comb, [.int a, .int b] => (0 ≤ a ∧ 0 ≤ b ∧ a < 2 ^ 64 ∧ b ≤ 9000) ∧ Q (.int (PySem.W.mcComb a b)) M
  | .tuple, [.tup ds] => Q (.tup ds) M
  | .tuple, [.ref p] => ∃ ds, listAt M p ds ∧ Q (.tup ds) M
  | .list, [.tup ds] => ∀ r, M r = none → Q (.ref r) (put M r (.lst ds))
  | .list, [.ref p] => ∃ ds, listAt M p ds ∧ ∀ r, M r = none → Q (.ref r) (put M r (.lst ds))
  | .repr, [x] => (match x with | .non => False | .bl _ => False | _ => True) ∧ ∃ p, Py M x p ∧ SeqAt.shaped p = true ∧ p.showable = true ∧ p.shown.length ≤ sizeLine ∧ Q (.str p.shown) M
  | .max2, [.int a, .int b] => Q (.int (if b > a then b else a)) M
  | .min2, [.int a, .int b] => Q (.int (if b < a then b else a)) M
  | .maxl, [.ref p] => ∃ ns : List Int, listAt M p (ns.map D.int) ∧ 0 < ns.length ∧ ∀ m ∈ ns, (∀ k ∈ ns, k ≤ m) → Q (.int m) M
  | .minl, [.ref p] => ∃ ns : List Int, listAt M p (ns.map D.int) ∧ 0 < ns.length ∧ ∀ m ∈ ns, (∀ k ∈ ns, m ≤ k) → Q (.int m) M
  | .suml, [.ref p] => ∃ ns : List Int, listAt M p (ns.map D.int) ∧ Q (.int ns.sum) M
  | _, _ => False

def isiD (x : D) (t : Ty) (M : Mp) (Q : DK) : Prop :=
  match t, x with
  | .int, .int _ => Q (.bl true) M
  | .int, .bl _ => Q (.bl true) M
  | .int, .tup _ => Q (.bl false) M
  | .int, .str _ => Q (.bl false) M
  | .int, .non => Q (.bl false) M
  | .bool, .bl _ => Q (.bl true) M
  | .bool, .int _ => Q (.bl false) M
  | .bool, .tup _ => Q (.bl false) M
  | .bool, .str _ => Q (.bl false) M
  | .bool, .non => Q (.bl false) M
  | .tuple, .tup _ => Q (.bl true) M
  | .tuple, .int _ => Q (.bl false) M
  | .tuple, .str _ => Q (.bl false) M
  | .tuple, .non => Q (.bl false) M
  | .tuple, .bl _ => Q (.bl false) M
  | .str, .str _ => Q (.bl true) M
  | .str, .int _ => Q (.bl false) M
  | .str, .tup _ => Q (.bl false) M
  | .str, .non => Q (.bl false) M
  | _, _ => False

def recvOk (m : Mt) (x : D) (M : Mp) : Prop :=
  match m, x with
  | .append, .ref p => ∃ ds, M p = some (.lst ds)
  | _, _ => False
def mtD (m : Mt) (x : D) (xs : List D) (M : Mp) (Q : DK) : Prop :=
  match m, x, xs with
  | .append, .ref p, [d] => ∃ ds, M p = some (.lst ds) ∧ ds.length < sizeLine ∧ Q .non (put M p (.lst (ds ++ [d])))
  | _, _, _ => False

abbrev Nx := Nat → Mp → Option (Option D)
def itemsAt (M : Mp) : D → Option (List D)
  | .tup ds => some ds
  | .ref p => (match M p with
    | some (.lst ds) => some ds
    | some (.rol ds) => some ds
    | none => none)
  | _ => none
def nSeq (d : D) : Nx := fun i M => match d with
  | .str x => some (x.cps.toList[i]?.map fun c => .str ⟨#[c]⟩)
  | d => (itemsAt M d).map fun ds => ds[i]?
def nRng (a b : Int) : Nx := fun i _ => some (if i < (b - a).toNat then some (.int (a + i)) else none)
def nEnum (d : D) : Nx := fun i M => (itemsAt M d).map fun ds => ds[i]?.map fun x => .tup [.int i, x]
def nZip (d e : D) : Nx := fun i M => match itemsAt M d, itemsAt M e with
  | some ds, some es => some (match ds[i]?, es[i]? with
    | some x, some y => some (.tup [x, y])
    | _, _ => none)
  | _, _ => none
def nRev (d : D) (n : Nat) : Nx := fun i M => if i < n then (itemsAt M d).bind fun ds => ds[n - 1 - i]?.map some else some none
/-- what may be walked -/
def itOk (M : Mp) : D → Prop
  | .tup _ => True
  | .str _ => True
  | .ref p => ∃ ds, listAt M p ds
  | _ => False
def zipOk (M : Mp) : D → D → Prop
  | .tup _, .tup _ => True
  | .ref p, .ref q => (∃ ds, listAt M p ds) ∧ ∃ es, listAt M q es
  | _, _ => False
def enumOk (M : Mp) : D → Prop
  | .tup _ => True
  | .ref p => ∃ ds, listAt M p ds
  | _ => False

/-- a target: one name, or a tuple of names -/
def setAll : List Nat → List D → DSt → Option DSt
  | [], [], σ => some σ
  | i :: is, d :: ds, σ => setAll is ds (σ.set i (some d))
  | _, _, _ => none
def bindT (tg : List Nat) (one : Bool) (d : D) (σ : DSt) : Option DSt :=
  match one, tg, d with
  | true, [i], d => some (σ.set i (some d))
  | false, tg, .tup ds => setAll tg ds σ
  | _, _, _ => none

structure DE where
  nx : DSt → Mp → Prop
  rt : DK
  bk : DSt → Mp → Prop
  ct : DSt → Mp → Prop

/-- a comprehension's turns from i on, k at most -/
def compN (we wc : DSt → Mp → DK → Prop) (tg : List Nat) (one : Bool) (nx : Nx) (σ : DSt) (Q : List D → Mp → Prop) : Nat → Nat → List D → Mp → Prop
  | 0, _, _, _ => False
  | k + 1, i, acc, M => match nx i M with
    | none => False
    | some none => Q acc M
    | some (some x) => ∃ σ', bindT tg one x σ = some σ' ∧ wc σ' M fun b M1 => (b = .bl true ∧ we σ' M1 fun d M2 => acc.length < sizeLine ∧ ∃ M3, Sub M3 M2 ∧ compN we wc tg one nx σ Q k (i + 1) (acc ++ [d]) M3) ∨
        (b = .bl false ∧ ∃ M3, Sub M3 M1 ∧ compN we wc tg one nx σ Q k (i + 1) acc M3)

/-- a loop's turns -/
def forN (wb : DE → DSt → Mp → Prop) (tg : List Nat) (one : Bool) (nx : Nx) (E : DE) : Nat → Nat → DSt → Mp → Prop
  | 0, _, _, _ => False
  | k + 1, i, σ, M => match nx i M with
    | none => False
    | some none => E.nx σ M
    | some (some x) => ∃ σ', bindT tg one x σ = some σ' ∧
        wb ⟨fun σ2 M2 => ∃ M3, Sub M3 M2 ∧ forN wb tg one nx E k (i + 1) σ2 M3, E.rt, E.nx, fun σ2 M2 => ∃ M3, Sub M3 M2 ∧ forN wb tg one nx E k (i + 1) σ2 M3⟩ σ' M
def whileN (wc : DSt → Mp → DK → Prop) (wb : DE → DSt → Mp → Prop) (E : DE) : Nat → DSt → Mp → Prop
  | 0, _, _ => False
  | k + 1, σ, M => wc σ M fun b M1 => (b = .bl true ∧ wb ⟨fun σ2 M2 => ∃ M3, Sub M3 M2 ∧ whileN wc wb E k σ2 M3, E.rt, E.nx, fun σ2 M2 => ∃ M3, Sub M3 M2 ∧ whileN wc wb E k σ2 M3⟩ σ M1) ∨ (b = .bl false ∧ E.nx σ M1)

section
variable (G : Str → DSp)
mutual
def wE : Px → DSt → Mp → DK → Prop
  | .var i, σ, M, Q => ∃ d, σ[i]? = some (some d) ∧ Q d M
  | .int i, _, M, Q => Q (.int i) M
  | .str x, _, M, Q => Q (.str x) M
  | .bl b, _, M, Q => Q (.bl b) M
  | .non, _, M, Q => Q .non M
  | .bin op a b, σ, M, Q => wE a σ M fun x M1 => wE b σ M1 fun y M2 => binD op x y M2 Q
  | .neg a, σ, M, Q => wE a σ M fun x M1 => ∃ i, x = .int i ∧ Q (.int (-i)) M1
  | .cmp op a b, σ, M, Q => wE a σ M fun x M1 => wE b σ M1 fun y M2 => cmpD op x y M2 Q
  | .chain op op' a b c, σ, M, Q => wE a σ M fun x M1 => wE b σ M1 fun y M2 => cmpD op x y M2 fun t M3 => (t = .bl true ∧ wE c σ M3 fun z M4 => cmpD op' y z M4 fun t' M5 => ∃ k, t' = .bl k ∧ Q (.bl k) M5) ∨ (t = .bl false ∧ Q (.bl false) M3)
  | .and a b, σ, M, Q => wE a σ M fun x M1 => (x = .bl true ∧ wE b σ M1 fun y M2 => ∃ k, y = .bl k ∧ Q (.bl k) M2) ∨ (x = .bl false ∧ Q (.bl false) M1)
  | .or a b, σ, M, Q => wE a σ M fun x M1 => (x = .bl true ∧ Q (.bl true) M1) ∨ (x = .bl false ∧ wE b σ M1 fun y M2 => ∃ k, y = .bl k ∧ Q (.bl k) M2)
  | .not a, σ, M, Q => wE a σ M fun x M1 => ∃ k, x = .bl k ∧ Q (.bl (!k)) M1
  | .truth a, σ, M, Q => wE a σ M fun x M1 => truD x M1 fun k M2 => Q (.bl k) M2
  | .ife c a b, σ, M, Q => wE c σ M fun x M1 => (x = .bl true ∧ wE a σ M1 Q) ∨ (x = .bl false ∧ wE b σ M1 Q)
  | .nil, _, M, Q => Q (.tup []) M
  | .cons e es, σ, M, Q => wE e σ M fun x M1 => wE es σ M1 fun y M2 => ∃ ds, y = .tup ds ∧ Q (.tup (x :: ds)) M2
  | .tup es, σ, M, Q => wE es σ M fun y M1 => ∃ ds, y = .tup ds ∧ ds.length ≤ sizeLine ∧ Q (.tup ds) M1
  | .lst es, σ, M, Q => wE es σ M fun y M1 => ∃ ds, y = .tup ds ∧ ds.length ≤ sizeLine ∧ ∀ p, M1 p = none → Q (.ref p) (put M1 p (.lst ds))
  | .idx a b, σ, M, Q => wE a σ M fun x M1 => wE b σ M1 fun y M2 => idxD x y M2 Q
  | .cut a lo hi, σ, M, Q => wE a σ M fun x M1 => wE lo σ M1 fun l M2 => ∃ l', partD l = some l' ∧ wE hi σ M2 fun h M3 => ∃ h', partD h = some h' ∧ cutD x l' h' M3 Q
  | .absent, _, M, Q => Q .non M
  | .asInt a, σ, M, Q => wE a σ M fun x M1 => ∃ i, x = .int i ∧ Q (.int i) M1
  | .bi f es, σ, M, Q => wE es σ M fun y M1 => ∃ ds, y = .tup ds ∧ biD f ds M1 Q
  | .call f es, σ, M, Q => wE es σ M fun y M1 => ∃ ds, y = .tup ds ∧ ∃ R : DK, G f ds M1 R ∧ ∀ d M2, R d M2 → Q d M2
  | .callK f is es ks, σ, M, Q => wE es σ M fun y M1 => ∃ as, y = .tup as ∧ wE ks σ M1 fun z M2 => ∃ bs, z = .tup bs ∧ ∃ R : DK, G f (pick is (as ++ bs)) M2 R ∧ ∀ d M3, R d M3 → Q d M3
  | .isi a t, σ, M, Q => wE a σ M fun x M1 => isiD x t M1 Q
  | .mt m o es, σ, M, Q => wE o σ M fun x M1 => recvOk m x M1 ∧ wE es σ M1 fun y M2 => ∃ ds, y = .tup ds ∧ mtD m x ds M2 Q
  | .comp own tg one it c elt, σ, M, Q => wI it σ M fun nx M1 => ∃ k, compN (wE elt) (wE c) tg one nx (wipeD σ own) (fun acc M2 => ∀ p, M2 p = none → Q (.ref p) (put M2 p (.lst acc))) k 0 [] M1
  | .tcomp own tg one it c elt, σ, M, Q => wI it σ M fun nx M1 => ∃ k, compN (wE elt) (wE c) tg one nx (wipeD σ own) (fun acc M2 => Q (.tup acc) M2) k 0 [] M1
  | .itE _, _, _, _ => False
  | .rng _ _, _, _, _ => False
  | .enum _, _, _, _ => False
  | .zip _ _, _, _, _ => False
  | .rev _, _, _, _ => False
def wI : Px → DSt → Mp → (Nx → Mp → Prop) → Prop
  | .itE e, σ, M, R => wE e σ M fun d M1 => itOk M1 d ∧ R (nSeq d) M1
  | .rng a b, σ, M, R => wE a σ M fun x M1 => wE b σ M1 fun y M2 => ∃ i j : Int, x = .int i ∧ y = .int j ∧ (-(2 ^ 62) ≤ i ∧ i < 2 ^ 62 ∧ -(2 ^ 62) ≤ j ∧ j < 2 ^ 62) ∧ R (nRng i j) M2
  | .enum e, σ, M, R => wE e σ M fun d M1 => enumOk M1 d ∧ R (nEnum d) M1
  | .zip a b, σ, M, R => wE a σ M fun x M1 => wE b σ M1 fun y M2 => zipOk M2 x y ∧ R (nZip x y) M2
  | .rev e, σ, M, R => wE e σ M fun d M1 => ∃ ds, itemsAt M1 d = some ds ∧ R (nRev d ds.length) M1
  | _, _, _, _ => False
end
def wS : Ps → DE → DSt → Mp → Prop
  | .skip, E, σ, M => E.nx σ M
  | .seq a b, E, σ, M => wS a { E with nx := wS b E } σ M
  | .asg tg one e, E, σ, M => wE G e σ M fun d M1 => ∃ σ', bindT tg one d σ = some σ' ∧ E.nx σ' M1
  | .asgIx o i e, E, σ, M => wE G e σ M fun d M1 => wE G o σ M1 fun x M2 => wE G i σ M2 fun y M3 => ∃ p ds k j, x = .ref p ∧ y = .int k ∧ M3 p = some (.lst ds) ∧ ixN ds.length k = some j ∧ E.nx σ (put M3 p (.lst (ds.set j d)))
  | .par is es, E, σ, M => wE G es σ M fun y M1 => ∃ ds σ', y = .tup ds ∧ setAll is ds σ = some σ' ∧ E.nx σ' M1
  | .expr e, E, σ, M => wE G e σ M fun _ M1 => E.nx σ M1
  | .ret e, E, σ, M => wE G e σ M E.rt
  | .ife c a b, E, σ, M => wE G c σ M fun x M1 => (x = .bl true ∧ wS a E σ M1) ∨ (x = .bl false ∧ wS b E σ M1)
  | .while c b, E, σ, M => ∃ k, whileN (wE G c) (wS b) E k σ M
  | .for tg one it b, E, σ, M => wI G it σ M fun nx M1 => ∃ k, forN (wS b) tg one nx E k 0 σ M1
  | .brk, E, σ, M => E.bk σ M
  | .cont, E, σ, M => E.ct σ M
  | .never, _, _, _ => False
end
/-- a def's body: n names, the parameters first; what is left over is forgotten at the end -/
def wBody (G : Str → DSp) (b : Ps) (n : Nat) (args : List D) (M : Mp) (Q : DK) : Prop :=
  wS G b ⟨fun _ M' => ∃ M2, Sub M2 M' ∧ Q .non M2, fun d M' => ∃ M2, Sub M2 M' ∧ Q d M2, fun _ _ => False, fun _ _ => False⟩ (args.map some ++ List.replicate (n - args.length) none) M
end Pd

set_option maxHeartbeats 4000000
namespace Pd
open PySem L2

def ixOf : List Str → Str → Option Nat
  | [], _ => none
  | y :: ys, x => if y = x then some 0 else (ixOf ys x).map (· + 1)
theorem ixOf_get : ∀ {N : List Str} {x : Str} {i : Nat}, ixOf N x = some i → N[i]? = some x
  | [], _, _, h => by cases h
  | y :: ys, x, i, h => by
    unfold ixOf at h
    by_cases e : y = x
    · rw [if_pos e] at h; cases h; rw [e]; rfl
    · rw [if_neg e] at h
      cases q : ixOf ys x with
      | none => rw [q] at h; cases h
      | some j =>
        rw [q] at h; cases h
        show ys[j]? = some x
        exact ixOf_get q

def isLoc (sc : Scope) (x : Str) : Bool := match sc.names.lookup x with
  | some .local => true
  | some .cell => true
  | _ => false
def isVis (sc : Scope) (x : Str) : Bool := match sc.names.lookup x with
  | some .local => true
  | some .cell => true
  | some .free => true
  | _ => false
def isGl (sc : Scope) (x : Str) : Bool := match sc.names.lookup x with
  | some .globalImplicit => true
  | _ => false
def isPlain (sc : Scope) (x : Str) : Bool := match sc.names.lookup x with
  | some .local => true
  | _ => false

/-- the built-in functions by name, with the number of their arguments -/
def biOf (mth : List Str) (f : Str) (n : Nat) : Option Bi :=
  if f = "len" then (if n = 1 then some .len else none)
  else if f = "abs" then (if n = 1 then some .abs else none)
  else if f = "int" then (if n = 1 then some .int else none)
  else if f = "tuple" then (if n = 1 then some .tuple else none)
  else if f = "list" then (if n = 1 then some .list else none)
  else if f = "repr" then (if n = 1 then some .repr else none)
  else if f = "max" then (if n = 2 then some .max2 else if n = 1 then some .maxl else none)
  else if f = "min" then (if n = 2 then some .min2 else if n = 1 then some .minl else none)
  else if f = "sum" then (if n = 1 then some .suml else none)
  else if f = "gcd" then (if (decide (n = 2) && mth.contains "gcd") = true then some .gcd else none)
  else if f = "comb" then (if (decide (n = 2) && mth.contains "comb") = true then some .comb else none)
  else if f = "lcm" then (if (decide (n = 2) && mth.contains "lcm") = true then some .lcm else none)
  else none
def tyOf (f : Str) : Option Ty :=
  if f = "int" then some .int else if f = "bool" then some .bool else if f = "tuple" then some .tuple else if f = "str" then some .str else none
def opOk : Operator → Bool
  | .Add | .Sub | .Mult | .FloorDiv | .Mod | .Pow => true
  | _ => false
def cmpOk : CmpOp → Bool
  | .Eq | .NotEq | .Lt | .LtE | .Gt | .GtE => true
  | _ => false
def names : List Expr → Option (List Str)
  | [] => some []
  | .Name x _ :: es => (names es).map (x :: ·)
  | _ => none
def ixs (N : List Str) : List Str → Option (List Nat)
  | [] => some []
  | x :: xs => match ixOf N x, ixs N xs with
    | some i, some is => some (i :: is)
    | _, _ => none
/-- a target's names -/
def tgNames : Expr → Option (Bool × List Str)
  | .Name x _ => some (true, [x])
  | .Tuple es _ _ => match names es with
    | some xs => some (false, xs)
    | none => none
  | _ => none
/-- the own names of a comprehension's block, with their places -/
def ownOf (N : List Str) : List (Str × NameKind) → List (Str × Nat)
  | [] => []
  | (x, k) :: r => match k with
    | .local => (match ixOf N x with
      | some i => (x, i) :: ownOf N r
      | none => ownOf N r)
    | .cell => (match ixOf N x with
      | some i => (x, i) :: ownOf N r
      | none => ownOf N r)
    | _ => ownOf N r

def notCall : Expr → Bool
  | .Call _ _ _ _ => false
  | _ => true
def needTup : Px → Bool
  | .enum _ => true
  | .zip _ _ => true
  | _ => false
/-- which defs are known, with their parameters -/
abbrev Sig := List (Str × List Str × List (Nat × List Str))
def permOf (ps : List Str) (n : Nat) (ks : List Str) : Option (List Nat) := if n + ks.length = ps.length then ixs (ps.take n ++ ks) ps else none
def kwNames : List Keyword → Option (List Str)
  | [] => some []
  | ⟨some x, _, _⟩ :: r => (kwNames r).map (x :: ·)
  | _ => none

section
variable (N : List Str) (sg : Sig) (mth : List Str)
mutual
/-- an expression -/
def cE : Nat → Scope → Expr → Option Px
  | 0, _, _ => none
  | n + 1, sc, e => match e with
    | .Name x _ => if isVis sc x && !decide (x = "__debug__") && !decide (x = "__classdict__") then (ixOf N x).map .var else none
    | .Constant c _ _ => (match c with
      | .int i => some (.int i)
      | .str x => some (.str x)
      | .bool b => some (.bl b)
      | .none => some .non
      | _ => none)
    | .BinOp a op b _ => if opOk op then (match cE n sc a, cE n sc b with
      | some pa, some pb => some (.bin op pa pb)
      | _, _ => none) else none
    | .UnaryOp .USub a _ => (match cE n sc a with
      | some pa => some (.neg pa)
      | none => none)
    | .UnaryOp .Not a _ => (match cE n sc a with
      | some pa => some (.not (.truth pa))
      | none => none)
    | .Compare a [.Is] [.Constant .none _ _] _ => (match cE n sc a with
      | some pa => some (.cmp .Is pa .non)
      | none => none)
    | .Compare a [.IsNot] [.Constant .none _ _] _ => (match cE n sc a with
      | some pa => some (.cmp .IsNot pa .non)
      | none => none)
    | .Compare a [op] [b] _ => if cmpOk op then (match cE n sc a, cE n sc b with
      | some pa, some pb => some (.cmp op pa pb)
      | _, _ => none) else none
    | .Compare a [op, op'] [b, c] _ => if cmpOk op && cmpOk op' then (match cE n sc a, cE n sc b, cE n sc c with
      | some pa, some pb, some pc => some (.chain op op' pa pb pc)
      | _, _, _ => none) else none
    | .BoolOp .And (a :: es) pos => (match es with
      | [] => cE n sc a
      | _ :: _ => (match cE n sc a, cE n sc (.BoolOp .And es pos) with
        | some pa, some pb => some (.and pa pb)
        | _, _ => none))
    | .BoolOp .Or (a :: es) pos => (match es with
      | [] => cE n sc a
      | _ :: _ => (match cE n sc a, cE n sc (.BoolOp .Or es pos) with
        | some pa, some pb => some (.or pa pb)
        | _, _ => none))
    | .IfExp c a b _ => (match cT n sc c, cE n sc a, cE n sc b with
      | some pc, some pa, some pb => some (.ife pc pa pb)
      | _, _, _ => none)
    | .Tuple es _ _ => (match cA n sc es with
      | some ps => some (.tup ps)
      | none => none)
    | .List es _ => (match cA n sc es with
      | some ps => some (.lst ps)
      | none => none)
    | .Subscript a (.Slice lo hi none _) _ => (match cE n sc a, cO n sc lo, cO n sc hi with
      | some pa, some pl, some ph => some (.cut pa pl ph)
      | _, _, _ => none)
    | .Subscript a (.Slice _ _ (some _) _) _ => none
    | .Subscript a b _ => (match cE n sc a, cE n sc b with
      | some pa, some pb => some (.idx pa pb)
      | _, _ => none)
    | .Call (.Name f _) args kws _ =>
      if isGl sc f && !decide (f = "__debug__") then
        (match sg.lookup f with
        | some (ps, sh) => (match kws with
          | [] => (match args with
            | a :: as => if (a :: as).length = ps.length then (match cA n sc (a :: as) with
              | some pa => some (.call f pa)
              | none => none) else none
            | [] => none)
          | k :: ks => (match kwNames (k :: ks) with
            | some xs => if sh.contains (args.length, xs) then (match permOf ps args.length xs, cA n sc args, cA n sc ((k :: ks).map (·.value)) with
              | some is, some pa, some pk => some (.callK f is pa pk)
              | _, _, _ => none) else none
            | none => none))
        | none => (match args, kws with
          | a :: as, [] =>
            if f = "isinstance" then (match as with
              | [.Name t _] => if isGl sc t && (sg.lookup t).isNone then (match tyOf t, cE n sc a with
                | some ty, some pa => some (.isi pa ty)
                | _, _ => none) else none
              | _ => none)
            else (match biOf mth f (a :: as).length, cA n sc (a :: as) with
              | some b, some pa => some (match b, pa with
                | .tuple, .cons (.comp own tg one it c el) .nil => .tcomp own tg one it c el
                | b, pa => .bi b pa)
              | _, _ => none)
          | _, _ => none))
      else none
    | .Call (.Attribute o m apos) [a] [] cpos => if m = "append" && apos.endLine == cpos.line && notCall o then (match cE n sc o, cA n sc [a] with
      | some po, some pa => some (.mt .append po pa)
      | _, _ => none) else none
    | .ListComp elt [⟨tg, iter, ifs, 0⟩] scope _ =>
      (match tgNames tg, cI n sc iter, cE n (relS scope sc) elt with
      | some (one, xs), some pit, some pe =>
        if (!needTup pit || !one) && blkC N sc scope (ownOf N scope.names) && xs.all (isLoc scope) && xs.all (isLoc (relS scope sc)) then
          (match ixs N xs, (match ifs with
            | [] => some (Px.bl true)
            | [c] => cT n (relS scope sc) c
            | _ => none) with
          | some tgx, some pc => if tgx.all (fun i => ((ownOf N scope.names).map (·.2)).contains i) then some (.comp ((ownOf N scope.names).map (·.2)) tgx one pit pc pe) else none
          | _, _ => none)
        else none
      | _, _, _ => none)
    | _ => none
/-- a test -/
def cT : Nat → Scope → Expr → Option Px
  | 0, _, _ => none
  | n + 1, sc, e => match e with
    | .UnaryOp .Not a _ => (match cT n sc a with
      | some pa => some (.not pa)
      | none => none)
    | .BoolOp .And (a :: es) pos => (match es with
      | [] => cT n sc a
      | _ :: _ => (match cT n sc a, cT n sc (.BoolOp .And es pos) with
        | some pa, some pb => some (.and pa pb)
        | _, _ => none))
    | .BoolOp .Or (a :: es) pos => (match es with
      | [] => cT n sc a
      | _ :: _ => (match cT n sc a, cT n sc (.BoolOp .Or es pos) with
        | some pa, some pb => some (.or pa pb)
        | _, _ => none))
    | .BoolOp _ [] _ => none
    | .IfExp _ _ _ _ => none
    | .Compare a ops bs pos => cE n sc (.Compare a ops bs pos)
    | e => (match cE n sc e with
      | some p => some (.truth p)
      | none => none)
/-- arguments -/
def cA : Nat → Scope → List Expr → Option Px
  | 0, _, _ => none
  | n + 1, sc, es => match es with
    | [] => some .nil
    | e :: r => (match cE n sc e, cA n sc r with
      | some p, some q => some (.cons p q)
      | _, _ => none)
/-- a slice's part -/
def cO : Nat → Scope → Option Expr → Option Px
  | 0, _, _ => none
  | n + 1, sc, o => match o with
    | none => some .absent
    | some e => (match cE n sc e with
      | some p => some (.asInt p)
      | none => none)
/-- what a loop walks -/
def cI : Nat → Scope → Expr → Option Px
  | 0, _, _ => none
  | n + 1, sc, e => match e with
    | .Call (.Name f _) args [] _ => if isGl sc f && (sg.lookup f).isNone then
        (match args with
        | [a] => if f = "range" then (match cE n sc a with
            | some p => some (.rng (.int 0) p)
            | none => none)
          else if f = "enumerate" then (match cE n sc a with
            | some p => some (.enum p)
            | none => none)
          else if f = "reversed" then (match cE n sc a with
            | some p => some (.rev p)
            | none => none)
          else (match cE n sc e with
            | some p => some (.itE p)
            | none => none)
        | [a, b] => if f = "range" then (match cE n sc a, cE n sc b with
            | some p, some q => some (.rng p q)
            | _, _ => none)
          else if f = "zip" then (match cE n sc a, cE n sc b with
            | some p, some q => some (.zip p q)
            | _, _ => none)
          else none
        | _ => none)
      else (match cE n sc e with
        | some p => some (.itE p)
        | none => none)
    | e => (match cE n sc e with
      | some p => some (.itE p)
      | none => none)
end
end
end Pd

set_option maxHeartbeats 4000000
namespace Pd
open PySem L2
section
variable {Q Q' : DK} {M : Mp}
theorem binD_mono {op : Operator} {x y : D} (h : ∀ d M', Q d M' → Q' d M') (k : binD op x y M Q) : binD op x y M Q' := by
  unfold binD at k ⊢
  split at k
  · exact h _ _ k
  · exact h _ _ k
  · exact ⟨k.1, h _ _ k.2⟩
  · exact ⟨k.1, h _ _ k.2⟩
  · exact ⟨k.1, h _ _ k.2⟩
  · exact ⟨k.1, h _ _ k.2⟩
  · exact ⟨k.1, h _ _ k.2⟩
  · exact ⟨k.1, h _ _ k.2⟩
  · obtain ⟨a, b, h1, h2, h3, h4⟩ := k
    exact ⟨a, b, h1, h2, h3, fun r e => h _ _ (h4 r e)⟩
  · obtain ⟨a, h1, h2, h3, h4, h5⟩ := k
    exact ⟨a, h1, h2, h3, h4, fun r e => h _ _ (h5 r e)⟩
  · exact k
theorem cmpD_mono {op : CmpOp} {x y : D} (h : ∀ d M', Q d M' → Q' d M') (k : cmpD op x y M Q) : cmpD op x y M Q' := by
  unfold cmpD at k ⊢
  split at k <;> first
    | exact h _ _ k
    | (obtain ⟨p, q, h1, h2, h3, h4, h5⟩ := k; exact ⟨p, q, h1, h2, h3, h4, h _ _ h5⟩)
    | exact k
theorem truD_mono {x : D} {R R' : Bool → Mp → Prop} (h : ∀ d M', R d M' → R' d M') (k : truD x M R) : truD x M R' := by
  unfold truD at k ⊢
  split at k <;> first
    | exact h _ _ k
    | exact ⟨k.1, h _ _ k.2⟩
    | (obtain ⟨ds, h1, h2⟩ := k; exact ⟨ds, h1, h _ _ h2⟩)
theorem idxD_mono {x y : D} (h : ∀ d M', Q d M' → Q' d M') (k : idxD x y M Q) : idxD x y M Q' := by
  unfold idxD at k ⊢
  split at k
  · obtain ⟨d, h1, h2⟩ := k; exact ⟨d, h1, h _ _ h2⟩
  · obtain ⟨ds, d, h1, h2, h3⟩ := k; exact ⟨ds, d, h1, h2, h _ _ h3⟩
  · obtain ⟨c, h1, h2, h3⟩ := k; exact ⟨c, h1, h2, h _ _ h3⟩
  · exact k
theorem cutD_mono {x : D} {l u : Option Int} (h : ∀ d M', Q d M' → Q' d M') (k : cutD x l u M Q) : cutD x l u M Q' := by
  unfold cutD at k ⊢
  split at k
  · exact h _ _ k
  · obtain ⟨ds, h3, h4⟩ := k; exact ⟨ds, h3, fun r e => h _ _ (h4 r e)⟩
  · exact ⟨k.1, h _ _ k.2⟩
  · exact k
theorem biD_mono {f : Bi} {xs : List D} (h : ∀ d M', Q d M' → Q' d M') (k : biD f xs M Q) : biD f xs M Q' := by
  unfold biD at k ⊢
  split at k <;> first
    | exact h _ _ k
    | exact ⟨k.1, h _ _ k.2⟩
    | (obtain ⟨ds, h1, h2⟩ := k; exact ⟨ds, h1, h _ _ h2⟩)
    | exact fun r e => h _ _ (k r e)
    | (obtain ⟨ds, h1, h2⟩ := k; exact ⟨ds, h1, fun r e => h _ _ (h2 r e)⟩)
    | (obtain ⟨ns, h1, h2, h3⟩ := k; exact ⟨ns, h1, h2, fun m hm hk => h _ _ (h3 m hm hk)⟩)
    | (obtain ⟨h0, p, h1, h2, h3, h4, h5⟩ := k; exact ⟨h0, p, h1, h2, h3, h4, h _ _ h5⟩)
    | exact k
theorem isiD_mono {x : D} {t : Ty} (h : ∀ d M', Q d M' → Q' d M') (k : isiD x t M Q) : isiD x t M Q' := by
  unfold isiD at k ⊢
  split at k <;> first | exact h _ _ k | exact k
theorem mtD_mono {m : Mt} {x : D} {xs : List D} (h : ∀ d M', Q d M' → Q' d M') (k : mtD m x xs M Q) : mtD m x xs M Q' := by
  unfold mtD at k ⊢
  split at k
  · obtain ⟨ds, h1, h2, h3⟩ := k; exact ⟨ds, h1, h2, h _ _ h3⟩
  · exact k
theorem compN_mono {we wc : DSt → Mp → DK → Prop} {tg : List Nat} {one : Bool} {nx : Nx} {σ : DSt} {R R' : List D → Mp → Prop}
    (h : ∀ ds M', R ds M' → R' ds M') (he : ∀ σ M Q Q', (∀ d M', Q d M' → Q' d M') → we σ M Q → we σ M Q') (hc : ∀ σ M Q Q', (∀ d M', Q d M' → Q' d M') → wc σ M Q → wc σ M Q') :
    ∀ (k i : Nat) (acc : List D) (M : Mp), compN we wc tg one nx σ R k i acc M → compN we wc tg one nx σ R' k i acc M
  | 0, _, _, _, z => z
  | k + 1, i, acc, M, z => by
    unfold compN at z ⊢
    split at z
    · exact z
    · exact h _ _ z
    · obtain ⟨σ', h1, z⟩ := z
      refine ⟨σ', h1, hc _ _ _ _ (fun b M1 z => ?_) z⟩
      rcases z with ⟨hb, z⟩ | ⟨hb, M3, s, z⟩
      · refine .inl ⟨hb, he _ _ _ _ (fun d M2 z => ?_) z⟩
        obtain ⟨z1, M3, s, z⟩ := z
        exact ⟨z1, M3, s, compN_mono h he hc k _ _ _ z⟩
      · exact .inr ⟨hb, M3, s, compN_mono h he hc k _ _ _ z⟩
end
section
variable {G : Str → DSp}
theorem wE_mono_both : ∀ e : Px, (∀ (σ : DSt) (M : Mp) (Q Q' : DK), (∀ d M', Q d M' → Q' d M') → wE G e σ M Q → wE G e σ M Q') ∧
    (∀ (σ : DSt) (M : Mp) (R R' : Nx → Mp → Prop), (∀ d M', R d M' → R' d M') → wI G e σ M R → wI G e σ M R') := by
  intro e
  induction e with
  | var i =>
    refine ⟨fun σ M Q Q' h k => ?_, fun _ _ _ _ _ k => by unfold wI at k; exact k.elim⟩
    unfold wE at k ⊢
    obtain ⟨d, h1, h2⟩ := k
    exact ⟨d, h1, h _ _ h2⟩
  | int i => exact ⟨fun σ M Q Q' h k => by unfold wE at k ⊢; exact h _ _ k, fun _ _ _ _ _ k => by unfold wI at k; exact k.elim⟩
  | str i => exact ⟨fun σ M Q Q' h k => by unfold wE at k ⊢; exact h _ _ k, fun _ _ _ _ _ k => by unfold wI at k; exact k.elim⟩
  | bl i => exact ⟨fun σ M Q Q' h k => by unfold wE at k ⊢; exact h _ _ k, fun _ _ _ _ _ k => by unfold wI at k; exact k.elim⟩
  | non => exact ⟨fun σ M Q Q' h k => by unfold wE at k ⊢; exact h _ _ k, fun _ _ _ _ _ k => by unfold wI at k; exact k.elim⟩
  | nil => exact ⟨fun σ M Q Q' h k => by unfold wE at k ⊢; exact h _ _ k, fun _ _ _ _ _ k => by unfold wI at k; exact k.elim⟩
  | absent => exact ⟨fun σ M Q Q' h k => by unfold wE at k ⊢; exact h _ _ k, fun _ _ _ _ _ k => by unfold wI at k; exact k.elim⟩
  | bin op a b ha hb =>
    refine ⟨fun σ M Q Q' h k => ?_, fun _ _ _ _ _ k => by unfold wI at k; exact k.elim⟩
    unfold wE at k ⊢
    exact ha.1 _ _ _ _ (fun x M1 k => hb.1 _ _ _ _ (fun y M2 k => binD_mono h k) k) k
  | neg a ha =>
    refine ⟨fun σ M Q Q' h k => ?_, fun _ _ _ _ _ k => by unfold wI at k; exact k.elim⟩
    unfold wE at k ⊢
    exact ha.1 _ _ _ _ (fun x M1 ⟨i, h1, h2⟩ => ⟨i, h1, h _ _ h2⟩) k
  | asInt a ha =>
    refine ⟨fun σ M Q Q' h k => ?_, fun _ _ _ _ _ k => by unfold wI at k; exact k.elim⟩
    unfold wE at k ⊢
    exact ha.1 _ _ _ _ (fun x M1 ⟨i, h1, h2⟩ => ⟨i, h1, h _ _ h2⟩) k
  | cmp op a b ha hb =>
    refine ⟨fun σ M Q Q' h k => ?_, fun _ _ _ _ _ k => by unfold wI at k; exact k.elim⟩
    unfold wE at k ⊢
    exact ha.1 _ _ _ _ (fun x M1 k => hb.1 _ _ _ _ (fun y M2 k => cmpD_mono h k) k) k
  | chain op op' a b c ha hb hc =>
    refine ⟨fun σ M Q Q' h k => ?_, fun _ _ _ _ _ k => by unfold wI at k; exact k.elim⟩
    unfold wE at k ⊢
    refine ha.1 _ _ _ _ (fun x M1 k => hb.1 _ _ _ _ (fun y M2 k => cmpD_mono (fun t M3 k => ?_) k) k) k
    rcases k with ⟨e, k⟩ | ⟨e, k⟩
    · exact .inl ⟨e, hc.1 _ _ _ _ (fun z M4 k => cmpD_mono (fun t' M5 ⟨b, e, k⟩ => ⟨b, e, h _ _ k⟩) k) k⟩
    · exact .inr ⟨e, h _ _ k⟩
  | and a b ha hb =>
    refine ⟨fun σ M Q Q' h k => ?_, fun _ _ _ _ _ k => by unfold wI at k; exact k.elim⟩
    unfold wE at k ⊢
    refine ha.1 _ _ _ _ (fun x M1 k => ?_) k
    rcases k with ⟨e, k⟩ | ⟨e, k⟩
    · exact .inl ⟨e, hb.1 _ _ _ _ (fun z M4 ⟨b, e, k⟩ => ⟨b, e, h _ _ k⟩) k⟩
    · exact .inr ⟨e, h _ _ k⟩
  | or a b ha hb =>
    refine ⟨fun σ M Q Q' h k => ?_, fun _ _ _ _ _ k => by unfold wI at k; exact k.elim⟩
    unfold wE at k ⊢
    refine ha.1 _ _ _ _ (fun x M1 k => ?_) k
    rcases k with ⟨e, k⟩ | ⟨e, k⟩
    · exact .inl ⟨e, h _ _ k⟩
    · exact .inr ⟨e, hb.1 _ _ _ _ (fun z M4 ⟨b, e, k⟩ => ⟨b, e, h _ _ k⟩) k⟩
  | not a ha =>
    refine ⟨fun σ M Q Q' h k => ?_, fun _ _ _ _ _ k => by unfold wI at k; exact k.elim⟩
    unfold wE at k ⊢
    exact ha.1 _ _ _ _ (fun x M1 ⟨i, h1, h2⟩ => ⟨i, h1, h _ _ h2⟩) k
  | truth a ha =>
    refine ⟨fun σ M Q Q' h k => ?_, fun _ _ _ _ _ k => by unfold wI at k; exact k.elim⟩
    unfold wE at k ⊢
    exact ha.1 _ _ _ _ (fun x M1 k => truD_mono (fun d M' k => h _ _ k) k) k
  | ife c a b hc ha hb =>
    refine ⟨fun σ M Q Q' h k => ?_, fun _ _ _ _ _ k => by unfold wI at k; exact k.elim⟩
    unfold wE at k ⊢
    refine hc.1 _ _ _ _ (fun x M1 k => ?_) k
    rcases k with ⟨e, k⟩ | ⟨e, k⟩
    · exact .inl ⟨e, ha.1 _ _ _ _ h k⟩
    · exact .inr ⟨e, hb.1 _ _ _ _ h k⟩
  | cons a b ha hb =>
    refine ⟨fun σ M Q Q' h k => ?_, fun _ _ _ _ _ k => by unfold wI at k; exact k.elim⟩
    unfold wE at k ⊢
    exact ha.1 _ _ _ _ (fun x M1 k => hb.1 _ _ _ _ (fun y M2 ⟨ds, e, k⟩ => ⟨ds, e, h _ _ k⟩) k) k
  | tup a ha =>
    refine ⟨fun σ M Q Q' h k => ?_, fun _ _ _ _ _ k => by unfold wI at k; exact k.elim⟩
    unfold wE at k ⊢
    exact ha.1 _ _ _ _ (fun x M1 ⟨ds, e, z, k⟩ => ⟨ds, e, z, h _ _ k⟩) k
  | lst a ha =>
    refine ⟨fun σ M Q Q' h k => ?_, fun _ _ _ _ _ k => by unfold wI at k; exact k.elim⟩
    unfold wE at k ⊢
    exact ha.1 _ _ _ _ (fun x M1 ⟨ds, e, z, k⟩ => ⟨ds, e, z, fun p n => h _ _ (k p n)⟩) k
  | idx a b ha hb =>
    refine ⟨fun σ M Q Q' h k => ?_, fun _ _ _ _ _ k => by unfold wI at k; exact k.elim⟩
    unfold wE at k ⊢
    exact ha.1 _ _ _ _ (fun x M1 k => hb.1 _ _ _ _ (fun y M2 k => idxD_mono h k) k) k
  | cut a b c ha hb hc =>
    refine ⟨fun σ M Q Q' h k => ?_, fun _ _ _ _ _ k => by unfold wI at k; exact k.elim⟩
    unfold wE at k ⊢
    exact ha.1 _ _ _ _ (fun x M1 k => hb.1 _ _ _ _ (fun y M2 ⟨l, e, k⟩ => ⟨l, e, hc.1 _ _ _ _ (fun z M3 ⟨u, e, k⟩ => ⟨u, e, cutD_mono h k⟩) k⟩) k) k
  | bi f a ha =>
    refine ⟨fun σ M Q Q' h k => ?_, fun _ _ _ _ _ k => by unfold wI at k; exact k.elim⟩
    unfold wE at k ⊢
    exact ha.1 _ _ _ _ (fun x M1 ⟨ds, e, k⟩ => ⟨ds, e, biD_mono h k⟩) k
  | call f a ha =>
    refine ⟨fun σ M Q Q' h k => ?_, fun _ _ _ _ _ k => by unfold wI at k; exact k.elim⟩
    unfold wE at k ⊢
    exact ha.1 _ _ _ _ (fun x M1 ⟨ds, e, R, k, k2⟩ => ⟨ds, e, R, k, fun d M2 r => h _ _ (k2 d M2 r)⟩) k
  | callK f is a b ha hb =>
    refine ⟨fun σ M Q Q' h k => ?_, fun _ _ _ _ _ k => by unfold wI at k; exact k.elim⟩
    unfold wE at k ⊢
    exact ha.1 _ _ _ _ (fun x M1 ⟨as, e, k⟩ => ⟨as, e, hb.1 _ _ _ _ (fun y M2 ⟨bs, e2, R, k, k2⟩ => ⟨bs, e2, R, k, fun d M2 r => h _ _ (k2 d M2 r)⟩) k⟩) k
  | isi a t ha =>
    refine ⟨fun σ M Q Q' h k => ?_, fun _ _ _ _ _ k => by unfold wI at k; exact k.elim⟩
    unfold wE at k ⊢
    exact ha.1 _ _ _ _ (fun x M1 k => isiD_mono h k) k
  | mt m a b ha hb =>
    refine ⟨fun σ M Q Q' h k => ?_, fun _ _ _ _ _ k => by unfold wI at k; exact k.elim⟩
    unfold wE at k ⊢
    exact ha.1 _ _ _ _ (fun x M1 k => ⟨k.1, hb.1 _ _ _ _ (fun y M2 ⟨ds, e, k⟩ => ⟨ds, e, mtD_mono h k⟩) k.2⟩) k
  | comp own tg one it c el hit hc hel =>
    refine ⟨fun σ M Q Q' h k => ?_, fun _ _ _ _ _ k => by unfold wI at k; exact k.elim⟩
    unfold wE at k ⊢
    refine hit.2 _ _ _ _ (fun nx M1 ⟨n, k⟩ => ⟨n, compN_mono (fun ds M2 k p e => h _ _ (k p e)) hel.1 hc.1 _ _ _ _ k⟩) k
  | tcomp own tg one it c el hit hc hel =>
    refine ⟨fun σ M Q Q' h k => ?_, fun _ _ _ _ _ k => by unfold wI at k; exact k.elim⟩
    unfold wE at k ⊢
    refine hit.2 _ _ _ _ (fun nx M1 ⟨n, k⟩ => ⟨n, compN_mono (fun ds M2 k => h _ _ k) hel.1 hc.1 _ _ _ _ k⟩) k
  | itE a ha =>
    refine ⟨fun _ _ _ _ _ k => by unfold wE at k; exact k.elim, fun σ M R R' h k => ?_⟩
    unfold wI at k ⊢
    exact ha.1 _ _ _ _ (fun x M1 k => ⟨k.1, h _ _ k.2⟩) k
  | rng a b ha hb =>
    refine ⟨fun _ _ _ _ _ k => by unfold wE at k; exact k.elim, fun σ M R R' h k => ?_⟩
    unfold wI at k ⊢
    exact ha.1 _ _ _ _ (fun x M1 k => hb.1 _ _ _ _ (fun y M2 ⟨i, j, e1, e2, e3, k⟩ => ⟨i, j, e1, e2, e3, h _ _ k⟩) k) k
  | enum a ha =>
    refine ⟨fun _ _ _ _ _ k => by unfold wE at k; exact k.elim, fun σ M R R' h k => ?_⟩
    unfold wI at k ⊢
    exact ha.1 _ _ _ _ (fun x M1 k => ⟨k.1, h _ _ k.2⟩) k
  | zip a b ha hb =>
    refine ⟨fun _ _ _ _ _ k => by unfold wE at k; exact k.elim, fun σ M R R' h k => ?_⟩
    unfold wI at k ⊢
    exact ha.1 _ _ _ _ (fun x M1 k => hb.1 _ _ _ _ (fun y M2 k => ⟨k.1, h _ _ k.2⟩) k) k
  | rev a ha =>
    refine ⟨fun _ _ _ _ _ k => by unfold wE at k; exact k.elim, fun σ M R R' h k => ?_⟩
    unfold wI at k ⊢
    exact ha.1 _ _ _ _ (fun x M1 ⟨ds, e, k⟩ => ⟨ds, e, h _ _ k⟩) k
theorem wE_mono {e : Px} {σ : DSt} {M : Mp} {Q Q' : DK} (h : ∀ d M', Q d M' → Q' d M') (k : wE G e σ M Q) : wE G e σ M Q' := (wE_mono_both e).1 σ M Q Q' h k
theorem wI_mono {e : Px} {σ : DSt} {M : Mp} {R R' : Nx → Mp → Prop} (h : ∀ d M', R d M' → R' d M') (k : wI G e σ M R) : wI G e σ M R' := (wE_mono_both e).2 σ M R R' h k
/-- ends, weakened -/
structure DE.Le (E E' : DE) : Prop where
  nx : ∀ σ M, E.nx σ M → E'.nx σ M
  rt : ∀ d M, E.rt d M → E'.rt d M
  bk : ∀ σ M, E.bk σ M → E'.bk σ M
  ct : ∀ σ M, E.ct σ M → E'.ct σ M
theorem forN_mono {wb : DE → DSt → Mp → Prop} {tg : List Nat} {one : Bool} {nx : Nx} {E E' : DE} (h : E.Le E') (hb : ∀ E E' σ M, DE.Le E E' → wb E σ M → wb E' σ M) :
    ∀ (k i : Nat) (σ : DSt) (M : Mp), forN wb tg one nx E k i σ M → forN wb tg one nx E' k i σ M
  | 0, _, _, _, z => z
  | k + 1, i, σ, M, z => by
    unfold forN at z ⊢
    split at z
    · exact z
    · exact h.nx _ _ z
    · obtain ⟨σ', h1, z⟩ := z
      refine ⟨σ', h1, hb _ _ _ _ ?_ z⟩
      exact { nx := fun σ2 M2 z => let ⟨M3, s, z⟩ := z; ⟨M3, s, forN_mono h hb k _ _ _ z⟩, rt := h.rt, bk := h.nx, ct := fun σ2 M2 z => let ⟨M3, s, z⟩ := z; ⟨M3, s, forN_mono h hb k _ _ _ z⟩ }
theorem whileN_mono {wc : DSt → Mp → DK → Prop} {wb : DE → DSt → Mp → Prop} {E E' : DE} (h : E.Le E') (hc : ∀ σ M Q Q', (∀ d M', Q d M' → Q' d M') → wc σ M Q → wc σ M Q') (hb : ∀ E E' σ M, DE.Le E E' → wb E σ M → wb E' σ M) :
    ∀ (k : Nat) (σ : DSt) (M : Mp), whileN wc wb E k σ M → whileN wc wb E' k σ M
  | 0, _, _, z => z
  | k + 1, σ, M, z => by
    unfold whileN at z ⊢
    refine hc _ _ _ _ (fun b M1 z => ?_) z
    rcases z with ⟨e, z⟩ | ⟨e, z⟩
    · refine .inl ⟨e, hb _ _ _ _ ?_ z⟩
      exact { nx := fun σ2 M2 z => let ⟨M3, s, z⟩ := z; ⟨M3, s, whileN_mono h hc hb k _ _ z⟩, rt := h.rt, bk := h.nx, ct := fun σ2 M2 z => let ⟨M3, s, z⟩ := z; ⟨M3, s, whileN_mono h hc hb k _ _ z⟩ }
    · exact .inr ⟨e, h.nx _ _ z⟩
theorem wS_mono : ∀ (s : Ps) {E E' : DE} {σ : DSt} {M : Mp}, E.Le E' → wS G s E σ M → wS G s E' σ M
  | .skip, _, _, _, _, h, k => by unfold wS at k ⊢; exact h.nx _ _ k
  | .seq a b, E, E', _, _, h, k => by
    unfold wS at k ⊢
    exact wS_mono a (E := { E with nx := wS G b E }) (E' := { E' with nx := wS G b E' }) ⟨fun σ M k => wS_mono b h k, h.rt, h.bk, h.ct⟩ k
  | .asg tg one e, _, _, _, _, h, k => by
    unfold wS at k ⊢
    exact wE_mono (fun d M1 ⟨σ', e1, k⟩ => ⟨σ', e1, h.nx _ _ k⟩) k
  | .asgIx o i e, _, _, _, _, h, k => by
    unfold wS at k ⊢
    exact wE_mono (fun d M1 k => wE_mono (fun x M2 k => wE_mono (fun y M3 ⟨p, ds, kk, j, h1, h2, h3, h4, k⟩ => ⟨p, ds, kk, j, h1, h2, h3, h4, h.nx _ _ k⟩) k) k) k
  | .par is es, _, _, _, _, h, k => by
    unfold wS at k ⊢
    exact wE_mono (fun d M1 ⟨ds, σ', e0, e1, k⟩ => ⟨ds, σ', e0, e1, h.nx _ _ k⟩) k
  | .expr e, _, _, _, _, h, k => by
    unfold wS at k ⊢
    exact wE_mono (fun d M1 k => h.nx _ _ k) k
  | .ret e, _, _, _, _, h, k => by
    unfold wS at k ⊢
    exact wE_mono (fun d M1 k => h.rt _ _ k) k
  | .ife c a b, _, _, _, _, h, k => by
    unfold wS at k ⊢
    refine wE_mono (fun x M1 k => ?_) k
    rcases k with ⟨e, k⟩ | ⟨e, k⟩
    · exact .inl ⟨e, wS_mono a h k⟩
    · exact .inr ⟨e, wS_mono b h k⟩
  | .while c b, _, _, _, _, h, k => by
    unfold wS at k ⊢
    obtain ⟨n, k⟩ := k
    exact ⟨n, whileN_mono (wc := wE G c) (wb := wS G b) h (fun σ M Q Q' h k => wE_mono h k) (fun E E' σ M h k => wS_mono b h k) _ _ _ k⟩
  | .for tg one it b, _, _, _, _, h, k => by
    unfold wS at k ⊢
    exact wI_mono (fun nx M1 ⟨n, k⟩ => ⟨n, forN_mono (wb := wS G b) h (fun E E' σ M h k => wS_mono b h k) _ _ _ _ k⟩) k
  | .brk, _, _, _, _, h, k => by unfold wS at k ⊢; exact h.bk _ _ k
  | .cont, _, _, _, _, h, k => by unfold wS at k ⊢; exact h.ct _ _ k
  | .never, _, _, _, _, h, k => by unfold wS at k; exact k.elim
end
end Pd

set_option maxHeartbeats 4000000
namespace Pd
open PySem PySem.Spec L2

/-- what is wanted, as the hand layer wants it -/
def want (K : PySem.W.Frag) (H : Hp) (M : Mp) (Q : VK) : DK := fun d M' => ∀ H' v, Prog K H M H' M' → Rep K H' d v → RepM K H' M' → Q v H'
theorem want.at {K : PySem.W.Frag} {H H1 : Hp} {M M1 : Mp} {Q : VK} {d : D} {M' : Mp} (p : Prog K H M H1 M1) (h : want K H M Q d M') : want K H1 M1 Q d M' := fun H' v q r m => h H' v (p.trans q) r m
theorem want.now {K : PySem.W.Frag} {H : Hp} {M : Mp} {Q : VK} {d : D} {v : V} (h : want K H M Q d M) (r : Rep K H d v) (m : RepM K H M) : Q v H := h H v .refl r m

theorem SqL.live {K : PySem.W.Frag} {H : Hp} {a : Addr} {vs : List V} (h : Rd H a (.lst vs)) : SqL K H a vs := .inl h
theorem listAt.sq {K : PySem.W.Frag} {H : Hp} {M : Mp} {p : Addr} {ds : List D} (m : RepM K H M) (h : listAt M p ds) : ∃ vs, Rd H p (.lst vs) ∧ RepL K H ds vs := by
  rcases h with h | h
  · obtain ⟨vs, e, r⟩ := m.lst h
    exact ⟨vs, .inl e, r⟩
  · obtain ⟨vs, e, r⟩ := m _ _ h
    exact ⟨vs, e, r⟩
mutual
theorem Rep.dp {K : PySem.W.Frag} {H : Hp} {M : Mp} (m : RepM K H M) : ∀ {p : PyData} {d : D} {v : V}, Py M d p → Rep K H d v → Dp K H v p
  | _, _, _, .non, r => by rw [rep_non.mp r]; exact .non
  | _, _, _, .bl b, r => by rw [rep_bl.mp r]; exact .bl b
  | _, _, _, .int i, r => by rw [rep_int.mp r]; exact .int i
  | _, _, _, .str x, r => by rw [rep_str.mp r]; exact .str x
  | _, _, _, .tup h, r => by
    obtain ⟨a, vs, rfl, q, rl⟩ := rep_tup.mp r
    exact .tup q (RepL.dp m h rl)
  | _, _, _, .lst l h, r => by
    rw [rep_ref.mp r]
    obtain ⟨vs, q, rl⟩ := l.sq m
    exact .lst (.inl q) (RepL.dp m h rl)
theorem RepL.dp {K : PySem.W.Frag} {H : Hp} {M : Mp} (m : RepM K H M) : ∀ {ps : List PyData} {ds : List D} {vs : List V}, PyL M ds ps → RepL K H ds vs → DpAll K H vs ps
  | _, _, _, .nil, r => by rw [repL_nil.mp r]; exact .nil
  | _, _, _, .cons h t, r => by
    obtain ⟨w, ws, rfl, r1, r2⟩ := repL_cons.mp r
    exact .cons (Rep.dp m h r1) (RepL.dp m t r2)
end

/-- what every body of the walk knows of where it stands -/
structure Here (X : Cx) : Prop where
  calm : X.calm = true
  ns : X.base.NoSeer
  gu : X.A.guards = some []
  fr : ∃ env l, X.stack = env :: l ∧ env.scope.isGenerator = false ∧ env.scope.isCoroutine = false ∧ env.builtins = builtinsNs ∧ env.globals = mainGlobals
  tree : X.prog.given.tree = none
  room : Room 0 X.A

section
variable {X : Cx} {pins : List (Addr × Obj)} {σ : L2.St} {H : Hp} {s : Shared}
theorem Here.pylong (h : Here X) (I : Inv X pins σ H s) (hd : X.A.depth + Builtin.pylongFrames < recursionLimit) : PySem.PylongRoom (model X.prog X.w) X.A s := by
  obtain ⟨env, l, e, g1, g2, g3, g4⟩ := h.fr
  have n : s.heap.NoSeer := h.ns.keeps I.bk
  exact PySem.PylongRoom.of I.nolimit hd (PySem.SeerAt.of n h.tree (by rw [I.ok.frames, e]) g1 g2 g3 g4)
end

section
variable {X : Cx}
theorem bin_ok (h : Here X) (hd : X.A.depth + Builtin.pylongFrames < recursionLimit) (op : Operator) :
    OpR X (binaryOp op) (fun vx vy H Q => ∃ x y M, Rep X.K H x vx ∧ Rep X.K H y vy ∧ RepM X.K H M ∧ binD op x y M (want X.K H M Q)) := by
  intro pins s σ H vx vy v u Q I rx ry z
  obtain ⟨x, y, M, hx, hy, m, z⟩ := z
  unfold binD at z
  split at z
  · rw [rep_int] at hx hy; subst hx hy
    exact op_add pins s σ H _ _ v u Q I rx ry ⟨_, _, rfl, rfl, z.now (rep_int.mpr rfl) m⟩
  · rw [rep_int] at hx hy; subst hx hy
    exact op_sub pins s σ H _ _ v u Q I rx ry ⟨_, _, rfl, rfl, z.now (rep_int.mpr rfl) m⟩
  · rw [rep_int] at hx hy; subst hx hy
    obtain ⟨t, rfl⟩ := rx
    obtain ⟨t', rfl⟩ := ry
    exact PyProof.Rows.mul_int ⟨.int _, H, I.tok _, ⟨_, rfl⟩, z.2.now (rep_int.mpr rfl) m⟩ z.1
  · rw [rep_int] at hx hy; subst hx hy
    obtain ⟨t, rfl⟩ := rx
    obtain ⟨t', rfl⟩ := ry
    exact PyProof.Rows.floordiv_int z.1 ⟨.int _, H, I.tok _, ⟨_, rfl⟩, z.2.now (rep_int.mpr rfl) m⟩ (.inr (h.pylong I hd))
  · rw [rep_int] at hx hy; subst hx hy
    exact op_modN pins s σ H _ _ v u Q I rx ry ⟨_, _, rfl, rfl, z.1, z.2.now (rep_int.mpr rfl) m⟩
  · rw [rep_int] at hx hy; subst hx hy
    exact op_pow pins s σ H _ _ v u Q I rx ry ⟨_, _, rfl, rfl, z.1, z.2.now (rep_int.mpr rfl) m⟩
  · rw [rep_str] at hx hy; subst hx hy
    exact op_add_str pins s σ H _ _ v u Q I rx ry ⟨_, _, rfl, rfl, z.1, z.2.now (rep_str.mpr rfl) m⟩
  · obtain ⟨a, vs, rfl, qa, ra⟩ := rep_tup.mp hx
    obtain ⟨b, ws, rfl, qb, rb⟩ := rep_tup.mp hy
    refine op_catA pins s σ H _ _ v u Q I rx ry ⟨a, b, vs, ws, rfl, rfl, qa, qb, by rw [← ra.length, ← rb.length]; exact z.1, fun e => ?_, fun _ e => ?_, fun _ _ p np => ?_⟩
    · subst e
      have e1 := ra.length
      rename_i xs ys
      have e2 : xs = [] := List.eq_nil_of_length_eq_zero (by simpa using e1)
      subst e2
      exact z.2.now (rep_tup.mpr ⟨b, ws, rfl, qb, rb⟩) m
    · subst e
      have e1 := rb.length
      rename_i xs ys _
      have e2 : ys = [] := List.eq_nil_of_length_eq_zero (by simpa using e1)
      subst e2
      exact z.2.now (rep_tup.mpr ⟨a, vs, rfl, qa, by rw [List.append_nil]; exact ra⟩) m
    · have k : Keep X.K H (upd H p (.tup (vs ++ ws))) := Keep.new np
      exact z.2 _ _ (Prog.new m np) (rep_tup.mpr ⟨p, _, rfl, .inl (.inl upd_same), (ra.append rb).keep k⟩) (m.new np)
  · rw [rep_ref] at hx hy; subst hx hy
    obtain ⟨a, b, h1, h2, hz, q⟩ := z
    obtain ⟨vs, e1, r1⟩ := m.lst h1
    obtain ⟨ws, e2, r2⟩ := m.lst h2
    refine op_cat pins s σ H _ _ v u Q I rx ry ⟨_, _, vs, ws, rfl, rfl, e1, e2, by rw [← r1.length, ← r2.length]; exact hz, fun p np => ?_⟩
    exact q p (m.fresh np) _ _ (Prog.newL m np) (rep_ref.mpr rfl) (m.newL np (r1.append r2))
  · rw [rep_ref] at hx; rw [rep_int] at hy; subst hx hy
    obtain ⟨a, h1, k1, k2, hz, q⟩ := z
    obtain ⟨vs, e1, r1⟩ := m.lst h1
    refine op_rep pins s σ H _ _ v u Q I rx ry ⟨_, _, vs, rfl, rfl, e1, k1, k2, by rw [← r1.length]; exact hz, fun p np => ?_⟩
    have rr : ∀ n : Nat, RepL X.K H (List.replicate n a).flatten (List.replicate n vs).flatten := fun n => by
      induction n with
      | zero => exact repL_nil.mpr rfl
      | succ n ih =>
        rw [List.replicate_succ, List.replicate_succ, List.flatten_cons, List.flatten_cons]
        exact r1.append ih
    exact q p (m.fresh np) _ _ (Prog.newL m np) (rep_ref.mpr rfl) (m.newL np (rr _))
  · exact z.elim

theorem cmp_ok (h : Here X) (op : CmpOp) :
    OpR X (compareOp op) (fun vx vy H Q => ∃ x y M, Rep X.K H x vx ∧ Rep X.K H y vy ∧ RepM X.K H M ∧ cmpD op x y M (want X.K H M Q)) := by
  intro pins s σ H vx vy v u Q I rx ry z
  obtain ⟨x, y, M, hx, hy, m, z⟩ := z
  have hu : X.A.units + 64 < cLine := h.room.units
  unfold cmpD at z
  split at z
  · rw [rep_int] at hx hy; subst hx hy
    refine op_eq pins s σ H _ _ v u Q I rx ry ⟨rfl, ?_⟩
    rw [dec_int]
    exact z.now (rep_bl.mpr (by rw [Bool.beq_eq_decide_eq])) m
  · rw [rep_str] at hx hy; subst hx hy
    refine op_eq pins s σ H _ _ v u Q I rx ry ⟨rfl, ?_⟩
    rw [dec_str]
    exact z.now (rep_bl.mpr (by rw [Bool.beq_eq_decide_eq])) m
  · obtain ⟨p, q, h1, h2, h3, h4, z⟩ := z
    exact op_eqD hu pins s σ H _ _ v u Q I rx ry ⟨p, q, hx.dp m h1, hy.dp m h2, h3, h4, z.now (rep_bl.mpr rfl) m⟩
  · rw [rep_int] at hx hy; subst hx hy
    refine op_ne pins s σ H _ _ v u Q I rx ry ⟨rfl, ?_⟩
    rw [dec_int]
    exact z.now (rep_bl.mpr (by rw [Bool.beq_eq_decide_eq])) m
  · rw [rep_str] at hx hy; subst hx hy
    refine op_ne pins s σ H _ _ v u Q I rx ry ⟨rfl, ?_⟩
    rw [dec_str]
    exact z.now (rep_bl.mpr (by rw [Bool.beq_eq_decide_eq])) m
  · obtain ⟨p, q, h1, h2, h3, h4, z⟩ := z
    exact op_neD hu pins s σ H _ _ v u Q I rx ry ⟨p, q, hx.dp m h1, hy.dp m h2, h3, h4, z.now (rep_bl.mpr rfl) m⟩
  · rw [rep_int] at hx hy; subst hx hy
    exact op_lt pins s σ H _ _ v u Q I rx ry ⟨_, _, rfl, rfl, z.now (rep_bl.mpr rfl) m⟩
  · rw [rep_int] at hx hy; subst hx hy
    exact op_le pins s σ H _ _ v u Q I rx ry ⟨_, _, rfl, rfl, z.now (rep_bl.mpr rfl) m⟩
  · rw [rep_int] at hx hy; subst hx hy
    exact op_gt pins s σ H _ _ v u Q I rx ry ⟨_, _, rfl, rfl, z.now (rep_bl.mpr rfl) m⟩
  · rw [rep_int] at hx hy; subst hx hy
    exact op_ge pins s σ H _ _ v u Q I rx ry ⟨_, _, rfl, rfl, z.now (rep_bl.mpr rfl) m⟩
  · rw [rep_non] at hy; subst hy
    refine op_isN pins s σ H _ _ v u Q I rx ry ⟨rfl, ?_⟩
    refine z.now ?_ m
    cases x with
    | non => rw [rep_non] at hx; subst hx; exact rep_bl.mpr rfl
    | bl b => rw [rep_bl] at hx; subst hx; exact rep_bl.mpr rfl
    | int b => rw [rep_int] at hx; subst hx; exact rep_bl.mpr rfl
    | str b => rw [rep_str] at hx; subst hx; exact rep_bl.mpr rfl
    | ref b => rw [rep_ref] at hx; subst hx; exact rep_bl.mpr rfl
    | tup b => obtain ⟨a, vs, rfl, _⟩ := rep_tup.mp hx; exact rep_bl.mpr rfl
  · rw [rep_non] at hy; subst hy
    refine op_notN pins s σ H _ _ v u Q I rx ry ⟨rfl, ?_⟩
    refine z.now ?_ m
    cases x with
    | non => rw [rep_non] at hx; subst hx; exact rep_bl.mpr rfl
    | bl b => rw [rep_bl] at hx; subst hx; exact rep_bl.mpr rfl
    | int b => rw [rep_int] at hx; subst hx; exact rep_bl.mpr rfl
    | str b => rw [rep_str] at hx; subst hx; exact rep_bl.mpr rfl
    | ref b => rw [rep_ref] at hx; subst hx; exact rep_bl.mpr rfl
    | tup b => obtain ⟨a, vs, rfl, _⟩ := rep_tup.mp hx; exact rep_bl.mpr rfl
  · rw [rep_bl] at hx hy; subst hx hy
    exact op_isBl pins s σ H _ _ v u Q I rx ry ⟨_, _, rfl, rfl, z.now (rep_bl.mpr rfl) m⟩
  · rw [rep_bl] at hx hy; subst hx hy
    exact op_notBl pins s σ H _ _ v u Q I rx ry ⟨_, _, rfl, rfl, z.now (rep_bl.mpr rfl) m⟩
  · exact z.elim

theorem RepL.empty {K : PySem.W.Frag} {H : Hp} {ds : List D} {vs : List V} (r : RepL K H ds vs) : ds.isEmpty = vs.isEmpty := by
  cases ds with
  | nil => rw [repL_nil.mp r]; rfl
  | cons d ds => obtain ⟨w, ws, rfl, _, _⟩ := repL_cons.mp r; rfl
/-- a truth, as the hand layer tells it -/
theorem tru_of {K : PySem.W.Frag} {H : Hp} {M : Mp} {x : D} {v : V} {R : Bool → Mp → Prop} (r : Rep K H x v) (m : RepM K H M) (z : truD x M R) : ∃ k, TruV K v H k ∧ R k M := by
  unfold truD at z
  split at z
  · rw [rep_non] at r; subst r; exact ⟨false, rfl, z⟩
  · rw [rep_bl] at r; subst r; exact ⟨_, rfl, z⟩
  · rw [rep_int] at r; subst r; exact ⟨_, rfl, z⟩
  · rw [rep_str] at r; subst r
    exact ⟨_, ⟨z.1, rfl⟩, by
      have e := z.2
      rename_i y
      have q : ((y.length : Int) != 0) = (y.length != 0) := by
        by_cases h : y.length = 0
        · rw [h]; rfl
        · have h1 : (y.length != 0) = true := by simpa using h
          have h2 : ((y.length : Int) != 0) = true := by simpa using h
          rw [h1, h2]
      rw [q]; exact e⟩
  · obtain ⟨a, vs, rfl, q, rl⟩ := rep_tup.mp r
    exact ⟨_, .inr (.inl ⟨vs, q, rfl⟩), by rw [← rl.empty]; exact z⟩
  · rw [rep_ref] at r; subst r
    obtain ⟨ds, l, z⟩ := z
    obtain ⟨vs, q, rl⟩ := l.sq m
    exact ⟨_, .inl ⟨vs, .inl q, rfl⟩, by rw [← rl.empty]; exact z⟩
theorem RepL.atI {K : PySem.W.Frag} {H : Hp} {ds : List D} {vs : List V} {i : Int} {d : D} (r : RepL K H ds vs) (e : L2.atI ds i = some d) : ∃ v, L2.atI vs i = some v ∧ Rep K H d v := by
  unfold L2.atI at e ⊢
  rw [← r.length]
  cases q : ixN ds.length i with
  | none => rw [q] at e; cases e
  | some j =>
    rw [q] at e
    exact r.get e
theorem idx_ok : IxR X (fun vx vy H Q => ∃ x y M, Rep X.K H x vx ∧ Rep X.K H y vy ∧ RepM X.K H M ∧ idxD x y M (want X.K H M Q)) := by
  intro value slice pins s σ H vx vy v u Q I rx ry z hs
  obtain ⟨x, y, M, hx, hy, m, z⟩ := z
  unfold idxD at z
  split at z
  · rw [rep_int] at hy; subst hy
    obtain ⟨d, e, z⟩ := z
    obtain ⟨a, vs, rfl, q, rl⟩ := rep_tup.mp hx
    obtain ⟨w, e2, rw⟩ := rl.atI e
    exact ix_tup value slice pins s σ H _ _ v u Q I rx ry ⟨a, vs, _, w, rfl, rfl, q, e2, z.now rw m⟩ hs
  · rw [rep_int] at hy; subst hy
    rw [rep_ref] at hx; subst hx
    obtain ⟨ds, d, l, e, z⟩ := z
    obtain ⟨vs, q, rl⟩ := l.sq m
    obtain ⟨w, e2, rw⟩ := rl.atI e
    exact ix_list value slice pins s σ H _ _ v u Q I rx ry ⟨_, vs, _, w, rfl, rfl, .inl q, e2, z.now rw m⟩ hs
  · rw [rep_int] at hy; subst hy
    rw [rep_str] at hx; subst hx
    obtain ⟨c, hz, e, z⟩ := z
    exact ix_str value slice pins s σ H _ _ v u Q I rx ry ⟨_, _, c, rfl, rfl, hz, e, z.now (rep_str.mpr rfl) m⟩ hs
  · exact z.elim
theorem RepL.cut {K : PySem.W.Frag} {H : Hp} {ds : List D} {vs : List V} (r : RepL K H ds vs) (l h : Option Int) : RepL K H (cutL ds l h) (cutV vs l h) := by
  unfold cutL cutV
  rw [← r.length]
  exact (r.drop _).take _
theorem cutL_all {α : Type} {xs : List α} {l h : Option Int} (e : HT.sIx xs.length 0 l = 0 ∧ HT.sIx xs.length xs.length h = xs.length) : cutL xs l h = xs := by
  unfold cutL
  rw [e.1, e.2, List.drop_zero, Nat.sub_zero, List.take_length]
theorem cut_ok : SlR X (fun vx l h H Q => ∃ x M, Rep X.K H x vx ∧ RepM X.K H M ∧ cutD x l h M (want X.K H M Q)) := by
  intro pins s σ H vx v vl vu lo hi sl Q I rx hs pl pu z
  obtain ⟨x, M, hx, m, z⟩ := z
  unfold cutD at z
  split at z
  · obtain ⟨a, vs, rfl, q, rl⟩ := rep_tup.mp hx
    refine sl_tupA pins s σ H _ v vl vu lo hi sl Q I rx hs pl pu ⟨a, vs, rfl, q, fun e => ?_, fun _ p np => ?_⟩
    · rw [← rl.length] at e
      rw [cutL_all e] at z
      exact z.now (rep_tup.mpr ⟨a, vs, rfl, q, rl⟩) m
    · exact z _ _ (Prog.new m np) (rep_tup.mpr ⟨p, _, rfl, .inl (.inl upd_same), (rl.cut lo hi).keep (Keep.new np)⟩) (m.new np)
  · rw [rep_ref] at hx; subst hx
    obtain ⟨ds, l, z⟩ := z
    obtain ⟨vs, q, rl⟩ := l.sq m
    exact sl_list pins s σ H _ v vl vu lo hi sl Q I rx hs pl pu ⟨_, vs, rfl, .inl q, fun p np => z p (m.fresh np) _ _ (Prog.newL m np) (rep_ref.mpr rfl) (m.newL np (rl.cut lo hi))⟩
  · rw [rep_str] at hx; subst hx
    exact sl_str pins s σ H _ v vl vu lo hi sl Q I rx hs pl pu ⟨_, rfl, z.1, z.2.now (rep_str.mpr rfl) m⟩
  · exact z.elim
end
end Pd

set_option maxHeartbeats 4000000
namespace Pd
open PySem PySem.Spec L2

theorem RepL.ints {K : PySem.W.Frag} {H : Hp} : ∀ {ns : List Int} {vs : List V}, RepL K H (ns.map D.int) vs → vs = ns.map V.int
  | [], vs, r => by rw [repL_nil.mp r]; rfl
  | n :: ns, vs, r => by
    obtain ⟨w, ws, rfl, r1, r2⟩ := repL_cons.mp r
    rw [rep_int.mp r1, RepL.ints r2]; rfl
theorem repL_one {K : PySem.W.Frag} {H : Hp} {d : D} {vs : List V} (r : RepL K H [d] vs) : ∃ v, vs = [v] ∧ Rep K H d v := by
  obtain ⟨w, ws, rfl, r1, r2⟩ := repL_cons.mp r
  rw [repL_nil.mp r2]
  exact ⟨w, rfl, r1⟩
theorem repL_two {K : PySem.W.Frag} {H : Hp} {d e : D} {vs : List V} (r : RepL K H [d, e] vs) : ∃ v w, vs = [v, w] ∧ Rep K H d v ∧ Rep K H e w := by
  obtain ⟨w, ws, rfl, r1, r2⟩ := repL_cons.mp r
  obtain ⟨u, rfl, r3⟩ := repL_one r2
  exact ⟨w, u, rfl, r1, r3⟩

/-- a built-in call, by values -/
def rBi (K : PySem.W.Frag) (b : Bi) : List V → Hp → VK → Prop := fun vs H Q => ∃ ds M, RepL K H ds vs ∧ RepM K H M ∧ biD b ds M (want K H M Q)
section
variable {X : Cx}
theorem bi_len : CallR X (.builtin "len") (rBi X.K .len) := by
  intro pins s σ H vs us Q I r z
  obtain ⟨ds, M, rl, m, z⟩ := z
  unfold biD at z
  split at z <;> try cases ‹Bi.len = _›
  · obtain ⟨v, rfl, h⟩ := repL_one rl
    obtain ⟨a, ws, rfl, q, rw⟩ := rep_tup.mp h
    exact call_len_seq pins s σ H _ us Q I r ⟨a, ws, rfl, .inr q, by rw [← rw.length]; exact z.now (rep_int.mpr rfl) m⟩
  · obtain ⟨v, rfl, h⟩ := repL_one rl
    rw [rep_str] at h; subst h
    exact call_len_str pins s σ H _ us Q I r ⟨_, rfl, z.1, z.2.now (rep_int.mpr rfl) m⟩
  · obtain ⟨v, rfl, h⟩ := repL_one rl
    rw [rep_ref] at h; subst h
    obtain ⟨es, l, z⟩ := z
    obtain ⟨ws, q, rw⟩ := l.sq m
    exact call_len_seq pins s σ H _ us Q I r ⟨_, ws, rfl, .inl (.inl q), by rw [← rw.length]; exact z.now (rep_int.mpr rfl) m⟩
  · exact z.elim
theorem bi_abs : CallR X (.builtin "abs") (rBi X.K .abs) := by
  intro pins s σ H vs us Q I r z
  obtain ⟨ds, M, rl, m, z⟩ := z
  unfold biD at z
  split at z <;> try cases ‹Bi.abs = _›
  · obtain ⟨v, rfl, h⟩ := repL_one rl
    rw [rep_int] at h; subst h
    exact call_abs pins s σ H _ us Q I r ⟨_, rfl, z.now (rep_int.mpr rfl) m⟩
  · exact z.elim
theorem bi_int : CallR X (.type "int") (rBi X.K .int) := by
  intro pins s σ H vs us Q I r z
  obtain ⟨ds, M, rl, m, z⟩ := z
  unfold biD at z
  split at z <;> try cases ‹Bi.int = _›
  · obtain ⟨v, rfl, h⟩ := repL_one rl
    rw [rep_int] at h; subst h
    exact call_int1 pins s σ H _ us Q I r (.inl ⟨_, rfl, z.now (rep_int.mpr rfl) m⟩)
  · obtain ⟨v, rfl, h⟩ := repL_one rl
    rw [rep_bl] at h; subst h
    exact call_int1 pins s σ H _ us Q I r (.inr ⟨_, rfl, z.now (rep_int.mpr rfl) m⟩)
  · exact z.elim
theorem bi_gcd : CallR X (.builtin "math.gcd") (rBi X.K .gcd) := by
  intro pins s σ H vs us Q I r z
  obtain ⟨ds, M, rl, m, z⟩ := z
  unfold biD at z
  split at z <;> try cases ‹Bi.gcd = _›
  · obtain ⟨v, w, rfl, h, k⟩ := repL_two rl
    rw [rep_int] at h k; subst h k
    exact cr_gcd pins s σ H _ us Q I r ⟨_, _, rfl, z.now (rep_int.mpr rfl) m⟩
  · exact z.elim
theorem bi_lcm : CallR X (.builtin "math.lcm") (rBi X.K .lcm) := by
  intro pins s σ H vs us Q I r z
  obtain ⟨ds, M, rl, m, z⟩ := z
  unfold biD at z
  split at z <;> try cases ‹Bi.lcm = _›
  · obtain ⟨v, w, rfl, h, k⟩ := repL_two rl
    rw [rep_int] at h k; subst h k
    obtain ⟨u1, u2, rfl, ⟨t, rfl⟩, ⟨t', rfl⟩⟩ := vals2 r
    exact PySem.W.mc_lcm z.1.1 z.1.2 fun _ => ⟨.int _, H, I.tok _, ⟨_, rfl⟩, z.2.now (rep_int.mpr rfl) m⟩
  · exact z.elim
theorem bi_comb : CallR X (.builtin "math.comb") (rBi X.K .comb) := by
  intro pins s σ H vs us Q I r z
  obtain ⟨ds, M, rl, m, z⟩ := z
  unfold biD at z
  split at z <;> try cases ‹Bi.comb = _›
  · obtain ⟨v, w, rfl, h, k⟩ := repL_two rl
    rw [rep_int] at h k; subst h k
    obtain ⟨u1, u2, rfl, ⟨t, rfl⟩, ⟨t', rfl⟩⟩ := vals2 r
    exact PySem.W.mc_comb z.1.1 z.1.2.1 z.1.2.2.1 (.inl z.1.2.2.2) fun _ => ⟨.int _, H, I.tok _, ⟨_, rfl⟩, z.2.now (rep_int.mpr rfl) m⟩
  · exact z.elim
theorem bi_tuple : CallR X (.type "tuple") (rBi X.K .tuple) := by
  intro pins s σ H vs us Q I r z
  obtain ⟨ds, M, rl, m, z⟩ := z
  unfold biD at z
  split at z <;> try cases ‹Bi.tuple = _›
  · obtain ⟨v, rfl, h⟩ := repL_one rl
    obtain ⟨a, ws, rfl, q, rw⟩ := rep_tup.mp h
    exact call_tuple_of pins s σ H _ us Q I r ⟨a, ws, rfl, .inr ⟨q, z.now h m⟩⟩
  · obtain ⟨v, rfl, h⟩ := repL_one rl
    rw [rep_ref] at h; subst h
    obtain ⟨es, l, z⟩ := z
    obtain ⟨ws, q, rw⟩ := l.sq m
    exact call_tuple_of pins s σ H _ us Q I r ⟨_, ws, rfl, .inl ⟨.inl q, fun p np => z _ _ (Prog.new m np) (rep_tup.mpr ⟨p, _, rfl, .inl (.inl upd_same), rw.keep (Keep.new np)⟩) (m.new np)⟩⟩
  · exact z.elim
theorem bi_list : CallR X (.type "list") (rBi X.K .list) := by
  intro pins s σ H vs us Q I r z
  obtain ⟨ds, M, rl, m, z⟩ := z
  unfold biD at z
  split at z <;> try cases ‹Bi.list = _›
  · obtain ⟨v, rfl, h⟩ := repL_one rl
    obtain ⟨a, ws, rfl, q, rw⟩ := rep_tup.mp h
    exact call_list_of pins s σ H _ us Q I r ⟨a, ws, rfl, .inr q, fun p np => z p (m.fresh np) _ _ (Prog.newL m np) (rep_ref.mpr rfl) (m.newL np rw)⟩
  · obtain ⟨v, rfl, h⟩ := repL_one rl
    rw [rep_ref] at h; subst h
    obtain ⟨es, l, z⟩ := z
    obtain ⟨ws, q, rw⟩ := l.sq m
    exact call_list_of pins s σ H _ us Q I r ⟨_, ws, rfl, .inl (.inl q), fun p np => z p (m.fresh np) _ _ (Prog.newL m np) (rep_ref.mpr rfl) (m.newL np rw)⟩
  · exact z.elim
theorem bi_repr (h : Here X) : CallR X (.builtin "repr") (rBi X.K .repr) := by
  intro pins s σ H vs us Q I r z
  obtain ⟨ds, M, rl, m, z⟩ := z
  unfold biD at z
  split at z <;> try cases ‹Bi.repr = _›
  · obtain ⟨z0, p, py, sh, sw, sz, z⟩ := z
    obtain ⟨v, rfl, hv⟩ := repL_one rl
    obtain ⟨u, rfl, ru⟩ := vals1 r
    have hq : Q (.str p.shown) H := z.now (rep_str.mpr rfl) m
    have hdp := hv.dp m py
    have hun : X.A.units + 200 < cLine := by have := h.room.un; omega
    have dep : p.depth ≤ 64 := SeqAt.depth_of_shaped sh
    obtain ⟨as, hr⟩ := hdp.reads I p v u ru
    have big : ∀ a, u = .ref a → wpAny (model X.prog X.w) X.A (call (.builtin "repr") [.ref a]) (EP X pins σ Q) X.xe s := fun a e => by
      subst e
      exact repr_of_reads' hr sw (PyData.noDict_hsm (PyData.hasDict_of_canLay p (SeqAt.canLay_of_shaped sh))) h.gu (by omega) (fun _ _ q => q)
        (fun h' u tk hk => ⟨.str p.shown, H, I.kept hk, ⟨_, rfl⟩, hq⟩) sz
    cases py with
    | non => exact z0.elim
    | bl b => exact z0.elim
    | int i =>
      rw [rep_int] at hv; subst hv
      obtain ⟨t, rfl⟩ := ru
      exact PySem.P.repr_of_int (of_decide_eq_true sw) ⟨.str _, H, I.tok _, ⟨_, rfl⟩, hq⟩
    | str y =>
      rw [rep_str] at hv; subst hv
      obtain ⟨t, rfl⟩ := ru
      exact PySem.P.repr_of_str ⟨.str _, H, I.tok _, ⟨_, rfl⟩, hq⟩ sz
    | tup l =>
      obtain ⟨a, ws, rfl, _, _⟩ := rep_tup.mp hv
      cases ru
      exact big _ rfl
    | lst l l2 =>
      rw [rep_ref] at hv; subst hv
      cases ru
      exact big _ rfl
  · exact z.elim
theorem bi_max2 (h : X.calm = true) : CallR X (.builtin "max") (rBi X.K .max2) := by
  intro pins s σ H vs us Q I r z
  obtain ⟨ds, M, rl, m, z⟩ := z
  unfold biD at z
  split at z <;> try cases ‹Bi.max2 = _›
  · obtain ⟨v, w, rfl, h1, k⟩ := repL_two rl
    rw [rep_int] at h1 k; subst h1 k
    exact call_max2 h pins s σ H _ us Q I r ⟨_, _, rfl, z.now (rep_int.mpr rfl) m⟩
  · exact z.elim
theorem bi_min2 (h : X.calm = true) : CallR X (.builtin "min") (rBi X.K .min2) := by
  intro pins s σ H vs us Q I r z
  obtain ⟨ds, M, rl, m, z⟩ := z
  unfold biD at z
  split at z <;> try cases ‹Bi.min2 = _›
  · obtain ⟨v, w, rfl, h1, k⟩ := repL_two rl
    rw [rep_int] at h1 k; subst h1 k
    exact call_min2 h pins s σ H _ us Q I r ⟨_, _, rfl, z.now (rep_int.mpr rfl) m⟩
  · exact z.elim
theorem bi_maxl (h : X.calm = true) : CallR X (.builtin "max") (rBi X.K .maxl) := by
  intro pins s σ H vs us Q I r z
  obtain ⟨ds, M, rl, m, z⟩ := z
  unfold biD at z
  split at z <;> try cases ‹Bi.maxl = _›
  · obtain ⟨v, rfl, h1⟩ := repL_one rl
    rw [rep_ref] at h1; subst h1
    obtain ⟨ns, l, h2, z⟩ := z
    obtain ⟨ws, q, rw⟩ := l.sq m
    exact cr_max h pins s σ H _ us Q I r ⟨_, ns, rfl, .inl (by rw [← rw.ints]; exact q), h2, fun k hk hm => (z k hk hm).now (rep_int.mpr rfl) m⟩
  · exact z.elim
theorem bi_minl (h : X.calm = true) : CallR X (.builtin "min") (rBi X.K .minl) := by
  intro pins s σ H vs us Q I r z
  obtain ⟨ds, M, rl, m, z⟩ := z
  unfold biD at z
  split at z <;> try cases ‹Bi.minl = _›
  · obtain ⟨v, rfl, h1⟩ := repL_one rl
    rw [rep_ref] at h1; subst h1
    obtain ⟨ns, l, h2, z⟩ := z
    obtain ⟨ws, q, rw⟩ := l.sq m
    exact cr_min h pins s σ H _ us Q I r ⟨_, ns, rfl, .inl (by rw [← rw.ints]; exact q), h2, fun k hk hm => (z k hk hm).now (rep_int.mpr rfl) m⟩
  · exact z.elim
theorem bi_suml (h : X.calm = true) : CallR X (.builtin "sum") (rBi X.K .suml) := by
  intro pins s σ H vs us Q I r z
  obtain ⟨ds, M, rl, m, z⟩ := z
  unfold biD at z
  split at z <;> try cases ‹Bi.suml = _›
  · obtain ⟨v, rfl, h1⟩ := repL_one rl
    rw [rep_ref] at h1; subst h1
    obtain ⟨ns, l, z⟩ := z
    obtain ⟨ws, q, rw⟩ := l.sq m
    exact cr_sum h pins s σ H _ us Q I r ⟨_, ns, rfl, .inl (by rw [← rw.ints]; exact q), z.now (rep_int.mpr rfl) m⟩
  · exact z.elim

def tyV' : Ty → V
  | .int => .ty "int"
  | .bool => .ty "bool"
  | .tuple => .ty "tuple"
  | .str => .ty "str"
  | .list => .ty "list"
def tyN : Ty → String
  | .int => "int"
  | .bool => "bool"
  | .tuple => "tuple"
  | .str => "str"
  | .list => "list"
theorem tup_ty {K : PySem.W.Frag} {H : Hp} {a : Addr} {vs : List V} (q : SqT K H a vs) : TyX K H (.ref a) (.type "tuple") := by
  rcases q with (q | ⟨o, q⟩) | ⟨o, its, n, q, c, _⟩
  · exact .base (.tup q)
  · exact .fTuple q
  · exact .kTuple q c
theorem isi_ok (t : Ty) : CallR X (.builtin "isinstance") (fun vs H Q => ∃ v x M, vs = [v, tyV' t] ∧ Rep X.K H x v ∧ RepM X.K H M ∧ isiD x t M (want X.K H M Q)) := by
  intro pins s σ H vs us Q I r z
  obtain ⟨v, x, M, rfl, hx, m, z⟩ := z
  have go : ∀ (tx : String) (b : Bool), TyX X.K H v (.type tx) → kitB tx (tyN t) = some b → want X.K H M Q (.bl b) M → wpAny (model X.prog X.w) X.A (call (.builtin "isinstance") us) (EP X pins σ Q) X.xe s := fun tx b ty e k =>
    call_isi pins s σ H _ us Q I r ⟨v, _, .type tx, .type (tyN t), b, rfl, by cases t <;> exact .ty _, ty, kit_ty e, k.now (rep_bl.mpr rfl) m⟩
  unfold isiD at z
  split at z
  · rw [rep_int] at hx; subst hx; exact go "int" true (.base (.int _)) (by decide +kernel) z
  · rw [rep_bl] at hx; subst hx; exact go "bool" true (.base (.bl _)) (by decide +kernel) z
  · obtain ⟨a, ws, rfl, q, _⟩ := rep_tup.mp hx; exact go "tuple" false (tup_ty q) (by decide +kernel) z
  · rw [rep_str] at hx; subst hx; exact go "str" false (.base (.str _)) (by decide +kernel) z
  · rw [rep_non] at hx; subst hx; exact go "NoneType" false (.base .non) (by decide +kernel) z
  · rw [rep_bl] at hx; subst hx; exact go "bool" true (.base (.bl _)) (by decide +kernel) z
  · rw [rep_int] at hx; subst hx; exact go "int" false (.base (.int _)) (by decide +kernel) z
  · obtain ⟨a, ws, rfl, q, _⟩ := rep_tup.mp hx; exact go "tuple" false (tup_ty q) (by decide +kernel) z
  · rw [rep_str] at hx; subst hx; exact go "str" false (.base (.str _)) (by decide +kernel) z
  · rw [rep_non] at hx; subst hx; exact go "NoneType" false (.base .non) (by decide +kernel) z
  · obtain ⟨a, ws, rfl, q, _⟩ := rep_tup.mp hx; exact go "tuple" true (tup_ty q) (by decide +kernel) z
  · rw [rep_int] at hx; subst hx; exact go "int" false (.base (.int _)) (by decide +kernel) z
  · rw [rep_str] at hx; subst hx; exact go "str" false (.base (.str _)) (by decide +kernel) z
  · rw [rep_non] at hx; subst hx; exact go "NoneType" false (.base .non) (by decide +kernel) z
  · rw [rep_bl] at hx; subst hx; exact go "bool" false (.base (.bl _)) (by decide +kernel) z
  · rw [rep_str] at hx; subst hx; exact go "str" true (.base (.str _)) (by decide +kernel) z
  · rw [rep_int] at hx; subst hx; exact go "int" false (.base (.int _)) (by decide +kernel) z
  · obtain ⟨a, ws, rfl, q, _⟩ := rep_tup.mp hx; exact go "tuple" false (tup_ty q) (by decide +kernel) z
  · rw [rep_non] at hx; subst hx; exact go "NoneType" false (.base .non) (by decide +kernel) z
  · exact z.elim
end
end Pd

set_option maxHeartbeats 4000000
namespace Pd
open PySem PySem.Spec L2

/-- an iterator of the hand layer does what nx says -/
def ItOk (K : PySem.W.Frag) (H0 : Hp) (nx : Nx) (J : It) : Prop := ∀ (i : Nat) (H : Hp) (M : Mp), Keep K H0 H → RepM K H M →
  (nx i M = some none → J.stop i H) ∧ ∀ x, nx i M = some (some x) → J.go i H ∧ ∀ v H', J.yld i H v H' → Prog K H M H' M ∧ Rep K H' x v ∧ RepM K H' M
section
variable {K : PySem.W.Frag} {H0 H : Hp} {M : Mp}
theorem itemsAt_list {p : Addr} {ds : List D} (e : itemsAt M (.ref p) = some ds) : listAt M p ds := by
  simp only [itemsAt] at e
  cases q : M p with
  | none => rw [q] at e; cases e
  | some o =>
    rw [q] at e
    cases o with
    | lst xs => cases e; exact .inl q
    | rol xs => cases e; exact .inr q
theorem listAt.items {p : Addr} {ds : List D} (e : listAt M p ds) : itemsAt M (.ref p) = some ds := by
  simp only [itemsAt]
  rcases e with e | e <;> rw [e]
theorem ok_list {a : Addr} : ItOk K H0 (nSeq (.ref a)) (Itl K a) := fun i H M k m => by
  refine ⟨fun e => ?_, fun x e => ?_⟩
  · have e : (itemsAt M (.ref a)).map (fun ds => ds[i]?) = some none := e
    cases q : itemsAt M (.ref a) with
    | none => rw [q] at e; cases e
    | some ds =>
      rw [q] at e
      obtain ⟨vs, h, r⟩ := (itemsAt_list q).sq m
      refine ⟨vs, .inl h, ?_⟩
      rw [← r.length]
      exact List.getElem?_eq_none_iff.mp (Option.some.inj e)
  · have e : (itemsAt M (.ref a)).map (fun ds => ds[i]?) = some (some x) := e
    cases q : itemsAt M (.ref a) with
    | none => rw [q] at e; cases e
    | some ds =>
      rw [q] at e
      obtain ⟨vs, h, r⟩ := (itemsAt_list q).sq m
      obtain ⟨v, hv, rv⟩ := r.get (Option.some.inj e)
      refine ⟨⟨vs, v, .inl h, hv⟩, fun w H' y => ?_⟩
      obtain ⟨rfl, y⟩ := y
      have := y vs (.inl h)
      rw [hv] at this; cases this
      exact ⟨.refl, rv, m⟩
theorem ok_tup {a : Addr} {ds : List D} {vs : List V} (h : SqT K H0 a vs) (r : RepL K H0 ds vs) : ItOk K H0 (nSeq (.tup ds)) (Itt K a) := fun i H M k m => by
  have h' := k a vs h
  have r' := r.keep k
  refine ⟨fun e => ?_, fun x e => ?_⟩
  · have e : some ds[i]? = some none := e
    refine ⟨vs, h', ?_⟩
    rw [← r.length]
    exact List.getElem?_eq_none_iff.mp (Option.some.inj e)
  · have e : some ds[i]? = some (some x) := e
    obtain ⟨v, hv, rv⟩ := r'.get (Option.some.inj e)
    refine ⟨⟨vs, v, h', hv⟩, fun w H' y => ?_⟩
    obtain ⟨rfl, y⟩ := y
    have := y vs h'
    rw [hv] at this; cases this
    exact ⟨.refl, rv, m⟩
theorem ok_str {x : Str} : ItOk K H0 (nSeq (.str x)) (Its x) := fun i H M k m => by
  refine ⟨fun e => ?_, fun d e => ?_⟩
  · have e : some (x.cps.toList[i]?.map fun c => D.str ⟨#[c]⟩) = some none := e
    have e1 := Option.some.inj e
    show x.cps.size ≤ i
    have e2 : x.cps.toList[i]? = none := by
      cases q : x.cps.toList[i]? with
      | none => rfl
      | some c => rw [q] at e1; cases e1
    have := List.getElem?_eq_none_iff.mp e2
    simpa using this
  · have e : some (x.cps.toList[i]?.map fun c => D.str ⟨#[c]⟩) = some (some d) := e
    have e1 := Option.some.inj e
    cases q : x.cps.toList[i]? with
    | none => rw [q] at e1; cases e1
    | some c =>
      rw [q] at e1; cases e1
      have hi : i < x.cps.size := by
        have := (List.getElem?_eq_some_iff.mp q).1
        simpa using this
      refine ⟨hi, fun w H' y => ?_⟩
      obtain ⟨rfl, c', hc, rfl⟩ := y
      rw [Array.getElem?_toList, hc] at q; cases q
      exact ⟨.refl, rep_str.mpr rfl, m⟩
theorem ok_rng {a b : Int} : ItOk K H0 (nRng a b) (Itr a (b - a).toNat) := fun i H M k m => by
  unfold nRng
  refine ⟨fun e => ?_, fun d e => ?_⟩
  · by_cases h : i < (b - a).toNat
    · rw [if_pos h] at e; cases e
    · exact Nat.le_of_not_lt h
  · by_cases h : i < (b - a).toNat
    · rw [if_pos h] at e; cases e
      refine ⟨h, fun w H' y => ?_⟩
      obtain ⟨rfl, rfl⟩ := y
      exact ⟨.refl, rep_int.mpr rfl, m⟩
    · rw [if_neg h] at e; cases e
theorem pair_new {T : Addr} {x y : D} {v w : V} (m : RepM K H M) (n : H T = none) (hx : Rep K H x v) (hy : Rep K H y w) :
    Prog K H M (upd H T (.tup [v, w])) M ∧ Rep K (upd H T (.tup [v, w])) (.tup [x, y]) (.ref T) ∧ RepM K (upd H T (.tup [v, w])) M :=
  ⟨Prog.new m n, rep_tup.mpr ⟨T, _, rfl, .inl (.inl upd_same), repL_cons.mpr ⟨_, _, rfl, hx.keep (Keep.new n), RepL.one (hy.keep (Keep.new n))⟩⟩, m.new n⟩
theorem ok_enumL {a : Addr} : ItOk K H0 (nEnum (.ref a)) (Ite K a) := fun i H M k m => by
  unfold nEnum
  refine ⟨fun e => ?_, fun x e => ?_⟩
  · cases q : itemsAt M (.ref a) with
    | none => rw [q] at e; cases e
    | some ds =>
      rw [q] at e
      have e1 := Option.some.inj e
      dsimp only at e1
      obtain ⟨vs, h, r⟩ := (itemsAt_list q).sq m
      refine ⟨vs, .inl h, ?_⟩
      rw [← r.length]
      cases q2 : ds[i]? with
      | none => exact List.getElem?_eq_none_iff.mp q2
      | some d => rw [q2] at e1; cases e1
  · cases q : itemsAt M (.ref a) with
    | none => rw [q] at e; cases e
    | some ds =>
      rw [q] at e
      have e1 := Option.some.inj e
      dsimp only at e1
      obtain ⟨vs, h, r⟩ := (itemsAt_list q).sq m
      cases q2 : ds[i]? with
      | none => rw [q2] at e1; cases e1
      | some d =>
        rw [q2] at e1; cases e1
        obtain ⟨v, hv, rv⟩ := r.get q2
        refine ⟨⟨vs, v, .inl h, hv⟩, fun w H' y => ?_⟩
        obtain ⟨T, u, rfl, n, rfl, y⟩ := y
        have := y vs (.inl h)
        rw [hv] at this; cases this
        exact pair_new m n (rep_int.mpr rfl) rv
theorem ok_zipL {a b : Addr} : ItOk K H0 (nZip (.ref a) (.ref b)) (Itz K a b) := fun i H M k m => by
  unfold nZip
  refine ⟨fun e => ?_, fun x e => ?_⟩
  · cases q : itemsAt M (.ref a) with
    | none => rw [q] at e; cases e
    | some ds =>
      cases q' : itemsAt M (.ref b) with
      | none => rw [q, q'] at e; cases e
      | some es =>
        rw [q, q'] at e
        obtain ⟨vs, h, r⟩ := (itemsAt_list q).sq m
        obtain ⟨ws, h', r'⟩ := (itemsAt_list q').sq m
        refine ⟨vs, ws, .inl h, .inl h', ?_⟩
        rw [← r.length, ← r'.length]
        have e1 := Option.some.inj e
        cases q2 : ds[i]? with
        | none => exact .inl (List.getElem?_eq_none_iff.mp q2)
        | some d =>
          cases q3 : es[i]? with
          | none => exact .inr (List.getElem?_eq_none_iff.mp q3)
          | some d' => simp only [q2, q3] at e1; cases e1
  · cases q : itemsAt M (.ref a) with
    | none => rw [q] at e; cases e
    | some ds =>
      cases q' : itemsAt M (.ref b) with
      | none => rw [q, q'] at e; cases e
      | some es =>
        rw [q, q'] at e
        obtain ⟨vs, h, r⟩ := (itemsAt_list q).sq m
        obtain ⟨ws, h', r'⟩ := (itemsAt_list q').sq m
        have e1 := Option.some.inj e
        cases q2 : ds[i]? with
        | none => simp only [q2] at e1; cases e1
        | some d =>
          cases q3 : es[i]? with
          | none => simp only [q2, q3] at e1; cases e1
          | some d' =>
            simp only [q2, q3] at e1; cases e1
            obtain ⟨v, hv, rv⟩ := r.get q2
            obtain ⟨v', hv', rv'⟩ := r'.get q3
            refine ⟨⟨vs, ws, v, v', .inl h, .inl h', hv, hv'⟩, fun w H' y => ?_⟩
            obtain ⟨T, u, u', rfl, n, rfl, y, y'⟩ := y
            have z := y vs (.inl h)
            rw [hv] at z; cases z
            have z := y' ws (.inl h')
            rw [hv'] at z; cases z
            exact pair_new m n rv rv'
theorem ok_zipT {a b : Addr} {ds es : List D} {vs ws : List V} (h : SqT K H0 a vs) (r : RepL K H0 ds vs) (h' : SqT K H0 b ws) (r' : RepL K H0 es ws) : ItOk K H0 (nZip (.tup ds) (.tup es)) (RZ.ItzT K a b) := fun i H M k m => by
  have hk := k a vs h
  have hk' := k b ws h'
  have rk := r.keep k
  have rk' := r'.keep k
  unfold nZip
  refine ⟨fun e => ?_, fun x e => ?_⟩
  · refine ⟨vs, ws, hk, hk', ?_⟩
    rw [← r.length, ← r'.length]
    have e1 := Option.some.inj e
    cases q2 : ds[i]? with
    | none => exact .inl (List.getElem?_eq_none_iff.mp q2)
    | some d =>
      cases q3 : es[i]? with
      | none => exact .inr (List.getElem?_eq_none_iff.mp q3)
      | some d' => simp only [q2, q3] at e1; cases e1
  · have e1 := Option.some.inj e
    cases q2 : ds[i]? with
    | none => simp only [q2] at e1; cases e1
    | some d =>
      cases q3 : es[i]? with
      | none => simp only [q2, q3] at e1; cases e1
      | some d' =>
        simp only [q2, q3] at e1; cases e1
        obtain ⟨v, hv, rv⟩ := rk.get q2
        obtain ⟨v', hv', rv'⟩ := rk'.get q3
        refine ⟨⟨vs, ws, v, v', hk, hk', hv, hv'⟩, fun w H' y => ?_⟩
        obtain ⟨T, u, u', rfl, n, rfl, y, y'⟩ := y
        have z := y vs hk
        rw [hv] at z; cases z
        have z := y' ws hk'
        rw [hv'] at z; cases z
        exact pair_new m n rv rv'
theorem ok_revL {a : Addr} {n : Nat} : ItOk K H0 (nRev (.ref a) n) (Itv K a n) := fun i H M k m => by
  unfold nRev
  refine ⟨fun e => ?_, fun x e => ?_⟩
  · by_cases h : i < n
    · rw [if_pos h] at e
      cases q : itemsAt M (.ref a) with
      | none => rw [q] at e; cases e
      | some ds =>
        rw [q] at e
        have e : ds[n - 1 - i]?.map some = some none := e
        cases q2 : ds[n - 1 - i]? <;> (rw [q2] at e; cases e)
    · exact Nat.le_of_not_lt h
  · by_cases h : i < n
    · rw [if_pos h] at e
      cases q : itemsAt M (.ref a) with
      | none => rw [q] at e; cases e
      | some ds =>
        rw [q] at e
        have e : ds[n - 1 - i]?.map some = some (some x) := e
        obtain ⟨vs, hh, r⟩ := (itemsAt_list q).sq m
        cases q2 : ds[n - 1 - i]? with
        | none => rw [q2] at e; cases e
        | some d =>
          rw [q2] at e; cases e
          obtain ⟨v, hv, rv⟩ := r.get q2
          refine ⟨⟨h, vs, v, .inl hh, hv⟩, fun w H' y => ?_⟩
          obtain ⟨rfl, y⟩ := y
          have z := y vs (.inl hh)
          rw [hv] at z; cases z
          exact ⟨.refl, rv, m⟩
    · rw [if_neg h] at e; cases e
theorem ok_revT {a : Addr} {ds : List D} {vs : List V} (h0 : SqT K H0 a vs) (r : RepL K H0 ds vs) : ItOk K H0 (nRev (.tup ds) ds.length) (RT.ItvT K a vs.length) := fun i H M k m => by
  have hk := k a vs h0
  have rk := r.keep k
  unfold nRev
  rw [r.length]
  refine ⟨fun e => ?_, fun x e => ?_⟩
  · by_cases h : i < vs.length
    · rw [if_pos h] at e
      have e : ds[vs.length - 1 - i]?.map some = some none := e
      cases q2 : ds[vs.length - 1 - i]? <;> (rw [q2] at e; cases e)
    · exact Nat.le_of_not_lt h
  · by_cases h : i < vs.length
    · rw [if_pos h] at e
      have e : ds[vs.length - 1 - i]?.map some = some (some x) := e
      cases q2 : ds[vs.length - 1 - i]? with
      | none => rw [q2] at e; cases e
      | some d =>
        rw [q2] at e; cases e
        obtain ⟨v, hv, rv⟩ := rk.get q2
        refine ⟨⟨h, vs, v, hk, hv⟩, fun w H' y => ?_⟩
        obtain ⟨rfl, y⟩ := y
        have z := y vs hk
        rw [hv] at z; cases z
        exact ⟨.refl, rv, m⟩
    · rw [if_neg h] at e; cases e
end

structure FnG (P : Program) (w : World) (K : PySem.W.Frag) (mg : Str → Option Value) (base : Heap) (k : Nat) (f : Addr) (fd : FuncData) (ps : List Str) (sp : DSp) : Prop where
  run : ∀ (A : Around) (outer : List Env) (s : Shared) (H : Hp) (M : Mp) (args : Args) (us : List Value) (vs : List V) (ds : List D) (Q : VK) (R : DK), Room k A → A.guards = some [] → Env0 P w K mg base A outer s H →
    BindsTo s fd args (ps.zip us) → Vals vs us → RepL K H ds vs → RepM K H M → ds.length = ps.length → sp ds M R → (∀ d M', R d M' → want K H M Q d M') → codeAny (model P w) A (.call (.ref f) args) (CR CX0 outer P w H s Q E0) s

/-- a call of a def, by values -/
def rCall (K : PySem.W.Frag) (n : Nat) (sp : DSp) : List V → Hp → VK → Prop := fun vs H Q => ∃ ds M, RepL K H ds vs ∧ RepM K H M ∧ ds.length = n ∧ ∃ R : DK, sp ds M R ∧ ∀ d M', R d M' → want K H M Q d M'
section
variable {X : Cx} {k : Nat} {f : Addr} {fd : FuncData} {ps : List Str} {sp : DSp} {x : Str} {p pos : Pos} {e : Expr} {es : List Expr} {t : TA}
theorem pe_callG (F : FnG X.prog X.w X.K X.mg X.base k f fd ps sp) (hr : Room k X.A) (hgu : X.A.guards = some []) (hg : Gl X x) (hm : X.mg x = some (.ref f)) (hk : PySem.W.keepIn X.K (.ref f) = true) (hb : Binds X.K fd ps [])
    (ha : PA X (e :: es) t) (hdb : (x == ("__debug__" : Str)) = false) (he : starEach (e :: es) X.env = (false, eval e X.env) :: starEach es X.env) (hpl : (backTo pos (starEach es X.env)).any (·.1) = false) :
    PE X (.Call (.Name x p) (e :: es) [] pos) (fun σ H Q => t σ H fun vs H1 => rCall X.K ps.length sp vs H1 Q) := by
  refine ⟨fun pins s σ H Q I h => ?_⟩
  refine wpAny_Call_Name_kw (ld_glob I hg hm ?_ hdb)
  refine PySem.W.callWith_K (h₀ := X.base) I.ok.mod.kin hk (thn (ha.run pos pins s σ H _ I h) fun us s1 ⟨vs, H1, I1, r, q⟩ => ⟨I1.kIn, ?_⟩) he hpl
  obtain ⟨ds, M, rl, m, hl, R, q, qr⟩ := q
  have len : us.length = ps.length := by rw [← r.length, ← rl.length, hl]
  have hbd := hb s1 us I1.kIn (by rw [List.append_nil]; exact len)
  rw [List.append_nil] at hbd
  refine wpAny_call (codeAny_mono (F.run X.A X.stack s1 H1 M ⟨us, []⟩ us vs ds Q R hr hgu I1.env0 hbd r rl m hl q qr) fun rs s2 hq => ?_)
  cases rs with
  | error e => exact hq.elim
  | ok fl =>
    cases fl with
    | ret u => exact I1.after hq
    | next => exact False.elim hq
    | brk => exact False.elim hq
    | cont => exact False.elim hq
end

/-- a call with keywords, by values -/
def KwTo (K : PySem.W.Frag) (fd : FuncData) (ps : List Str) (n : Nat) (ks : List Str) (is : List Nat) : Prop :=
  ∀ (s : Shared) (us ws : List Value), K.In s.heap → us.length = n → ws.length = ks.length → BindsTo s fd ⟨us, ks.zip ws⟩ (ps.zip (pick is (us ++ ws)))
theorem Vals.get? : ∀ {vs : List V} {us : List Value}, Vals vs us → ∀ i : Nat, (vs[i]? = none ∧ us[i]? = none) ∨ ∃ v u, vs[i]? = some v ∧ us[i]? = some u ∧ RelV v u
  | _, _, .nil, _ => .inl ⟨rfl, rfl⟩
  | _, _, .cons r t, 0 => .inr ⟨_, _, rfl, rfl, r⟩
  | _, _, .cons r t, i + 1 => by
    have := Vals.get? t i
    simpa using this
theorem Vals.pick {vs : List V} {us : List Value} (h : Vals vs us) : ∀ is : List Nat, Vals (Pd.pick is vs) (Pd.pick is us)
  | [] => .nil
  | i :: is => by
    have ih := Vals.pick h is
    unfold Pd.pick at ih ⊢
    rw [List.filterMap_cons, List.filterMap_cons]
    rcases Vals.get? h i with ⟨e1, e2⟩ | ⟨v, u, e1, e2, r⟩
    · rw [e1, e2]; exact ih
    · rw [e1, e2]; exact .cons r ih
theorem RepL.pick {K : PySem.W.Frag} {H : Hp} {ds : List D} {vs : List V} (h : RepL K H ds vs) : ∀ is : List Nat, RepL K H (Pd.pick is ds) (Pd.pick is vs)
  | [] => repL_nil.mpr rfl
  | i :: is => by
    have ih := RepL.pick h is
    unfold Pd.pick at ih ⊢
    rw [List.filterMap_cons, List.filterMap_cons]
    cases q : ds[i]? with
    | some d =>
      obtain ⟨v, hv, rv⟩ := h.get q
      rw [hv]
      exact repL_cons.mpr ⟨v, _, rfl, rv, ih⟩
    | none =>
      have : vs[i]? = none := by
        rw [List.getElem?_eq_none_iff] at q ⊢
        rw [← h.length]; exact q
      rw [this]; exact ih
theorem ixOf_lt : ∀ {N : List Str} {x : Str} {i : Nat}, ixOf N x = some i → i < N.length := fun h => (List.getElem?_eq_some_iff.mp (ixOf_get h)).1
theorem ixs_lt {N : List Str} : ∀ {xs : List Str} {is : List Nat}, ixs N xs = some is → is.length = xs.length ∧ ∀ i ∈ is, i < N.length
  | [], is, h => by cases h; exact ⟨rfl, fun i hi => absurd hi (by simp)⟩
  | x :: xs, is, h => by
    unfold ixs at h
    split at h
    · rename_i h1 h2
      cases h
      obtain ⟨l, a⟩ := ixs_lt h2
      refine ⟨by rw [List.length_cons, List.length_cons, l], fun i hi => ?_⟩
      rcases List.mem_cons.mp hi with rfl | hi
      · exact ixOf_lt h1
      · exact a i hi
    · cases h
theorem pick_len {α : Type} {l : List α} : ∀ {is : List Nat}, (∀ i ∈ is, i < l.length) → (Pd.pick is l).length = is.length
  | [], _ => rfl
  | i :: is, h => by
    have ih := pick_len (l := l) (is := is) fun j hj => h j (List.mem_cons_of_mem _ hj)
    unfold Pd.pick at ih ⊢
    rw [List.filterMap_cons, List.getElem?_eq_getElem (h i List.mem_cons_self), List.length_cons, List.length_cons, ih]
section
variable {X : Cx} {k : Nat} {f : Addr} {fd : FuncData} {ps : List Str} {sp : DSp} {x : Str} {p pos : Pos} {n : Nat} {ks : List Str} {is : List Nat} {kws : List Keyword}
def rCallK (K : PySem.W.Frag) (n m : Nat) (is : List Nat) (sp : DSp) : List V → List V → Hp → VK → Prop := fun vs zs H Q => ∃ ds es M, RepL K H ds vs ∧ RepL K H es zs ∧ RepM K H M ∧ ds.length = n ∧ es.length = m ∧ ∃ R : DK, sp (pick is (ds ++ es)) M R ∧ ∀ d M', R d M' → want K H M Q d M'
theorem run_kw {pins : List (Addr × Obj)} {σ : L2.St} {H : Hp} {s : Shared} {Q : VK} {us ws : List Value} {vs zs : List V} (F : FnG X.prog X.w X.K X.mg X.base k f fd ps sp) (hr : Room k X.A) (hgu : X.A.guards = some []) (hb : KwTo X.K fd ps n ks is) (hp : permOf ps n ks = some is)
    (I : Inv X pins σ H s) (r : Vals vs us) (rz : Vals zs ws) (q : rCallK X.K n ks.length is sp vs zs H Q) : wpAny (model X.prog X.w) X.A (call (.ref f) us (ks.zip ws)) (EP X pins σ Q) X.xe s := by
  obtain ⟨ds, es, M, rl, re, m, h1, h2, R, q, qr⟩ := q
  have l1 : us.length = n := by rw [← r.length, ← rl.length, h1]
  have l2 : ws.length = ks.length := by rw [← rz.length, ← re.length, h2]
  unfold permOf at hp
  split at hp
  · rename_i hn
    obtain ⟨a1, a2⟩ := ixs_lt hp
    have len : (Pd.pick is (ds ++ es)).length = ps.length := by
      rw [pick_len (l := ds ++ es) fun i hi => ?_, a1]
      have := a2 i hi
      rw [List.length_append, List.length_take] at this
      rw [List.length_append]
      omega
    refine wpAny_call (codeAny_mono (F.run X.A X.stack s H M ⟨us, ks.zip ws⟩ (Pd.pick is (us ++ ws)) (Pd.pick is (vs ++ zs)) (Pd.pick is (ds ++ es)) Q R hr hgu I.env0 (hb s us ws I.kIn l1 l2) (Vals.pick (r.append rz) is) (RepL.pick (rl.append re) is) m len q qr) fun rs s2 hq => ?_)
    cases rs with
    | error e => exact hq.elim
    | ok fl =>
      cases fl with
      | ret u => exact I.after hq
      | next => exact False.elim hq
      | brk => exact False.elim hq
      | cont => exact False.elim hq
  · cases hp
/-- f(e, .., x = e, ..) -/
theorem pe_callGK {e : Expr} {es : List Expr} {t tk : TA} (F : FnG X.prog X.w X.K X.mg X.base k f fd ps sp) (hr : Room k X.A) (hgu : X.A.guards = some []) (hg : Gl X x) (hm : X.mg x = some (.ref f)) (hk : PySem.W.keepIn X.K (.ref f) = true) (hb : KwTo X.K fd ps n ks is) (hp : permOf ps n ks = some is)
    (ha : PA X (e :: es) t) (hkw : PK X kws tk) (hall : (backToKw pos (keywordEach kws X.env)).all (·.1.isSome) = true) (hks : (backToKw pos (keywordEach kws X.env)).filterMap (·.1) = ks)
    (hdb : (x == ("__debug__" : Str)) = false) (he : starEach (e :: es) X.env = (false, eval e X.env) :: starEach es X.env)
    (hpl : ((backTo pos (starEach (e :: es) X.env)).any (·.1) || (backToKw pos (keywordEach kws X.env)).any (·.1.isNone)) = false) :
    PE X (.Call (.Name x p) (e :: es) kws pos) (fun σ H Q => t σ H fun vs H1 => tk σ H1 fun zs H2 => rCallK X.K n ks.length is sp vs zs H2 Q) := by
  refine ⟨fun pins s σ H Q I h => ?_⟩
  refine wpAny_Call_Name_kw (ld_glob I hg hm ?_ hdb)
  refine PySem.W.callWith_KW (h₀ := X.base) I.ok.mod.kin hk hall (thn (ha.run pos pins s σ H _ I h) fun us s1 ⟨vs, H1, I1, r, q⟩ => ?_) hpl he
  refine thn (hkw.run pos pins s1 σ H1 _ I1 q) fun ws s2 ⟨zs, H2, I2, rz, q2⟩ => ⟨I2.kIn, ?_⟩
  rw [hks]
  exact run_kw F hr hgu hb hp I2 r rz q2
/-- f(x = e, ..) -/
theorem pe_callGK0 {tk : TA} (F : FnG X.prog X.w X.K X.mg X.base k f fd ps sp) (hr : Room k X.A) (hgu : X.A.guards = some []) (hg : Gl X x) (hm : X.mg x = some (.ref f)) (hk : PySem.W.keepIn X.K (.ref f) = true) (hb : KwTo X.K fd ps n ks is) (hp : permOf ps n ks = some is)
    (hkw : PK X kws tk) (hall : (backToKw pos (keywordEach kws X.env)).all (·.1.isSome) = true) (hks : (backToKw pos (keywordEach kws X.env)).filterMap (·.1) = ks)
    (hdb : (x == ("__debug__" : Str)) = false) (hpl : ((backTo pos (starEach [] X.env)).any (·.1) || (backToKw pos (keywordEach kws X.env)).any (·.1.isNone)) = false) :
    PE X (.Call (.Name x p) [] kws pos) (fun σ H Q => tk σ H fun zs H2 => rCallK X.K n ks.length is sp [] zs H2 Q) := by
  refine ⟨fun pins s σ H Q I h => ?_⟩
  refine wpAny_Call_Name_kw (ld_glob I hg hm ?_ hdb)
  refine PySem.W.callWith_KW0 (h₀ := X.base) I.ok.mod.kin hk hall ?_ hpl
  refine thn (hkw.run pos pins s σ H _ I h) fun ws s2 ⟨zs, H2, I2, rz, q2⟩ => ⟨I2.kIn, ?_⟩
  rw [hks]
  exact run_kw F hr hgu hb hp I2 .nil rz q2
end

section
variable (K : PySem.W.Frag) (G : Str → DSp)
/-- an expression's -/
def tI (p : Px) : TE := fun σ H Q => ∃ d M, RepS K H d σ ∧ RepM K H M ∧ wE G p d M (want K H M Q)
def wantT (H : Hp) (M : Mp) (Q : Bool → Hp → Prop) : DK := fun x M' => ∃ k, x = .bl k ∧ ∀ H', Prog K H M H' M' → RepM K H' M' → Q k H'
/-- a test's -/
def tTI (p : Px) : TT := fun σ H Q => ∃ d M, RepS K H d σ ∧ RepM K H M ∧ wE G p d M (wantT K H M Q)
def wantA (H : Hp) (M : Mp) (Q : List V → Hp → Prop) : DK := fun x M' => ∃ ds, x = .tup ds ∧ ∀ H' vs, Prog K H M H' M' → RepL K H' ds vs → RepM K H' M' → Q vs H'
/-- arguments' -/
def tAI (p : Px) : TA := fun σ H Q => ∃ d M, RepS K H d σ ∧ RepM K H M ∧ wE G p d M (wantA K H M Q)
/-- a slice's part's -/
def tOI (p : Px) : TO := fun σ H Q => ∃ d M, RepS K H d σ ∧ RepM K H M ∧ wE G p d M (fun x M' => ∃ o, partD x = some o ∧ ∀ H', Prog K H M H' M' → RepM K H' M' → Q o H')
/-- what is walked -/
def tWI (p : Px) : TI := fun σ H R => ∃ d M, RepS K H d σ ∧ RepM K H M ∧ wI G p d M (fun nx M' => ∀ H' J, Prog K H M H' M' → RepM K H' M' → ItOk K H' nx J → R J H')
end
theorem _root_.L2.PE.conv {X : Cx} {e : Expr} {t t' : TE} (h : PE X e t) (k : ∀ σ H Q, t' σ H Q → t σ H Q) : PE X e t' := ⟨fun pins s σ H Q I z => h.run pins s σ H Q I (k _ _ _ z)⟩
theorem _root_.L2.PT.conv {X : Cx} {e : Expr} {t t' : TT} (h : PT X e t) (k : ∀ σ H Q, t' σ H Q → t σ H Q) : PT X e t' := ⟨fun pins s σ H Q I z => h.run pins s σ H Q I (k _ _ _ z)⟩
theorem _root_.L2.PW.conv {X : Cx} {e : Expr} {t t' : TT} (h : PW X e t) (k : ∀ σ H Q, t' σ H Q → t σ H Q) : PW X e t' := ⟨fun wh pins s σ H Q I z => h.run wh pins s σ H Q I (k _ _ _ z)⟩
theorem _root_.L2.PA.conv {X : Cx} {e : List Expr} {t t' : TA} (h : PA X e t) (k : ∀ σ H Q, t' σ H Q → t σ H Q) : PA X e t' := ⟨fun pos pins s σ H Q I z => h.run pos pins s σ H Q I (k _ _ _ z)⟩
theorem _root_.L2.PI.conv {X : Cx} {tg e : Expr} {t t' : TI} (h : PI X tg e t) (k : ∀ σ H Q, t' σ H Q → t σ H Q) : PI X tg e t' := ⟨fun pins s σ H Q I z => h.run pins s σ H Q I (k _ _ _ z)⟩
theorem _root_.L2.PO.conv {X : Cx} {e : Option Expr} {t t' : TO} (h : PO X e t) (k : ∀ σ H Q, t' σ H Q → t σ H Q) : PO X e t' := ⟨fun pins s σ H Q I z => h.run pins s σ H Q I (k _ _ _ z)⟩
theorem _root_.L2.PTs.conv {X : Cx} {e : List Expr} {t t' : TT} (h : PTs X e t) (k : ∀ σ H Q, t' σ H Q → t σ H Q) : PTs X e t' := ⟨fun pins s σ H Q I z => h.run pins s σ H Q I (k _ _ _ z)⟩
theorem _root_.L2.PS.conv {X : Cx} {e : Stmt} {t t' : TS} (h : PS X e t) (k : ∀ D σ H, t' D σ H → t D σ H) : PS X e t' := ⟨fun pins s σ H D I z => h.run pins s σ H D I (k _ _ _ z)⟩
theorem _root_.L2.PSs.conv {X : Cx} {e : List Stmt} {t t' : TS} (h : PSs X e t) (k : ∀ D σ H, t' D σ H → t D σ H) : PSs X e t' := ⟨fun pins s σ H D I z => h.run pins s σ H D I (k _ _ _ z)⟩

section
variable {K : PySem.W.Frag} {G : Str → DSp} {pa pb pc : Px} {σ : L2.St} {H : Hp}
/-- one behind the other -/
theorem two_step {d : DSt} {M : Mp} {R : D → D → DK → Mp → Prop} {Q : VK} (rs : RepS K H d σ) (m : RepM K H M)
    (z : wE G pa d M fun x M1 => wE G pb d M1 fun y M2 => R x y (want K H M Q) M2)
    {r : R2} (hr : ∀ x y vx vy H2 M2, Prog K H M H2 M2 → Rep K H2 x vx → Rep K H2 y vy → RepM K H2 M2 → R x y (want K H M Q) M2 → r vx vy H2 Q) :
    tOp r (tI K G pa) (tI K G pb) σ H Q := by
  refine ⟨d, M, rs, m, wE_mono (fun x M1 z => ?_) z⟩
  intro H1 vx p1 rx m1
  refine ⟨d, M1, rs.keep p1.keep, m1, wE_mono (fun y M2 z => ?_) z⟩
  intro H2 vy p2 ry m2
  exact hr x y vx vy H2 M2 (p1.trans p2) (rx.keep p2.keep) ry m2 z
/-- a test from a value -/
theorem tTI_of : ∀ {t : TT}, (∀ Q, tTI K G pa σ H Q → t σ H Q) → ∀ Q, tTI K G pa σ H Q → t σ H Q := fun h => h
end
end Pd

set_option maxHeartbeats 4000000
namespace Pd
open PySem PySem.Spec L2

/-- where a body of the text stands -/
structure Ctx (N : List Str) (sg : Sig) (mth : List Str) (G : Str → DSp) (sc : Scope) (X : Cx) : Prop extends Here X where
  hN : X.N = N
  nd : N.Nodup
  hsc : X.env.scope = sc
  pyl : X.A.depth + Builtin.pylongFrames < recursionLimit
  free : ∀ x : Str, x ∈ (["len", "range", "int", "abs", "repr", "tuple", "list", "max", "min", "sum", "isinstance", "bool", "str", "enumerate", "zip", "reversed", "sorted", "any", "all", "set", "dict"] : List Str) → X.mg x = none
  mth : ∀ x ∈ mth, ∀ id : String, (if x = "gcd" then "math.gcd" else if x = "comb" then "math.comb" else if x = "lcm" then "math.lcm" else "") = id → X.mg x = some (.builtin id)
  defs : ∀ f ps sh, sg.lookup f = some (ps, sh) → ∃ a fd k, FnG X.prog X.w X.K X.mg X.base k a fd ps (G f) ∧ Room k X.A ∧ X.mg f = some (.ref a) ∧ PySem.W.keepIn X.K (.ref a) = true ∧ Binds X.K fd ps [] ∧
    ∀ n ks is, (n, ks) ∈ sh → permOf ps n ks = some is → KwTo X.K fd ps n ks is

theorem star_ok {e : Expr} {es : List Expr} {env : Env} (h : ∀ v p, e ≠ .Starred v p) : starEach (e :: es) env = (false, eval e env) :: starEach es env := by
  cases e <;> first | rfl | exact absurd rfl (h _ _)
def NoStar (es : List Expr) : Prop := ∀ e ∈ es, ∀ v p, e ≠ .Starred v p
theorem plain_ok {env : Env} {pos : Pos} : ∀ {es : List Expr}, NoStar es → (backTo pos (starEach es env)).any (·.1) = false
  | [], _ => rfl
  | e :: es, h => by
    rw [star_ok (h e List.mem_cons_self)]
    show (false || (backTo pos (starEach es env)).any (·.1)) = false
    rw [Bool.false_or]
    exact plain_ok fun x hx => h x (List.mem_cons_of_mem _ hx)
theorem allplain_ok {env : Env} {pos : Pos} : ∀ {es : List Expr}, NoStar es → (backTo pos (starEach es env)).all (fun x => !x.1) = true
  | [], _ => rfl
  | e :: es, h => by
    rw [star_ok (h e List.mem_cons_self)]
    show (true && (backTo pos (starEach es env)).all (fun x => !x.1)) = true
    rw [Bool.true_and]
    exact allplain_ok fun x hx => h x (List.mem_cons_of_mem _ hx)
section
variable {N : List Str} {sg : Sig} {mth : List Str}
theorem cE_star {n : Nat} {sc : Scope} {e : Expr} {p : Px} (h : cE N sg mth n sc e = some p) : ∀ v q, e ≠ .Starred v q := by
  rintro v q rfl
  cases n with
  | zero => unfold cE at h; cases h
  | succ n => unfold cE at h; cases h
theorem cA_star : ∀ {n : Nat} {sc : Scope} {es : List Expr} {p : Px}, cA N sg mth n sc es = some p → NoStar es
  | 0, _, _, _, h => by unfold cA at h; cases h
  | n + 1, sc, [], p, _ => fun e he => absurd he (by simp)
  | n + 1, sc, e :: r, p, h => by
    unfold cA at h
    simp only at h
    split at h
    · rename_i h1 h2
      intro x hx
      rcases List.mem_cons.mp hx with rfl | hx
      · exact cE_star h1
      · exact cA_star h2 x hx
    · cases h
end
theorem notIn {op : CmpOp} (h : cmpOk op = true) : op ≠ .In ∧ op ≠ .NotIn := by
  cases op <;> first | exact ⟨by decide, by decide⟩ | cases h
theorem mark_ok {op : CmpOp} {b : Expr} (h : cmpOk op = true) : behindInMarks op b = false := nomark b (notIn h).1 (notIn h).2
theorem mark2_ok {op op' : CmpOp} {b c : Expr} (h : cmpOk op' = true) : lastMarks [op, op'] [b, c] = false := by
  show lastMarks [op'] [c] = false
  exact mark_ok h

def gNames : List Nat → TGs
  | [] => gNil
  | i :: is => gCons (gName i) (gNames is)
def gTg (K : PySem.W.Frag) (one : Bool) (tg : List Nat) : TG := match one, tg with
  | true, [i] => gName i
  | _, tg => gTup K tg.length (gNames tg)
theorem wipe_mem {σ : L2.St} {x : Option V} : ∀ {vs : List Nat} {i : Nat}, i ∈ vs → L2.wipe (σ.set i x) vs = L2.wipe σ vs
  | [], i, h => absurd h (by simp)
  | v :: vs, i, h => by
    unfold L2.wipe
    by_cases hv : i ∈ vs
    · rw [wipe_mem hv]
    · have e : i = v := by
        rcases List.mem_cons.mp h with q | q
        · exact q
        · exact absurd q hv
      subst e
      have out : ∀ (ws : List Nat), i ∉ ws → L2.wipe (σ.set i x) ws = (L2.wipe σ ws).set i x := by
        intro ws
        induction ws with
        | nil => intro _; rfl
        | cons w ws ih =>
          intro hw
          unfold L2.wipe
          rw [ih fun q => hw (List.mem_cons_of_mem _ q)]
          exact List.set_comm _ _ fun q => hw (by rw [q]; exact List.mem_cons_self)
      rw [out vs hv, List.set_set]
theorem wipe_wipe {σ : L2.St} : ∀ {ws vs : List Nat}, (∀ i ∈ ws, i ∈ vs) → L2.wipe (L2.wipe σ ws) vs = L2.wipe σ vs
  | [], _, _ => rfl
  | w :: ws, vs, h => by
    show L2.wipe ((L2.wipe σ ws).set w none) vs = _
    rw [wipe_mem (h w List.mem_cons_self)]
    exact wipe_wipe fun i hi => h i (List.mem_cons_of_mem _ hi)
section
variable {K : PySem.W.Frag} {H : Hp}
theorem names_set : ∀ {is : List Nat} {ds : List D} {vs : List V} {d d' : DSt} {σ : L2.St} {R : L2.St → Hp → Prop}, RepS K H d σ → RepL K H ds vs → setAll is ds d = some d' →
    (∀ σ', RepS K H d' σ' → (∀ ws : List Nat, (∀ i ∈ is, i ∈ ws) → L2.wipe σ' ws = L2.wipe σ ws) → R σ' H) → gNames is vs σ H R
  | [], [], vs, d, d', σ, R, rs, rl, e, h => by
    rw [repL_nil.mp rl]
    cases e
    exact ⟨rfl, h σ rs fun _ _ => rfl⟩
  | i :: is, x :: ds, vs, d, d', σ, R, rs, rl, e, h => by
    obtain ⟨w, ws, rfl, r1, r2⟩ := repL_cons.mp rl
    refine ⟨w, ws, rfl, ?_⟩
    refine names_set (rs.set r1 i) r2 e fun σ' rs' hw => h σ' rs' fun ws' hm => ?_
    rw [hw ws' fun j hj => hm j (List.mem_cons_of_mem _ hj)]
    exact wipe_mem (hm i List.mem_cons_self)
  | [], _ :: _, _, _, _, _, _, _, _, e, _ => by cases e
  | _ :: _, [], _, _, _, _, _, _, _, e, _ => by cases e
theorem setAll_len : ∀ {is : List Nat} {ds : List D} {d d' : DSt}, setAll is ds d = some d' → is.length = ds.length
  | [], [], _, _, _ => rfl
  | _ :: is, _ :: ds, _, _, e => by
    have e : setAll is ds _ = some _ := e
    rw [List.length_cons, List.length_cons, setAll_len e]
  | [], _ :: _, _, _, e => by cases e
  | _ :: _, [], _, _, e => by cases e
theorem tg_set {one : Bool} {tg : List Nat} {x : D} {v : V} {d d' : DSt} {σ : L2.St} {R : L2.St → Hp → Prop} (rs : RepS K H d σ) (rx : Rep K H x v) (e : bindT tg one x d = some d')
    (h : ∀ σ', RepS K H d' σ' → (∀ ws : List Nat, (∀ i ∈ tg, i ∈ ws) → L2.wipe σ' ws = L2.wipe σ ws) → R σ' H) : gTg K one tg v σ H R := by
  unfold bindT at e
  split at e
  · cases e
    exact h _ (rs.set rx _) fun ws hm => wipe_mem (hm _ List.mem_cons_self)
  · rename_i ds
    obtain ⟨a, vs, rfl, q, rl⟩ := rep_tup.mp rx
    have key : gTup K tg.length (gNames tg) (.ref a) σ H R := ⟨a, vs, rfl, q, by rw [← rl.length, setAll_len e], names_set rs rl e h⟩
    exact key
  · cases e
end
theorem names_pg {X : Cx} (hN : X.N.Nodup) : ∀ {es : List Expr} {xs : List Str} {is : List Nat}, names es = some xs → ixs X.N xs = some is → (∀ x ∈ xs, L2.Loc X.env.scope x) → (∀ x ∈ xs, X.fn x = true ∨ X.env.scope.names.lookup x = some .local) → PGs X es (gNames is)
  | [], xs, is, h1, h2, _, _ => by
    cases h1; cases h2
    exact pgs_nil
  | e :: es, xs, is, h1, h2, hl, hf => by
    cases e with
    | Name x p =>
      have h1 : (names es).map (x :: ·) = some xs := h1
      cases q : names es with
      | none => rw [q] at h1; cases h1
      | some ys =>
        rw [q] at h1; cases h1
        unfold ixs at h2
        split at h2
        · rename_i i js h3 h4
          cases h2
          exact pgs_cons (pg_name hN (ixOf_get h3) (hl x List.mem_cons_self) (hf x List.mem_cons_self)) (names_pg hN q h4 (fun y hy => hl y (List.mem_cons_of_mem _ hy)) fun y hy => hf y (List.mem_cons_of_mem _ hy)) rfl
        · cases h2
    | _ => cases h1
theorem names_len : ∀ {es : List Expr} {xs : List Str}, names es = some xs → es.length = xs.length ∧ ∀ env, (assignEach es env).length = es.length ∧ (assignEach es env).findIdx? (·.1) = none
  | [], xs, h => by cases h; exact ⟨rfl, fun _ => ⟨rfl, rfl⟩⟩
  | e :: es, xs, h => by
    cases e with
    | Name x p =>
      have h : (names es).map (x :: ·) = some xs := h
      cases q : names es with
      | none => rw [q] at h; cases h
      | some ys =>
        rw [q] at h; cases h
        obtain ⟨h1, h2⟩ := names_len q
        refine ⟨by rw [List.length_cons, List.length_cons, h1], fun env => ?_⟩
        obtain ⟨h3, h4⟩ := h2 env
        refine ⟨?_, ?_⟩
        · show ((false, assign (.Name x p) env) :: assignEach es env).length = _
          rw [List.length_cons, List.length_cons, h3]
        · show ((false, assign (.Name x p) env) :: assignEach es env).findIdx? (·.1) = none
          rw [List.findIdx?_cons, h4]
          rfl
    | _ => cases h
theorem ixs_len {N : List Str} : ∀ {xs : List Str} {is : List Nat}, ixs N xs = some is → is.length = xs.length
  | [], is, h => by cases h; rfl
  | x :: xs, is, h => by
    unfold ixs at h
    split at h
    · rename_i h1 h2
      cases h
      rw [List.length_cons, List.length_cons, ixs_len h2]
    · cases h
theorem tg_pg {X : Cx} {tg : Expr} {one : Bool} {xs : List Str} {is : List Nat} (hc : X.calm = true) (hN : X.N.Nodup) (hf : ∀ x ∈ xs, X.fn x = true ∨ X.env.scope.names.lookup x = some .local)
    (h1 : tgNames tg = some (one, xs)) (h2 : ixs X.N xs = some is) (hl : ∀ x ∈ xs, L2.Loc X.env.scope x) : PG X tg (gTg X.K one is) := by
  cases tg with
  | Name x p =>
    cases h1
    unfold ixs at h2
    split at h2
    · rename_i i js h3 h4
      cases h2
      unfold ixs at h4
      cases h4
      exact pg_name hN (ixOf_get h3) (hl x List.mem_cons_self) (hf x List.mem_cons_self)
    · cases h2
  | Tuple es k p =>
    simp only [tgNames] at h1
    split at h1
    · rename_i ys hy
      cases h1
      obtain ⟨l1, l2⟩ := names_len hy
      obtain ⟨l3, l4⟩ := l2 X.env
      have key : PG X (.Tuple es k p) (gTup X.K is.length (gNames is)) := pg_tup hc (names_pg hN hy h2 hl hf) (by rw [l3, l1, ixs_len h2]) l4
      cases is with
      | nil => exact key
      | cons i is => cases is <;> exact key
    · cases h1
  | _ => cases h1
theorem loc_of {sc : Scope} {x : Str} (h : isLoc sc x = true) : L2.Loc sc x := by
  unfold isLoc at h
  unfold L2.Loc
  split at h
  · exact .inl (by assumption)
  · exact .inr (by assumption)
  · cases h
theorem vis_of {sc : Scope} {x : Str} (h : isVis sc x = true) : Vis sc x := by
  unfold isVis at h
  unfold Vis
  split at h
  · exact .inl (by assumption)
  · exact .inr (.inl (by assumption))
  · exact .inr (.inr (by assumption))
  · cases h
theorem gl_of {sc : Scope} {x : Str} {X : Cx} (h : isGl sc x = true) (e : X.env.scope = sc) : Gl X x := by
  unfold isGl at h
  show X.env.scope.names.lookup x = _
  rw [e]
  split at h
  · assumption
  · cases h

section
variable {K : PySem.W.Frag} {G : Str → DSp}
theorem hid_mut {H : Hp} {M : Mp} {a : Addr} {vs ws : List V} (h : H a = some (.lst vs)) (n : M a = none) (m : RepM K H M) : RepM K (upd H a (.lst ws)) M := by
  have k : Keep K H (upd H a (.lst ws)) := Keep.mut h
  intro b o e
  have z : b ≠ a := fun z => by rw [z, n] at e; cases e
  have r1 := m b o e
  cases o with
  | lst ds =>
    obtain ⟨vs, e, q⟩ := r1
    exact ⟨vs, by rw [upd_ne z]; exact e, q.keep k⟩
  | rol ds =>
    obtain ⟨vs, e, q⟩ := r1
    refine ⟨vs, ?_, q.keep k⟩
    rcases e with e | ⟨ob, e⟩
    · exact .inl (by rw [upd_ne z]; exact e)
    · exact .inr ⟨ob, by rw [upd_ne z]; exact e⟩
theorem Prog.hid {H H' : Hp} {M M' : Mp} {a : Addr} {vs ws : List V} (p : Prog K H M H' M') (n : H a = none) (h : H' a = some (.lst vs)) : Prog K H M (upd H' a (.lst ws)) M' :=
  ⟨p.keep.trans (Keep.mut h), fun b o e k => ⟨by rw [upd_ne (ne_of_none e n)]; exact (p.fr b o e k).1, (p.fr b o e k).2⟩, fun b e => by
    by_cases z : b = a
    · subst z; rw [upd_same]; simp
    · rw [upd_ne z]; exact p.live b e⟩
/-- the turns of a comprehension, over the hand layer's iterator -/
theorem comp_turns {pc pe : Px} {tg own : List Nat} {one : Bool} {nx : Nx} {J : It} {d : DSt} {σ : L2.St} {H0 H1 : Hp} {M0 M1 : Mp} {L : Addr} {R : List D → Mp → Prop} {Q : VK} (htg : ∀ i ∈ tg, i ∈ own) (rs : RepS K H0 d σ) (p1 : Prog K H0 M0 H1 M1) (m1 : RepM K H1 M1) (ok : ItOk K H1 nx J) (nL : H1 L = none)
    (hR : ∀ acc M2 H2 vs, Prog K H1 M1 H2 M2 → RepM K H2 M2 → M2 L = none → H2 L = some (.lst vs) → RepL K H2 acc vs → R acc M2 → Q (.ref L) H2)
    (k : Nat) (z : compN (wE G pe) (wE G pc) tg one nx (wipeD d own) R k 0 [] M1) :
    ∃ W : Nat → Nat → Hp → Prop, (∃ m, W 0 m (upd H1 L (.lst []))) ∧ ∀ i m H, W i m H →
      (J.stop i H ∧ Q (.ref L) H) ∨ (J.go i H ∧ ∃ Nx : Hp → Prop, (∀ H', Nx H' → ∃ m', m' < m ∧ W (i + 1) m' H') ∧ ∀ x H', J.yld i H x H' → gTg K one tg x (L2.wipe σ own) H' fun σ2 H2 => L2.wipe σ2 own = L2.wipe σ own ∧ tTI K G pc σ2 H2 fun b H3 =>
        if b = true then tI K G pe σ2 H3 fun y H4 => ∃ acc, H4 L = some (.lst acc) ∧ acc.length < sizeLine ∧ Nx (upd H4 L (.lst (acc ++ [y]))) else Nx H3) := by
  refine ⟨fun i m H => ∃ acc vs M, compN (wE G pe) (wE G pc) tg one nx (wipeD d own) R m i acc M ∧ H L = some (.lst vs) ∧ RepL K H acc vs ∧ RepM K H M ∧ M L = none ∧ Prog K H1 M1 H M,
    ⟨k, [], [], M1, z, upd_same, repL_nil.mpr rfl, m1.new nL, m1.fresh nL, Prog.new m1 nL⟩, ?_⟩
  rintro i m H ⟨acc, vs, M, z, hL, rl, mm, nM, pp⟩
  cases m with
  | zero => exact z.elim
  | succ m =>
    unfold compN at z
    obtain ⟨ok1, ok2⟩ := ok i H M pp.keep mm
    split at z
    · exact z.elim
    · rename_i e
      exact .inl ⟨ok1 e, hR acc M H vs pp mm nM hL rl z⟩
    · rename_i x e
      obtain ⟨hgo, hy⟩ := ok2 x e
      refine .inr ⟨hgo, fun H' => ∃ acc vs M, compN (wE G pe) (wE G pc) tg one nx (wipeD d own) R m (i + 1) acc M ∧ H' L = some (.lst vs) ∧ RepL K H' acc vs ∧ RepM K H' M ∧ M L = none ∧ Prog K H1 M1 H' M, fun H' w => ⟨m, Nat.lt_succ_self m, w⟩, fun v H' y => ?_⟩
      obtain ⟨q1, rx, m'⟩ := hy v H' y
      obtain ⟨d', hb, z⟩ := z
      have rs' : RepS K H' (wipeD d own) (L2.wipe σ own) := (rs.keep ((p1.keep.trans pp.keep).trans q1.keep)).wipe own
      refine tg_set rs' rx hb fun σ2 rs2 hw => ⟨?_, ?_⟩
      · rw [hw own htg, wipe_wipe fun _ h => h]
      · refine ⟨d', M, rs2, m', wE_mono (fun b M3 z => ?_) z⟩
        rcases z with ⟨rfl, z⟩ | ⟨rfl, M5, sb, z⟩
        · refine ⟨true, rfl, fun H3 q3 m3 => ?_⟩
          refine L2.iteT ?_
          refine ⟨d', M3, rs2.keep q3.keep, m3, wE_mono (fun y M4 z => ?_) z⟩
          intro H4 u q4 ry m4
          obtain ⟨hz, M5, sb, z⟩ := z
          obtain ⟨f1, f2⟩ := q1.fr L _ hL nM
          obtain ⟨f3, f4⟩ := q3.fr L _ f1 f2
          obtain ⟨f5, f6⟩ := q4.fr L _ f3 f4
          have rl4 : RepL K H4 acc vs := ((rl.keep q1.keep).keep q3.keep).keep q4.keep
          have pall : Prog K H1 M1 H4 M4 := ((pp.trans q1).trans q3).trans q4
          have kk : Keep K H4 (upd H4 L (.lst (vs ++ [u]))) := Keep.mut f5
          refine ⟨vs, f5, by rw [← rl4.length]; exact hz, acc ++ [y], vs ++ [u], M5, z, upd_same, (rl4.append (RepL.one ry)).keep kk, hid_mut f5 (sb.none f6) (m4.sub sb), sb.none f6, (pall.sub sb).hid nL f5⟩
        · refine ⟨false, rfl, fun H3 q3 m3 => ?_⟩
          refine L2.iteF ?_
          obtain ⟨f1, f2⟩ := q1.fr L _ hL nM
          obtain ⟨f3, f4⟩ := q3.fr L _ f1 f2
          exact ⟨acc, vs, M5, z, f3, (rl.keep q1.keep).keep q3.keep, m3.sub sb, sb.none f4, (((pp.trans q1).trans q3).sub sb)⟩
end
end Pd

set_option maxHeartbeats 8000000
namespace Pd
open PySem PySem.Spec L2

section
variable {N : List Str} {sg : Sig} {mth : List Str} {G : Str → DSp} {sc : Scope} {X : Cx}

theorem Ctx.fnok (c : Ctx N sg mth G sc X) : True := trivial
/-- the context of a comprehension's block -/
theorem Ctx.blk (c : Ctx N sg mth G sc X) (s : Shared) (H : Hp) (scope : Scope) (C : Addr) (cl : List (Str × Addr)) (fp : List Addr) : Ctx N sg mth G (relS scope sc) (X.blk s H scope (compEnvC scope cl C X.env) fp) :=
  { calm := c.calm, ns := c.ns, gu := c.gu, fr := c.fr, tree := c.tree, room := c.room, hN := c.hN, nd := c.nd,
    hsc := by
      show relS scope X.env.scope = relS scope sc
      rw [c.hsc]
    pyl := c.pyl, free := c.free, mth := c.mth, defs := c.defs }

theorem var_ok {K : PySem.W.Frag} {i : Nat} {σ : L2.St} {H : Hp} {Q : VK} (z : tI K G (.var i) σ H Q) : tVar i σ H Q := by
  obtain ⟨d, M, rs, m, z⟩ := z
  unfold wE at z
  obtain ⟨x, e, z⟩ := z
  obtain ⟨v, ev, rv⟩ := rs.2 i x e
  exact ⟨v, ev, z.now rv m⟩
theorem const_ok {K : PySem.W.Frag} {p : Px} {d0 : D} {v : V} (hp : ∀ d M (Q : DK), wE G p d M Q → Q d0 M) (hr : ∀ H, Rep K H d0 v) {σ : L2.St} {H : Hp} {Q : VK} (z : tI K G p σ H Q) : tC v σ H Q := by
  obtain ⟨d, M, rs, m, z⟩ := z
  exact (hp _ _ _ z).now (hr H) m

theorem biOf_pe (c : Ctx N sg mth G sc X) {f : Str} {n : Nat} {b : Bi} (hb : biOf mth f n = some b) (hg : Gl X f) {p pos : Pos} {e : Expr} {es : List Expr} {t : TA} (ha : PA X (e :: es) t)
    (he : starEach (e :: es) X.env = (false, eval e X.env) :: starEach es X.env) (hpl : (backTo pos (starEach es X.env)).any (·.1) = false) : PE X (.Call (.Name f p) (e :: es) [] pos) (tCB (rBi X.K b) t) := by
  unfold biOf at hb
  by_cases q1 : f = "len"
  · rw [if_pos q1] at hb
    subst f
    by_cases w : n = 1
    · rw [if_pos w] at hb
      cases hb; exact pe_callB bi_len hg (c.free "len" (by simp)) (by decide +kernel) ha (by decide) (by decide) he hpl
    · rw [if_neg w] at hb; cases hb
  rw [if_neg q1] at hb
  by_cases q2 : f = "abs"
  · rw [if_pos q2] at hb
    subst f
    by_cases w : n = 1
    · rw [if_pos w] at hb
      cases hb; exact pe_callB bi_abs hg (c.free "abs" (by simp)) (by decide +kernel) ha (by decide) (by decide) he hpl
    · rw [if_neg w] at hb; cases hb
  rw [if_neg q2] at hb
  by_cases q3 : f = "int"
  · rw [if_pos q3] at hb
    subst f
    by_cases w : n = 1
    · rw [if_pos w] at hb
      cases hb; exact pe_callTy bi_int hg (c.free "int" (by simp)) (by decide +kernel) ha (by decide) (by decide) he hpl
    · rw [if_neg w] at hb; cases hb
  rw [if_neg q3] at hb
  by_cases q4 : f = "tuple"
  · rw [if_pos q4] at hb
    subst f
    by_cases w : n = 1
    · rw [if_pos w] at hb
      cases hb; exact pe_callTy bi_tuple hg (c.free "tuple" (by simp)) (by decide +kernel) ha (by decide) (by decide) he hpl
    · rw [if_neg w] at hb; cases hb
  rw [if_neg q4] at hb
  by_cases q5 : f = "list"
  · rw [if_pos q5] at hb
    subst f
    by_cases w : n = 1
    · rw [if_pos w] at hb
      cases hb; exact pe_callTy bi_list hg (c.free "list" (by simp)) (by decide +kernel) ha (by decide) (by decide) he hpl
    · rw [if_neg w] at hb; cases hb
  rw [if_neg q5] at hb
  by_cases q6 : f = "repr"
  · rw [if_pos q6] at hb
    subst f
    by_cases w : n = 1
    · rw [if_pos w] at hb
      cases hb; exact pe_callB (bi_repr c.toHere) hg (c.free "repr" (by simp)) (by decide +kernel) ha (by decide) (by decide) he hpl
    · rw [if_neg w] at hb; cases hb
  rw [if_neg q6] at hb
  by_cases q7 : f = "max"
  · rw [if_pos q7] at hb
    subst f
    by_cases w : n = 2
    · rw [if_pos w] at hb
      cases hb; exact pe_callB (bi_max2 c.calm) hg (c.free "max" (by simp)) (by decide +kernel) ha (by decide) (by decide) he hpl
    · rw [if_neg w] at hb
      by_cases w2 : n = 1
      · rw [if_pos w2] at hb
        cases hb; exact pe_callB (bi_maxl c.calm) hg (c.free "max" (by simp)) (by decide +kernel) ha (by decide) (by decide) he hpl
      · rw [if_neg w2] at hb; cases hb
  rw [if_neg q7] at hb
  by_cases q8 : f = "min"
  · rw [if_pos q8] at hb
    subst f
    by_cases w : n = 2
    · rw [if_pos w] at hb
      cases hb; exact pe_callB (bi_min2 c.calm) hg (c.free "min" (by simp)) (by decide +kernel) ha (by decide) (by decide) he hpl
    · rw [if_neg w] at hb
      by_cases w2 : n = 1
      · rw [if_pos w2] at hb
        cases hb; exact pe_callB (bi_minl c.calm) hg (c.free "min" (by simp)) (by decide +kernel) ha (by decide) (by decide) he hpl
      · rw [if_neg w2] at hb; cases hb
  rw [if_neg q8] at hb
  by_cases q9 : f = "sum"
  · rw [if_pos q9] at hb
    subst f
    by_cases w : n = 1
    · rw [if_pos w] at hb
      cases hb; exact pe_callB (bi_suml c.calm) hg (c.free "sum" (by simp)) (by decide +kernel) ha (by decide) (by decide) he hpl
    · rw [if_neg w] at hb; cases hb
  rw [if_neg q9] at hb
  by_cases q10 : f = "gcd"
  · rw [if_pos q10] at hb
    subst f
    by_cases w : (decide (n = 2) && mth.contains "gcd") = true
    · rw [if_pos w] at hb
      rw [Bool.and_eq_true] at w
      cases hb; exact pe_callBfun bi_gcd hg (c.mth "gcd" (by simpa using w.2) "math.gcd" (by decide +kernel)) ha (by decide) he hpl
    · rw [if_neg w] at hb; cases hb
  rw [if_neg q10] at hb
  by_cases q11 : f = "comb"
  · rw [if_pos q11] at hb
    subst f
    by_cases w : (decide (n = 2) && mth.contains "comb") = true
    · rw [if_pos w] at hb
      rw [Bool.and_eq_true] at w
      cases hb; exact pe_callBfun bi_comb hg (c.mth "comb" (by simpa using w.2) "math.comb" (by decide +kernel)) ha (by decide) he hpl
    · rw [if_neg w] at hb; cases hb
  rw [if_neg q11] at hb
  by_cases q12 : f = "lcm"
  · rw [if_pos q12] at hb
    subst f
    by_cases w : (decide (n = 2) && mth.contains "lcm") = true
    · rw [if_pos w] at hb
      rw [Bool.and_eq_true] at w
      cases hb; exact pe_callBfun bi_lcm hg (c.mth "lcm" (by simpa using w.2) "math.lcm" (by decide +kernel)) ha (by decide) he hpl
    · rw [if_neg w] at hb; cases hb
  rw [if_neg q12] at hb
  cases hb

theorem tyOf_ty {t : Str} {ty : Ty} (h : tyOf t = some ty) : (t = "int" ∧ ty = .int) ∨ (t = "bool" ∧ ty = .bool) ∨ (t = "tuple" ∧ ty = .tuple) ∨ (t = "str" ∧ ty = .str) := by
  unfold tyOf at h
  split at h
  · cases h; exact .inl ⟨by assumption, rfl⟩
  split at h
  · cases h; exact .inr (.inl ⟨by assumption, rfl⟩)
  split at h
  · cases h; exact .inr (.inr (.inl ⟨by assumption, rfl⟩))
  split at h
  · cases h; exact .inr (.inr (.inr ⟨by assumption, rfl⟩))
  · cases h
theorem ty_pe (c : Ctx N sg mth G sc X) {t : Str} {ty : Ty} (h : tyOf t = some ty) (hg : Gl X t) {pos : Pos} : PE X (.Name t pos) (tC (tyV' ty)) := by
  rcases tyOf_ty h with ⟨rfl, rfl⟩ | ⟨rfl, rfl⟩ | ⟨rfl, rfl⟩ | ⟨rfl, rfl⟩
  · exact pe_bltn hg (c.free "int" (by simp)) (by decide +kernel : bootBuiltins "int" = some (.type "int")) rfl (by decide) (by decide)
  · exact pe_bltn hg (c.free "bool" (by simp)) (by decide +kernel : bootBuiltins "bool" = some (.type "bool")) rfl (by decide) (by decide)
  · exact pe_bltn hg (c.free "tuple" (by simp)) (by decide +kernel : bootBuiltins "tuple" = some (.type "tuple")) rfl (by decide) (by decide)
  · exact pe_bltn hg (c.free "str" (by simp)) (by decide +kernel : bootBuiltins "str" = some (.type "str")) rfl (by decide) (by decide)

/-- what a value is walked as -/
theorem walk_value {K : PySem.W.Frag} {tg : Expr} {pins : List (Addr × Obj)} {σ : L2.St} {H : Hp} {s : Shared} {R : It → Hp → Prop} {v : V} {u : Value} {x : D} {M : Mp} (I : Inv X pins σ H s) (r : RelV v u) (rx : Rep X.K H x v) (m : RepM X.K H M) (ok : itOk M x)
    (q : ∀ J, ItOk X.K H (nSeq x) J → R J H) : wpAny (model X.prog X.w) X.A (pyIter u) (PIE X pins σ tg R) X.xe s := by
  cases x with
  | tup ds =>
    obtain ⟨a, vs, rfl, hq, rl⟩ := rep_tup.mp rx
    cases r
    obtain ⟨its, rv, p, hz⟩ := I.tuple hq
    refine wpAny_pyIter_tuple (show s.heap.IsTuple a its.toArray from p) ?_
    exact pi_one (tk := s.toks) I _ (turn_tuple a _) ⟨_, Heap.get?_push_size _ rfl, rfl, rfl⟩ (q _ (ok_tup hq rl))
  | ref a =>
    obtain ⟨ds, l⟩ := ok
    rw [rep_ref] at rx; subst rx
    cases r
    obtain ⟨vs, hq, rl⟩ := l.sq m
    obtain ⟨its, rv, p, hz⟩ := I.list (.inl hq)
    refine wpAny_pyIter_list p.isList ?_
    exact pi_one (tk := s.toks) I _ (turn_list a _) ⟨_, Heap.get?_push_size _ rfl, rfl, rfl⟩ (q _ ok_list)
  | str y =>
    rw [rep_str] at rx; subst rx
    obtain ⟨t, rfl⟩ := r
    cases ha : y.cps.all (· < 128)
    · exact wpAny_pyIter_wide ha (pi_one (tk := s.toks) I _ (turn_str _ y t "str_iterator" (.inr rfl)) ⟨_, Heap.get?_push_size _ rfl, rfl, rfl⟩ (q _ ok_str))
    · exact wpAny_pyIter_ascii ha (pi_one (tk := s.toks) I _ (turn_str _ y t "str_ascii_iterator" (.inl rfl)) ⟨_, Heap.get?_push_size _ rfl, rfl, rfl⟩ (q _ ok_str))
  | _ => exact ok.elim
theorem it_pi {tg e : Expr} {p : Px} (h : PE X e (tI X.K G p)) : PI X tg e (tWI X.K G (.itE p)) := by
  refine ⟨fun pins s σ H R I z => ?_⟩
  obtain ⟨d, M, rs, m, z⟩ := z
  unfold wI at z
  refine thn (h.run pins s σ H (fun v H1 => ∃ x M1, Prog X.K H M H1 M1 ∧ Rep X.K H1 x v ∧ RepM X.K H1 M1 ∧ itOk M1 x ∧ ∀ J, ItOk X.K H1 (nSeq x) J → R J H1) I
    ⟨d, M, rs, m, wE_mono (fun x M1 z => fun H1 v p1 rx m1 => ⟨x, M1, p1, rx, m1, z.1, fun J ok => z.2 H1 J p1 m1 ok⟩) z⟩) fun v s1 hq => ?_
  obtain ⟨y, H1, I1, r1, x, M1, p1, rx, m1, ok, q⟩ := hq
  exact walk_value (K := X.K) I1 r1 rx m1 ok q

/-- arguments of one item -/
theorem args1 {e : Expr} {p : Px} {t : TA} (h : PA X [e] t) : PA X [e] t := h
end
end Pd

set_option maxHeartbeats 8000000
namespace Pd
open PySem PySem.Spec L2
section
variable {N : List Str} {sg : Sig} {mth : List Str} {G : Str → DSp}
/-- what is shown at a fuel -/
structure Snd (N : List Str) (sg : Sig) (mth : List Str) (G : Str → DSp) (n : Nat) : Prop where
  e : ∀ sc X, Ctx N sg mth G sc X → ∀ e p, cE N sg mth n sc e = some p → PE X e (tI X.K G p)
  c : ∀ sc X, Ctx N sg mth G sc X → ∀ a ops bs pos p, cE N sg mth n sc (.Compare a ops bs pos) = some p → PT X (.Compare a ops bs pos) (tTI X.K G p)
  t : ∀ sc X, Ctx N sg mth G sc X → ∀ e p, cT N sg mth n sc e = some p → PT X e (tTI X.K G p) ∧ ((∃ op es pos, e = .BoolOp op es pos) → PW X e (tTI X.K G p))
  a : ∀ sc X, Ctx N sg mth G sc X → ∀ es p, cA N sg mth n sc es = some p → PA X es (tAI X.K G p)
  k : ∀ sc X, Ctx N sg mth G sc X → ∀ (kws : List Keyword) p, cA N sg mth n sc (kws.map (·.value)) = some p → PK X kws (tAI X.K G p)
  o : ∀ sc X, Ctx N sg mth G sc X → ∀ o p, cO N sg mth n sc o = some p → PO X o (tOI X.K G p)
  i : ∀ sc X, Ctx N sg mth G sc X → ∀ e p, cI N sg mth n sc e = some p → ∀ tg, (needTup p = true → ∃ es k pos, tg = .Tuple es k pos) → PI X tg e (tWI X.K G p)

section
variable {sc : Scope} {X : Cx}
theorem bin_conv {K : PySem.W.Frag} {op : Operator} {pa pb : Px} {σ : L2.St} {H : Hp} {Q : VK} (z : tI K G (.bin op pa pb) σ H Q) :
    tOp (fun vx vy H Q => ∃ x y M, Rep K H x vx ∧ Rep K H y vy ∧ RepM K H M ∧ binD op x y M (want K H M Q)) (tI K G pa) (tI K G pb) σ H Q := by
  obtain ⟨d, M, rs, m, z⟩ := z
  unfold wE at z
  refine two_step (R := fun x y Q M2 => binD op x y M2 Q) rs m z fun x y vx vy H2 M2 p2 rx ry m2 z => ⟨x, y, M2, rx, ry, m2, binD_mono (fun d M' h => h.at p2) z⟩
theorem cmp_conv {K : PySem.W.Frag} {op : CmpOp} {pa pb : Px} {σ : L2.St} {H : Hp} {Q : VK} (z : tI K G (.cmp op pa pb) σ H Q) :
    tOp (fun vx vy H Q => ∃ x y M, Rep K H x vx ∧ Rep K H y vy ∧ RepM K H M ∧ cmpD op x y M (want K H M Q)) (tI K G pa) (tI K G pb) σ H Q := by
  obtain ⟨d, M, rs, m, z⟩ := z
  unfold wE at z
  refine two_step (R := fun x y Q M2 => cmpD op x y M2 Q) rs m z fun x y vx vy H2 M2 p2 rx ry m2 z => ⟨x, y, M2, rx, ry, m2, cmpD_mono (fun d M' h => h.at p2) z⟩
theorem idx_conv {K : PySem.W.Frag} {pa pb : Px} {σ : L2.St} {H : Hp} {Q : VK} (z : tI K G (.idx pa pb) σ H Q) :
    tOp (fun vx vy H Q => ∃ x y M, Rep K H x vx ∧ Rep K H y vy ∧ RepM K H M ∧ idxD x y M (want K H M Q)) (tI K G pa) (tI K G pb) σ H Q := by
  obtain ⟨d, M, rs, m, z⟩ := z
  unfold wE at z
  refine two_step (R := fun x y Q M2 => idxD x y M2 Q) rs m z fun x y vx vy H2 M2 p2 rx ry m2 z => ⟨x, y, M2, rx, ry, m2, idxD_mono (fun d M' h => h.at p2) z⟩
/-- a value that is a bool, as a test -/
theorem test_of {K : PySem.W.Frag} {p : Px} {t : TE} (k : ∀ σ H Q, tI K G p σ H Q → t σ H Q) (σ : L2.St) (H : Hp) (Q : Bool → Hp → Prop) (z : tTI K G p σ H Q) : t σ H fun x H' => ∃ b, x = .bl b ∧ Q b H' := by
  obtain ⟨d, M, rs, m, z⟩ := z
  refine k _ _ _ ⟨d, M, rs, m, wE_mono (fun x M' z => ?_) z⟩
  obtain ⟨b, rfl, z⟩ := z
  intro H' v p r m'
  rw [rep_bl] at r; subst r
  exact ⟨b, rfl, z H' p m'⟩
theorem chain_conv {K : PySem.W.Frag} {op op' : CmpOp} {pa pb pc : Px} {σ : L2.St} {H : Hp} {Q : VK} (z : tI K G (.chain op op' pa pb pc) σ H Q) :
    tChain (fun vx vy H Q => ∃ x y M, Rep K H x vx ∧ Rep K H y vy ∧ RepM K H M ∧ cmpD op x y M (want K H M Q)) (fun vx vy H Q => ∃ x y M, Rep K H x vx ∧ Rep K H y vy ∧ RepM K H M ∧ cmpD op' x y M (want K H M Q)) (tI K G pa) (tI K G pb) (tI K G pc) σ H Q := by
  obtain ⟨d, M, rs, m, z⟩ := z
  unfold wE at z
  refine ⟨d, M, rs, m, wE_mono (fun x M1 z => ?_) z⟩
  intro H1 vx p1 rx m1
  refine ⟨d, M1, rs.keep p1.keep, m1, wE_mono (fun y M2 z => ?_) z⟩
  intro H2 vy p2 ry m2
  refine ⟨x, y, M2, rx.keep p2.keep, ry, m2, cmpD_mono (fun t M3 z => ?_) z⟩
  intro H3 vt p3 rt m3
  rcases z with ⟨rfl, z⟩ | ⟨rfl, z⟩
  · rw [rep_bl] at rt; subst rt
    refine ⟨true, rfl, L2.iteT ?_⟩
    refine ⟨d, M3, ((rs.keep p1.keep).keep p2.keep).keep p3.keep, m3, wE_mono (fun w M4 z => ?_) z⟩
    intro H4 vw p4 rw m4
    refine ⟨y, w, M4, (ry.keep p3.keep).keep p4.keep, rw, m4, cmpD_mono (fun t' M5 z => ?_) z⟩
    intro H5 vt' p5 rt' m5
    obtain ⟨k, rfl, z⟩ := z
    exact z H5 vt' ((((p1.trans p2).trans p3).trans p4).trans p5) rt' m5
  · rw [rep_bl] at rt; subst rt
    refine ⟨false, rfl, L2.iteF ?_⟩
    exact z H3 _ ((p1.trans p2).trans p3) (rep_bl.mpr rfl) m3
theorem and_conv {K : PySem.W.Frag} {pa pb : Px} {σ : L2.St} {H : Hp} {Q : VK} (z : tI K G (.and pa pb) σ H Q) : tAndV (tI K G pa) (tI K G pb) σ H Q := by
  obtain ⟨d, M, rs, m, z⟩ := z
  unfold wE at z
  refine ⟨d, M, rs, m, wE_mono (fun x M1 z => ?_) z⟩
  intro H1 vx p1 rx m1
  rcases z with ⟨rfl, z⟩ | ⟨rfl, z⟩
  · rw [rep_bl] at rx; subst rx
    refine ⟨true, rfl, L2.iteT ?_⟩
    refine ⟨d, M1, rs.keep p1.keep, m1, wE_mono (fun y M2 z => ?_) z⟩
    intro H2 vy p2 ry m2
    obtain ⟨k, rfl, z⟩ := z
    exact z H2 vy (p1.trans p2) ry m2
  · rw [rep_bl] at rx; subst rx
    exact ⟨false, rfl, L2.iteF (z H1 _ p1 (rep_bl.mpr rfl) m1)⟩
theorem or_conv {K : PySem.W.Frag} {pa pb : Px} {σ : L2.St} {H : Hp} {Q : VK} (z : tI K G (.or pa pb) σ H Q) : tOrV (tI K G pa) (tI K G pb) σ H Q := by
  obtain ⟨d, M, rs, m, z⟩ := z
  unfold wE at z
  refine ⟨d, M, rs, m, wE_mono (fun x M1 z => ?_) z⟩
  intro H1 vx p1 rx m1
  rcases z with ⟨rfl, z⟩ | ⟨rfl, z⟩
  · rw [rep_bl] at rx; subst rx
    exact ⟨true, rfl, L2.iteT (z H1 _ p1 (rep_bl.mpr rfl) m1)⟩
  · rw [rep_bl] at rx; subst rx
    refine ⟨false, rfl, L2.iteF ?_⟩
    refine ⟨d, M1, rs.keep p1.keep, m1, wE_mono (fun y M2 z => ?_) z⟩
    intro H2 vy p2 ry m2
    obtain ⟨k, rfl, z⟩ := z
    exact z H2 vy (p1.trans p2) ry m2
theorem tand_conv {K : PySem.W.Frag} {pa pb : Px} {σ : L2.St} {H : Hp} {Q : Bool → Hp → Prop} (z : tTI K G (.and pa pb) σ H Q) : tAnd (tTI K G pa) (tTI K G pb) σ H Q := by
  obtain ⟨d, M, rs, m, z⟩ := z
  unfold wE at z
  refine ⟨d, M, rs, m, wE_mono (fun x M1 z => ?_) z⟩
  rcases z with ⟨rfl, z⟩ | ⟨rfl, z⟩
  · refine ⟨true, rfl, fun H1 p1 m1 => L2.iteT ?_⟩
    refine ⟨d, M1, rs.keep p1.keep, m1, wE_mono (fun y M2 z => ?_) z⟩
    obtain ⟨k, rfl, k', e, z⟩ := z
    cases e
    exact ⟨k, rfl, fun H2 p2 m2 => z H2 (p1.trans p2) m2⟩
  · obtain ⟨k, e, z⟩ := z
    cases e
    exact ⟨false, rfl, fun H1 p1 m1 => L2.iteF (z H1 p1 m1)⟩
theorem tor_conv {K : PySem.W.Frag} {pa pb : Px} {σ : L2.St} {H : Hp} {Q : Bool → Hp → Prop} (z : tTI K G (.or pa pb) σ H Q) : tOr (tTI K G pa) (tTI K G pb) σ H Q := by
  obtain ⟨d, M, rs, m, z⟩ := z
  unfold wE at z
  refine ⟨d, M, rs, m, wE_mono (fun x M1 z => ?_) z⟩
  rcases z with ⟨rfl, z⟩ | ⟨rfl, z⟩
  · obtain ⟨k, e, z⟩ := z
    cases e
    exact ⟨true, rfl, fun H1 p1 m1 => L2.iteT (z H1 p1 m1)⟩
  · refine ⟨false, rfl, fun H1 p1 m1 => L2.iteF ?_⟩
    refine ⟨d, M1, rs.keep p1.keep, m1, wE_mono (fun y M2 z => ?_) z⟩
    obtain ⟨k, rfl, k', e, z⟩ := z
    cases e
    exact ⟨k, rfl, fun H2 p2 m2 => z H2 (p1.trans p2) m2⟩
theorem tnot_conv {K : PySem.W.Frag} {pa : Px} {σ : L2.St} {H : Hp} {Q : Bool → Hp → Prop} (z : tTI K G (.not pa) σ H Q) : tNot (tTI K G pa) σ H Q := by
  obtain ⟨d, M, rs, m, z⟩ := z
  unfold wE at z
  refine ⟨d, M, rs, m, wE_mono (fun x M1 z => ?_) z⟩
  obtain ⟨k, rfl, k', e, z⟩ := z
  cases e
  exact ⟨k, rfl, z⟩
theorem ife_conv {K : PySem.W.Frag} {pc pa pb : Px} {σ : L2.St} {H : Hp} {Q : VK} (z : tI K G (.ife pc pa pb) σ H Q) : tIf (tTI K G pc) (tI K G pa) (tI K G pb) σ H Q := by
  obtain ⟨d, M, rs, m, z⟩ := z
  unfold wE at z
  refine ⟨d, M, rs, m, wE_mono (fun x M1 z => ?_) z⟩
  rcases z with ⟨rfl, z⟩ | ⟨rfl, z⟩
  · exact ⟨true, rfl, fun H1 p1 m1 => L2.iteT ⟨d, M1, rs.keep p1.keep, m1, wE_mono (fun y M2 z => z.at p1) z⟩⟩
  · exact ⟨false, rfl, fun H1 p1 m1 => L2.iteF ⟨d, M1, rs.keep p1.keep, m1, wE_mono (fun y M2 z => z.at p1) z⟩⟩
theorem cons_conv {K : PySem.W.Frag} {pa pb : Px} {σ : L2.St} {H : Hp} {Q : List V → Hp → Prop} (z : tAI K G (.cons pa pb) σ H Q) : tCons (tI K G pa) (tAI K G pb) σ H Q := by
  obtain ⟨d, M, rs, m, z⟩ := z
  unfold wE at z
  refine ⟨d, M, rs, m, wE_mono (fun x M1 z => ?_) z⟩
  intro H1 vx p1 rx m1
  refine ⟨d, M1, rs.keep p1.keep, m1, wE_mono (fun y M2 z => ?_) z⟩
  obtain ⟨ds, rfl, es, e, z⟩ := z
  cases e
  exact ⟨ds, rfl, fun H2 vs p2 rl m2 => z H2 (vx :: vs) (p1.trans p2) (repL_cons.mpr ⟨vx, vs, rfl, rx.keep p2.keep, rl⟩) m2⟩
theorem tup_conv {K : PySem.W.Frag} {pa : Px} {σ : L2.St} {H : Hp} {Q : VK} (z : tI K G (.tup pa) σ H Q) : tTup (tAI K G pa) σ H Q := by
  obtain ⟨d, M, rs, m, z⟩ := z
  unfold wE at z
  refine ⟨d, M, rs, m, wE_mono (fun x M1 z => ?_) z⟩
  obtain ⟨ds, rfl, hz, z⟩ := z
  refine ⟨ds, rfl, fun H1 vs p1 rl m1 => ⟨by rw [← rl.length]; exact hz, fun a n => ?_⟩⟩
  exact z _ _ (p1.trans (Prog.new m1 n)) (rep_tup.mpr ⟨a, vs, rfl, .inl (.inl upd_same), rl.keep (Keep.new n)⟩) (m1.new n)
theorem lst_conv {K : PySem.W.Frag} {pa : Px} {σ : L2.St} {H : Hp} {Q : VK} (z : tI K G (.lst pa) σ H Q) : tLst (tAI K G pa) σ H Q := by
  obtain ⟨d, M, rs, m, z⟩ := z
  unfold wE at z
  refine ⟨d, M, rs, m, wE_mono (fun x M1 z => ?_) z⟩
  obtain ⟨ds, rfl, hz, z⟩ := z
  refine ⟨ds, rfl, fun H1 vs p1 rl m1 => ⟨by rw [← rl.length]; exact hz, fun a n => ?_⟩⟩
  exact z a (m1.fresh n) _ _ (p1.trans (Prog.newL m1 n)) (rep_ref.mpr rfl) (m1.newL n rl)
theorem bi_conv {K : PySem.W.Frag} {b : Bi} {pa : Px} {σ : L2.St} {H : Hp} {Q : VK} (z : tI K G (.bi b pa) σ H Q) : tCB (rBi K b) (tAI K G pa) σ H Q := by
  obtain ⟨d, M, rs, m, z⟩ := z
  unfold wE at z
  refine ⟨d, M, rs, m, wE_mono (fun x M1 z => ?_) z⟩
  obtain ⟨ds, rfl, z⟩ := z
  exact ⟨ds, rfl, fun H1 vs p1 rl m1 => ⟨ds, M1, rl, m1, biD_mono (fun d M' z => z.at p1) z⟩⟩
theorem cut_conv {K : PySem.W.Frag} {pa pl ph : Px} {σ : L2.St} {H : Hp} {Q : VK} (z : tI K G (.cut pa pl ph) σ H Q) :
    tSl (fun vx l h H Q => ∃ x M, Rep K H x vx ∧ RepM K H M ∧ cutD x l h M (want K H M Q)) (tI K G pa) (tOI K G pl) (tOI K G ph) σ H Q := by
  obtain ⟨d, M, rs, m, z⟩ := z
  unfold wE at z
  refine ⟨d, M, rs, m, wE_mono (fun x M1 z => ?_) z⟩
  intro H1 vx p1 rx m1
  refine ⟨d, M1, rs.keep p1.keep, m1, wE_mono (fun l M2 z => ?_) z⟩
  obtain ⟨o, eo, z⟩ := z
  refine ⟨o, eo, fun H2 p2 m2 => ?_⟩
  refine ⟨d, M2, (rs.keep p1.keep).keep p2.keep, m2, wE_mono (fun u M3 z => ?_) z⟩
  obtain ⟨o', eo', z⟩ := z
  refine ⟨o', eo', fun H3 p3 m3 => ?_⟩
  exact ⟨x, M3, (rx.keep p2.keep).keep p3.keep, m3, cutD_mono (fun d M' z => z.at ((p1.trans p2).trans p3)) z⟩
theorem isi_conv {K : PySem.W.Frag} {t : Ty} {pa : Px} {σ : L2.St} {H : Hp} {Q : VK} (z : tI K G (.isi pa t) σ H Q) :
    tCB (fun vs H Q => ∃ v x M, vs = [v, tyV' t] ∧ Rep K H x v ∧ RepM K H M ∧ isiD x t M (want K H M Q)) (tCons (tI K G pa) (tCons (tC (tyV' t)) tNil)) σ H Q := by
  obtain ⟨d, M, rs, m, z⟩ := z
  unfold wE at z
  refine ⟨d, M, rs, m, wE_mono (fun x M1 z => ?_) z⟩
  intro H1 vx p1 rx m1
  exact ⟨vx, x, M1, rfl, rx, m1, isiD_mono (fun d M' z => z.at p1) z⟩
theorem _root_.L2.PK.conv {X : Cx} {e : List Keyword} {t t' : TA} (h : PK X e t) (k : ∀ σ H Q, t' σ H Q → t σ H Q) : PK X e t' := ⟨fun pos pins s σ H Q I z => h.run pos pins s σ H Q I (k _ _ _ z)⟩
inductive IsArgs : Px → Nat → Prop
  | nil : IsArgs .nil 0
  | cons {e es : Px} {n : Nat} : IsArgs es n → IsArgs (.cons e es) (n + 1)
theorem IsArgs.len {p : Px} {n : Nat} (a : IsArgs p n) : ∀ {d : DSt} {M : Mp} {R : DK}, wE G p d M R → wE G p d M fun x M' => (∀ ds, x = .tup ds → ds.length = n) ∧ R x M' := by
  induction a with
  | nil =>
    intro d M R z
    unfold wE at z ⊢
    exact ⟨fun ds e => by cases e; rfl, z⟩
  | cons a ih =>
    intro d M R z
    unfold wE at z ⊢
    refine wE_mono (fun x M1 z => ?_) z
    refine wE_mono (fun y M2 z => ?_) (ih z)
    obtain ⟨hl, ds, rfl, z⟩ := z
    exact ⟨ds, rfl, fun ds' e => by cases e; rw [List.length_cons, hl ds rfl], z⟩
theorem cA_args : ∀ {n : Nat} {sc : Scope} {es : List Expr} {p : Px}, cA N sg mth n sc es = some p → IsArgs p es.length
  | 0, _, _, _, h => by unfold cA at h; cases h
  | n + 1, sc, [], p, h => by unfold cA at h; cases h; exact .nil
  | n + 1, sc, e :: r, p, h => by
    unfold cA at h
    simp only at h
    split at h
    · rename_i h1 h2
      cases h
      exact .cons (cA_args h2)
    · cases h
theorem call_conv {K : PySem.W.Frag} {f : Str} {n : Nat} {pa : Px} (hn : IsArgs pa n) {σ : L2.St} {H : Hp} {Q : VK} (z : tI K G (.call f pa) σ H Q) :
    tAI K G pa σ H fun vs H1 => rCall K n (G f) vs H1 Q := by
  obtain ⟨d, M, rs, m, z⟩ := z
  unfold wE at z
  refine ⟨d, M, rs, m, wE_mono (fun x M1 z => ?_) (hn.len z)⟩
  obtain ⟨hl, ds, rfl, R, z, zr⟩ := z
  exact ⟨ds, rfl, fun H1 vs p1 rl m1 => ⟨ds, M1, rl, m1, hl ds rfl, R, z, fun d M' r => (zr d M' r).at p1⟩⟩
theorem callK_conv {K : PySem.W.Frag} {f : Str} {n m : Nat} {is : List Nat} {pa pk : Px} (hn : IsArgs pa n) (hm : IsArgs pk m) {σ : L2.St} {H : Hp} {Q : VK} (z : tI K G (.callK f is pa pk) σ H Q) :
    tAI K G pa σ H fun vs H1 => tAI K G pk σ H1 fun zs H2 => rCallK K n m is (G f) vs zs H2 Q := by
  obtain ⟨d, M, rs, m0, z⟩ := z
  unfold wE at z
  refine ⟨d, M, rs, m0, wE_mono (fun x M1 z => ?_) (hn.len z)⟩
  obtain ⟨hl, ds, rfl, z⟩ := z
  refine ⟨ds, rfl, fun H1 vs p1 rl m1 => ?_⟩
  refine ⟨d, M1, rs.keep p1.keep, m1, wE_mono (fun y M2 z => ?_) (hm.len z)⟩
  obtain ⟨hl2, es, rfl, R, z, zr⟩ := z
  exact ⟨es, rfl, fun H2 zs p2 re m2 => ⟨ds, es, M2, rl.keep p2.keep, re, m2, hl ds rfl, hl2 es rfl, R, z, fun d M' r => (zr d M' r).at (p1.trans p2)⟩⟩
theorem append_conv {K : PySem.W.Frag} {po pa : Px} {σ : L2.St} {H : Hp} {Q : VK} (z : tI K G (.mt .append po pa) σ H Q) : tBM K "list" rAppend (tI K G po) (tAI K G pa) σ H Q := by
  obtain ⟨d, M, rs, m, z⟩ := z
  unfold wE at z
  refine ⟨d, M, rs, m, wE_mono (fun x M1 z => ?_) z⟩
  intro H1 vx p1 rx m1
  obtain ⟨hr, z⟩ := z
  unfold recvOk at hr
  split at hr
  · obtain ⟨ds0, e0⟩ := hr
    rw [rep_ref] at rx; subst rx
    obtain ⟨vs0, h0, _⟩ := m1.lst e0
    refine ⟨.inl ⟨rfl, vs0, SqL.of h0⟩, ?_⟩
    refine ⟨d, M1, rs.keep p1.keep, m1, wE_mono (fun y M2 z => ?_) z⟩
    obtain ⟨ds, rfl, z⟩ := z
    refine ⟨ds, rfl, fun H2 vs p2 rl m2 => ?_⟩
    cases ds with
    | nil => exact z.elim
    | cons y ys =>
      cases ys with
      | nil =>
        obtain ⟨es, e, hz, z⟩ := z
        obtain ⟨ws, hw, rw⟩ := m2.lst e
        obtain ⟨v, rfl, rv⟩ := repL_one rl
        refine ⟨_, ws, v, rfl, rfl, hw, by rw [← rw.length]; exact hz, ?_⟩
        exact z _ _ ((p1.trans p2).trans (Prog.set m2 e)) (rep_non.mpr rfl) (m2.set e (rw.append (RepL.one rv)))
      | cons _ _ => exact z.elim
  · exact hr.elim
end
end
end Pd

set_option maxHeartbeats 8000000
namespace PySem
open Sem (wp)
open AutoSeq1 (wpAny_loadPart')
theorem pd_enumT_new (t : Addr) (its : Array Value) (k : Nat) (od : Option Addr) (sl : Array (Option Value)) :
    Meets (Builtin.«enumerate.__new__» ⟨[.type "enumerate", .ref t], []⟩)
      (fun _ R s => s.heap.get? t = some { cls := .type "tuple", dict := od, data := .seq its k, slots := sl } ∧
        R (.ok (.ret (.ref (s.heap.push { cls := .type "tuple_iterator", data := .fields #[.ref t, .int 0 0] }).objs.size)))
          { s with heap := (s.heap.push { cls := .type "tuple_iterator", data := .fields #[.ref t, .int 0 0] }).push { cls := .type "enumerate", data := .fields #[.none, .bool false, .ref s.heap.objs.size, rawInt 0, .none, .none] } }) :=
  .of_wp fun prog w A R s z => by
    obtain ⟨hp, gs, dr, tk, os⟩ := s
    obtain ⟨ht, z⟩ := z
    have hsub := sub_enumerate
    have hT : Heap.IsTuple (Shared.heap ⟨hp, gs, dr, tk, os⟩) t its := ⟨_, ht, rfl, k, rfl⟩
    wp_walk using wpAny_loadPart' ht
    refine wpAny_stack_any fun st => wpAny_pure ?_
    split
    · rename_i c _ _ _ _ _
      cases (c == Value.type "enumerate")
      · wp_walk using wpAny_loadPart' ht, wpAny_pyIter_tuple hT
        exact ⟨_, rfl, z⟩
      · wp_walk using wpAny_loadPart' ht, wpAny_pyIter_tuple hT
        exact ⟨_, rfl, z⟩
    · wp_walk using wpAny_loadPart' ht, wpAny_pyIter_tuple hT
      exact ⟨_, rfl, z⟩
section
variable {prog : Program} {w : World} {A : Around} {E : Value → Shared → Prop} {s : Shared}
theorem pd_call_enumT {t : Addr} {its : Array Value} {Q : Value → Shared → Prop} (hT : s.heap.IsTuple t its)
    (z : ∀ h', IsEnum h' (s.heap.objs.size + 1) s.heap.objs.size 0 .none → h'.IsTupleIter s.heap.objs.size t 0 → (∀ b o, s.heap.get? b = some o → h'.get? b = some o) → Q (.ref (s.heap.objs.size + 1)) { s with heap := h' }) :
    wpAny (model prog w) A (call (.type "enumerate") [.ref t]) Q E s := by
  obtain ⟨⟨c, od, dt, sl⟩, ht, hc, k, hd⟩ := hT
  have hc : c = .type "tuple" := hc
  have hd : dt = .seq its k := hd
  subst hc hd
  refine callType_new F.called_enumerate (by decide) (F.typeCall_enumerate_1 _) (F.newCall_enumerate_1 _) (fun obj => F.args_object_init_2 obj _) F.entry_enumerate_new (pd_enumT_new t its k od sl) ⟨ht, ?_⟩
  have hz : (s.heap.push { cls := .type "tuple_iterator", data := .fields #[.ref t, .int 0 0] }).objs.size = s.heap.objs.size + 1 := Heap.size_push ..
  show _ ∧ _
  rw [hz]
  have he : IsEnum ((s.heap.push { cls := .type "tuple_iterator", data := .fields #[.ref t, .int 0 0] }).push
      { cls := .type "enumerate", data := .fields #[.none, .bool false, .ref s.heap.objs.size, rawInt 0, .none, .none] }) (s.heap.objs.size + 1) s.heap.objs.size 0 .none := by
    have q := Heap.get?_push_size (s.heap.push { cls := .type "tuple_iterator", data := .fields #[.ref t, .int 0 0] })
      (o := { cls := .type "enumerate", data := .fields #[.none, .bool false, .ref s.heap.objs.size, rawInt 0, .none, .none] }) rfl
    rw [hz] at q
    exact q
  exact ⟨⟨_, he, rfl⟩, z _ he ⟨_, Heap.get?_push_of_some _ (Heap.get?_push_size _ rfl), rfl, rfl⟩ fun b o x => Heap.get?_push_of_some _ (Heap.get?_push_of_some _ x)⟩
end
end PySem
namespace Pd
open PySem PySem.Spec L2
/-- enumerate(a tuple): each item in a new pair -/
def IteT (K : PySem.W.Frag) (a : Addr) (n : Nat) : It :=
  ⟨fun i H => i < n ∧ ∃ (xs : List V) (x : V), SqT K H a xs ∧ xs[i]? = some x,
   fun i H v H' => ∃ T x, v = .ref T ∧ H T = none ∧ H' = upd H T (.tup [.int (i : Nat), x]) ∧ ∀ xs, SqT K H a xs → xs[i]? = some x,
   fun i H => n ≤ i ∧ ∃ xs : List V, SqT K H a xs ∧ xs.length = n⟩
theorem turn_enumT {P : Program} {w : World} {K : PySem.W.Frag} {els : List Expr} {kk : Nat} {tpos : Pos} (a e it : Addr) (n : Nat) :
    Turn P w K (.Tuple els kk tpos) (IteT K a n) [e, it] e (fun i h => i ≤ n ∧ (∃ old, IsEnum h e it ((i : Nat) : Int) old) ∧ h.IsTupleIter it a i ∧ e ≠ it ∧ a ≠ it ∧ e ≠ a) where
  mem := by simp
  obj := fun i h st b hb => by
    obtain ⟨_, ⟨old, he⟩, ⟨o, ho, hc, hd⟩, _⟩ := st
    have q : b = e ∨ b = it := by simpa using hb
    rcases q with z | z
    · rw [z]; exact ⟨_, he, fun v q => nomatch q⟩
    · rw [z]; exact ⟨o, ho, fun v q => by rw [hd] at q; cases q⟩
  keep := fun i h h' st k => by
    obtain ⟨hin, ⟨old, he⟩, hi, ne⟩ := st
    exact ⟨hin, ⟨old, k e (by simp) _ he⟩, hi.at fun o q => k it (by simp) o q, ne⟩
  item := by
    intro X hP hw hK hc i pins s σ H E I hf st hg
    subst hP hw hK
    obtain ⟨_, ⟨old, he⟩, hit, hne, hai, hea⟩ := st
    obtain ⟨hin, xs, x, hq, hx⟩ := hg
    obtain ⟨its, rv, p, hz⟩ := I.tuple hq
    obtain ⟨u, hu, ru⟩ := rv.get hx
    have hel : e < s.heap.objs.size := Heap.lt_size he
    have hil : it < s.heap.objs.size := by obtain ⟨_, q, _⟩ := hit; exact Heap.lt_size q
    have hi : i < its.toArray.size := by
      rw [List.size_toArray, ← rv.length]; exact (List.getElem?_eq_some_iff.mp hx).1
    refine wpAny_pyNext_enum_itemD (Draws.tuple (A := X.A.in1) (I.ok.hd hc) it a hai its.toArray) he ⟨hit, p⟩ hi hne (by simp [hne, hea]) fun y h' tk hP ho hst hT hsz hk => ?_
    have hy : u = y := by
      have q : its.toArray[i]? = some u := by simpa using hu
      rw [hP] at q; cases q; rfl
    subst hy
    refine ⟨_, rfl, wpAny_letOwnedTupleGo_enum (s := { s with heap := h', toks := tk + 1 }) ho fun h'' he' sb => ?_⟩
    have hT2 : h''.get? s.heap.objs.size = some { cls := .type "tuple", data := .seq #[.int i tk, u] } := (sb.2 _ (Nat.ne_of_gt hel)).trans hT
    have new : ObjOk X.prog X.w (upd H s.heap.objs.size (.tup [.int (i : Nat), x])) h'' s.heap.objs.size (.tup [.int (i : Nat), x]) :=
      ⟨by show 2 ≤ sizeLine; decide, [.int i tk, u], .cons ⟨_, rfl⟩ (.cons ru .nil), ⟨_, hT2, rfl, _, rfl⟩⟩
    have I1 : Inv X pins σ (upd H s.heap.objs.size (.tup [.int (i : Nat), x])) { s with heap := h'', toks := tk + 1 } :=
      I.turnedNew (ch := [e, it]) (fun b ob hb q => (sb.2 b (fun z => hb (by simp [z]))).trans (hk b ob (fun z => hb (by simp [z])) (fun z => hb (by simp [z])) q)) hf (Nat.le_refl _) new
    refine ⟨.ref s.heap.objs.size, _, I1, rfl, ⟨_, x, rfl, I.hok.fresh (Nat.le_refl _), rfl, fun ys hy => by rw [I.tuple_inj hy hq]; exact hx⟩, ⟨hin, ⟨u, ?_⟩, hst.1.at fun o q => (sb.2 it (Ne.symm hne)).trans q, hne, hai, hea⟩, fun b hb => ?_⟩
    · have e1 : ((i + 1 : Nat) : Int) = (i : Int) + 1 := by omega
      rw [e1]; exact he'
    · have hb' : b < s.heap.objs.size := by
        have q : b = e ∨ b = it := by simpa using hb
        rcases q with z | z
        · rw [z]; exact hel
        · rw [z]; exact hil
      rw [upd_ne (Nat.ne_of_lt hb')]
      exact (hf b hb).1
  done := by
    intro X hP hw hK hc i pins s σ H E I hf st hg
    subst hP hw hK
    obtain ⟨hin, ⟨old, he⟩, hit, hne, hai, hea⟩ := st
    obtain ⟨hni, xs, hq, hx⟩ := hg
    obtain ⟨its, rv, p, hz⟩ := I.tuple hq
    obtain ⟨f0, f1, f2, f3, f4, f5⟩ := hf it (by simp)
    have e1 : i = its.toArray.size := by rw [List.size_toArray, ← rv.length]; omega
    rw [e1] at hit
    exact wpAny_pyNext_enum_endD (Draws.tuple (A := X.A.in1) (I.ok.hd hc) it a hai its.toArray) he ⟨hit, p⟩ fun h' eb => ⟨rfl, I.turned (t' := s.toks) (fun b o hb q => eb b o hb q) f0 f1 f3 f4 f5⟩
  self := fun A i s Q E st h => by
    obtain ⟨_, ⟨_, he⟩, _⟩ := st
    exact wpAny_pyIter_enum he h
theorem ok_enumT {K : PySem.W.Frag} {H0 : Hp} {a : Addr} {ds : List D} {vs : List V} (h0 : SqT K H0 a vs) (r : RepL K H0 ds vs) : ItOk K H0 (nEnum (.tup ds)) (IteT K a ds.length) := fun i H M k m => by
  have hk := k a vs h0
  have rk := r.keep k
  refine ⟨fun e => ?_, fun x e => ?_⟩
  · have e1 : (ds[i]?.map fun x => D.tup [D.int i, x]) = none := Option.some.inj e
    refine ⟨?_, vs, hk, r.length.symm⟩
    cases q2 : ds[i]? with
    | none => exact List.getElem?_eq_none_iff.mp q2
    | some d => rw [q2] at e1; cases e1
  · have e1 : (ds[i]?.map fun x => D.tup [D.int i, x]) = some x := Option.some.inj e
    cases q2 : ds[i]? with
    | none => rw [q2] at e1; cases e1
    | some d =>
      rw [q2] at e1; cases e1
      obtain ⟨v, hv, rv⟩ := rk.get q2
      refine ⟨⟨(List.getElem?_eq_some_iff.mp q2).1, vs, v, hk, hv⟩, fun w H' y => ?_⟩
      obtain ⟨T, u, rfl, n, rfl, y⟩ := y
      have z := y vs hk
      rw [hv] at z; cases z
      exact pair_new m n (rep_int.mpr rfl) rv
/-- enumerate(e): a list or a tuple -/
theorem pi_enumA {X : Cx} {K : PySem.W.Frag} {G : Str → DSp} {e : Expr} {pe : Px} {p pos tpos : Pos} {els : List Expr} {kk : Nat} (hg : Gl X "enumerate") (hm : X.mg "enumerate" = none) (he : PE X e (tI X.K G pe)) (hs : starEach [e] X.env = (false, eval e X.env) :: starEach [] X.env) :
    PI X (.Tuple els kk tpos) (.Call (.Name "enumerate" p) [e] [] pos) (tWI X.K G (.enum pe)) := by
  refine ⟨fun pins s σ H R I z => ?_⟩
  obtain ⟨d, M, rs, m, z⟩ := z
  unfold wI at z
  have ha : PA X [e] (tCons (tI X.K G pe) tNil) := pa_cons he pa_nil hs
  refine PyProof.Rows.Call_ (ld_blt I hg hm (by decide +kernel : bootBuiltins "enumerate" = some (.type "enumerate")) (PyProof.Rows.callWith_type1 (thn (ha.run pos pins s σ H
    (fun vs H1 => ∃ v x M1, vs = [v] ∧ Prog X.K H M H1 M1 ∧ Rep X.K H1 x v ∧ RepM X.K H1 M1 ∧ enumOk M1 x ∧ ∀ J, ItOk X.K H1 (nEnum x) J → R J H1) I
    ⟨d, M, rs, m, wE_mono (fun x M1 z => fun H1 v p1 rx m1 => ⟨v, x, M1, rfl, p1, rx, m1, z.1, fun J ok => z.2 H1 J p1 m1 ok⟩) z⟩) fun us s1 hq => ?_) hs rfl))
  obtain ⟨vs, H1, I1, r1, v, x, M1, rfl, p1, rx, m1, ok, q⟩ := hq
  obtain ⟨u, rfl, ru⟩ := vals1 r1
  have fresh2 : ∀ b ∈ [s1.heap.objs.size + 1, s1.heap.objs.size], FpOk X pins H1 b := fun b hb => by
    have e' : b = s1.heap.objs.size + 1 ∨ b = s1.heap.objs.size := by simpa using hb
    have hle : s1.heap.objs.size ≤ b := by
      rcases e' with z | z
      · rw [z]; exact Nat.le_add_right _ _
      · rw [z]; exact Nat.le_refl _
    exact I1.fpOk hle (I1.hok.fresh hle)
  unfold enumOk at ok
  split at ok
  · obtain ⟨a, ws, rfl, hq, rl⟩ := rep_tup.mp rx
    cases ru
    obtain ⟨its, rv, p', hz⟩ := I1.tuple hq
    have hlt : a < s1.heap.objs.size := by obtain ⟨o, ho, _⟩ := id p'; exact Heap.lt_size ho
    refine pd_call_enumT (show s1.heap.IsTuple a its.toArray from p') fun h' he hit hk => wpAny_pyIter_enum he ?_
    have I2 : Inv X pins σ H1 { s1 with heap := h' } := I1.kept (t' := s1.toks) hk
    exact ⟨s1.heap.objs.size + 1, [s1.heap.objs.size + 1, s1.heap.objs.size], _, _, H1, rfl, I2, turn_enumT a (s1.heap.objs.size + 1) s1.heap.objs.size _, ⟨Nat.zero_le _, ⟨.none, he⟩, hit, Nat.succ_ne_self _, Nat.ne_of_lt hlt, Nat.ne_of_gt (Nat.lt_succ_of_lt hlt)⟩, fresh2, q _ (ok_enumT hq rl)⟩
  · obtain ⟨ds, l⟩ := ok
    rw [rep_ref] at rx; subst rx
    cases ru
    obtain ⟨ws, hq, rl⟩ := l.sq m1
    obtain ⟨its, rv, p', hz⟩ := I1.list (.inl hq)
    refine call_enumerate_list p'.isList fun h' he hit hsz hk => wpAny_pyIter_enum he ?_
    have I2 : Inv X pins σ H1 { s1 with heap := h' } := I1.kept (t' := s1.toks) hk
    exact ⟨s1.heap.objs.size + 1, [s1.heap.objs.size + 1, s1.heap.objs.size], _, _, H1, rfl, I2, turn_enum _ (s1.heap.objs.size + 1) s1.heap.objs.size, ⟨⟨.none, he⟩, hit, Nat.succ_ne_self _⟩, fresh2, q _ ok_enumL⟩
  · exact ok.elim
end Pd

set_option maxHeartbeats 8000000
namespace Pd
open PySem PySem.Spec L2
section
variable {N : List Str} {sg : Sig} {mth : List Str} {G : Str → DSp}
theorem notDec {b : Bool} {x y : Str} (h : (b && !decide (x = y)) = true) : b = true ∧ (x == y) = false := by
  rw [Bool.and_eq_true] at h
  refine ⟨h.1, ?_⟩
  have := h.2
  simp at this
  exact beq_eq_false_iff_ne.mpr this

theorem snd_a {n : Nat} (ih : Snd N sg mth G n) : ∀ sc X, Ctx N sg mth G sc X → ∀ es p, cA N sg mth (n + 1) sc es = some p → PA X es (tAI X.K G p) := by
  intro sc X c es p h
  cases es with
  | nil =>
    unfold cA at h; cases h
    refine pa_nil.conv fun σ H Q z => ?_
    obtain ⟨d, M, rs, m, z⟩ := z
    unfold wE at z
    obtain ⟨ds, e, z⟩ := z
    cases e
    exact z H [] .refl (repL_nil.mpr rfl) m
  | cons e r =>
    unfold cA at h
    simp only at h
    split at h
    · rename_i p q h1 h2
      cases h
      exact (pa_cons (ih.e sc X c e p h1) (ih.a sc X c r q h2) (star_ok (cE_star h1))).conv fun σ H Q z => cons_conv z
    · cases h
theorem snd_k {n : Nat} (ih : Snd N sg mth G n) : ∀ sc X, Ctx N sg mth G sc X → ∀ (kws : List Keyword) p, cA N sg mth (n + 1) sc (kws.map (·.value)) = some p → PK X kws (tAI X.K G p) := by
  intro sc X c kws p h
  cases kws with
  | nil =>
    unfold cA at h; cases h
    refine pk_nil.conv fun σ H Q z => ?_
    obtain ⟨d, M, rs, m, z⟩ := z
    unfold wE at z
    obtain ⟨ds, e, z⟩ := z
    cases e
    exact z H [] .refl (repL_nil.mpr rfl) m
  | cons k r =>
    obtain ⟨nm, e, kpos⟩ := k
    unfold cA at h
    simp only [List.map_cons] at h
    split at h
    · rename_i p q h1 h2
      cases h
      exact (pk_cons (ih.e sc X c e p h1) (ih.k sc X c r q h2)).conv fun σ H Q z => cons_conv z
    · cases h
theorem snd_o {n : Nat} (ih : Snd N sg mth G n) : ∀ sc X, Ctx N sg mth G sc X → ∀ o p, cO N sg mth (n + 1) sc o = some p → PO X o (tOI X.K G p) := by
  intro sc X c o p h
  cases o with
  | none =>
    unfold cO at h; cases h
    refine po_none.conv fun σ H Q z => ?_
    obtain ⟨d, M, rs, m, z⟩ := z
    unfold wE at z
    obtain ⟨o, e, z⟩ := z
    cases e
    exact z H .refl m
  | some e =>
    unfold cO at h
    simp only at h
    split at h
    · rename_i q hq
      cases h
      refine (po_some (ih.e sc X c e q hq)).conv fun σ H Q z => ?_
      obtain ⟨d, M, rs, m, z⟩ := z
      unfold wE at z
      refine ⟨d, M, rs, m, wE_mono (fun x M1 z => ?_) z⟩
      obtain ⟨i, rfl, o, e, z⟩ := z
      cases e
      intro H1 v p1 rx m1
      rw [rep_int] at rx
      exact ⟨i, rx, z H1 p1 m1⟩
    · cases h
/-- two arguments of a zip, by values -/
theorem snd_i {n : Nat} (ih : Snd N sg mth G n) : ∀ sc X, Ctx N sg mth G sc X → ∀ e p, cI N sg mth (n + 1) sc e = some p → ∀ tg, (needTup p = true → ∃ es k pos, tg = .Tuple es k pos) → PI X tg e (tWI X.K G p) := by
  intro sc X c e p h tg ht
  have plain : ∀ {e : Expr} {p : Px}, (match cE N sg mth n sc e with | some p => some (Px.itE p) | none => none) = some p → PI X tg e (tWI X.K G p) := fun {e p} h => by
    split at h
    · rename_i q hq
      cases h
      exact it_pi (ih.e sc X c e q hq)
    · cases h
  unfold cI at h
  split at h
  · rename_i f pf args pos
    split at h
    · rename_i hg
      rw [Bool.and_eq_true] at hg
      have gl : Gl X f := gl_of hg.1 c.hsc
      split at h
      · rename_i a
        by_cases q1 : f = "range"
        · rw [if_pos q1] at h
          subst f
          split at h
          · rename_i pa ha
            cases h
            have hs := star_ok (es := []) (env := X.env) (cE_star ha)
            refine (pi_range1 gl (c.free "range" (by simp)) (pa_cons (ih.e sc X c a pa ha) pa_nil hs) hs).conv fun σ H R z => ?_
            obtain ⟨d, M, rs, m, z⟩ := z
            unfold wI at z
            unfold wE at z
            refine ⟨d, M, rs, m, wE_mono (fun x M1 z => ?_) z⟩
            intro H1 v p1 rx m1
            obtain ⟨i, j, e, rfl, ⟨_, _, b1, b2⟩, z⟩ := z
            cases e
            rw [rep_int] at rx; subst rx
            have := z H1 (Itr 0 j.toNat) p1 m1 (by
              have := @ok_rng X.K H1 0 j
              rw [Int.sub_zero] at this
              exact this)
            exact ⟨j, rfl, b1, b2, this⟩
          · cases h
        rw [if_neg q1] at h
        by_cases q2 : f = "enumerate"
        · rw [if_pos q2] at h
          subst f
          split at h
          · rename_i pa ha
            cases h
            obtain ⟨els, kk, tpos, rfl⟩ := ht rfl
            exact pi_enumA (K := X.K) gl (c.free "enumerate" (by simp)) (ih.e sc X c a pa ha) (star_ok (cE_star ha))
          · cases h
        rw [if_neg q2] at h
        by_cases q3 : f = "reversed"
        · rw [if_pos q3] at h
          subst f
          split at h
          · rename_i pa ha
            cases h
            have hs := star_ok (es := []) (env := X.env) (cE_star ha)
            refine (RT.pi_revA gl (c.free "reversed" (by simp)) (ih.e sc X c a pa ha) hs).conv fun σ H R z => ?_
            obtain ⟨d, M, rs, m, z⟩ := z
            unfold wI at z
            refine ⟨d, M, rs, m, wE_mono (fun x M1 z => ?_) z⟩
            intro H1 v p1 rx m1
            obtain ⟨ds, e, z⟩ := z
            cases x with
            | tup es =>
              cases e
              obtain ⟨b, vs, rfl, hq, rl⟩ := rep_tup.mp rx
              exact ⟨b, vs, rfl, .inr ⟨hq, z H1 _ p1 m1 (ok_revT hq rl)⟩⟩
            | ref b =>
              rw [rep_ref] at rx; subst rx
              obtain ⟨vs, hq, rl⟩ := (itemsAt_list e).sq m1
              refine ⟨b, vs, rfl, .inl ⟨.inl hq, z H1 _ p1 m1 ?_⟩⟩
              rw [rl.length]
              exact ok_revL
            | _ => cases e
          · cases h
        rw [if_neg q3] at h
        exact plain h
      · rename_i a b
        by_cases q1 : f = "range"
        · rw [if_pos q1] at h
          subst f
          split at h
          · rename_i pa pb ha hb
            cases h
            have hs := star_ok (es := [b]) (env := X.env) (cE_star ha)
            have hs2 := star_ok (es := []) (env := X.env) (cE_star hb)
            refine (pi_range2 gl (c.free "range" (by simp)) (pa_cons (ih.e sc X c a pa ha) (pa_cons (ih.e sc X c b pb hb) pa_nil hs2) hs) (by rw [hs, hs2]; rfl) hs2).conv fun σ H R z => ?_
            obtain ⟨d, M, rs, m, z⟩ := z
            unfold wI at z
            refine ⟨d, M, rs, m, wE_mono (fun x M1 z => ?_) z⟩
            intro H1 v p1 rx m1
            refine ⟨d, M1, rs.keep p1.keep, m1, wE_mono (fun y M2 z => ?_) z⟩
            intro H2 u p2 ry m2
            obtain ⟨i, j, rfl, rfl, bs, z⟩ := z
            rw [rep_int] at rx ry; subst rx ry
            exact ⟨i, j, rfl, bs, z H2 _ (p1.trans p2) m2 ok_rng⟩
          · cases h
        rw [if_neg q1] at h
        by_cases q2 : f = "zip"
        · rw [if_pos q2] at h
          subst f
          split at h
          · rename_i pa pb ha hb
            cases h
            obtain ⟨els, kk, tpos, rfl⟩ := ht rfl
            have hs := star_ok (es := [b]) (env := X.env) (cE_star ha)
            have hs2 := star_ok (es := []) (env := X.env) (cE_star hb)
            refine (RZ.pi_zipA gl (c.free "zip" (by simp)) (pa_cons (ih.e sc X c a pa ha) (pa_cons (ih.e sc X c b pb hb) pa_nil hs2) hs) hs (plain_ok (by
              intro e he
              have : e = b := by simpa using he
              subst this
              exact cE_star hb))).conv fun σ H R z => ?_
            obtain ⟨d, M, rs, m, z⟩ := z
            unfold wI at z
            refine ⟨d, M, rs, m, wE_mono (fun x M1 z => ?_) z⟩
            intro H1 v p1 rx m1
            refine ⟨d, M1, rs.keep p1.keep, m1, wE_mono (fun y M2 z => ?_) z⟩
            intro H2 u p2 ry m2
            obtain ⟨hz, z⟩ := z
            unfold zipOk at hz
            split at hz
            · obtain ⟨a1, vs, rfl, hq, rl⟩ := rep_tup.mp rx
              obtain ⟨b1, ws, rfl, hq', rl'⟩ := rep_tup.mp ry
              exact ⟨a1, b1, vs, ws, rfl, .inr ⟨p2.keep _ _ hq, hq', z H2 _ (p1.trans p2) m2 (ok_zipT (p2.keep _ _ hq) (rl.keep p2.keep) hq' rl')⟩⟩
            · rw [rep_ref] at rx ry; subst rx ry
              obtain ⟨⟨ds, l1⟩, es, l2⟩ := hz
              obtain ⟨vs, hq, rl⟩ := l1.sq m2
              obtain ⟨ws, hq', rl'⟩ := l2.sq m2
              exact ⟨_, _, vs, ws, rfl, .inl ⟨.inl hq, .inl hq', z H2 _ (p1.trans p2) m2 ok_zipL⟩⟩
            · exact hz.elim
          · cases h
        rw [if_neg q2] at h
        cases h
      · cases h
    · exact plain h
  · exact plain h
end
end Pd

set_option maxHeartbeats 8000000
namespace Pd
open PySem PySem.Spec L2
section
variable {N : List Str} {sg : Sig} {mth : List Str} {G : Str → DSp}
theorem base_ok {o : Expr} {m : Str} {env : Env} (h : notCall o = true) : attributeBase o m env (eval o env) = eval o env := by
  cases o <;> first | rfl | cases h
theorem plainIx_ok {b : Expr} (h : ∀ lo hi p, b ≠ .Slice lo hi none p) : PlainIx b := by
  intro o i
  cases b with
  | Slice lo hi st p =>
    cases st with
    | none => exact absurd rfl (h _ _ _)
    | some s => rfl
  | _ => rfl
theorem opOk_ok {op : Operator} (h : opOk op = true) : True := trivial
theorem folded_ok {e : Expr} {env : Env} (h : ∀ es k p, e ≠ .Set es k p) : ∀ x, foldedSetIterable e env x = pure x := by
  intro x
  cases e <;> first | rfl | exact absurd rfl (h _ _ _)
theorem cE_set {n : Nat} {sc : Scope} {e : Expr} {p : Px} (h : cE N sg mth n sc e = some p) : ∀ es k q, e ≠ .Set es k q := by
  rintro es k q rfl
  cases n with
  | zero => unfold cE at h; cases h
  | succ n => unfold cE at h; cases h
theorem cI_set {n : Nat} {sc : Scope} {e : Expr} {p : Px} (h : cI N sg mth n sc e = some p) : ∀ es k q, e ≠ .Set es k q := by
  rintro es k q rfl
  cases n with
  | zero => unfold cI at h; cases h
  | succ n =>
    unfold cI at h
    simp only at h
    split at h
    · exact cE_set ‹_› _ _ _ rfl
    · cases h
theorem own_free {N : List Str} {names : List (Str × NameKind)} : True := trivial

/-- a comprehension, as the hand layer reads it -/
theorem comp_conv {K : PySem.W.Frag} {own tg : List Nat} {one : Bool} {pit pc pe : Px} (htg : ∀ i ∈ tg, i ∈ own) {σ : L2.St} {H : Hp} {Q : VK} (z : tI K G (.comp own tg one pit pc pe) σ H Q) :
    tLc (tWI K G pit) (gTg K one tg) (tTI K G pc) (tI K G pe) own σ H Q := by
  obtain ⟨d, M, rs, m, z⟩ := z
  unfold wE at z
  refine ⟨d, M, rs, m, wI_mono (fun nx M1 z => ?_) z⟩
  intro H1 J p1 m1 ok L nL
  obtain ⟨k, z⟩ := z
  refine comp_turns (K := K) (M0 := M) htg rs p1 m1 ok nL (fun acc M2 H2 vs p2 m2 nM hL rl q => ?_) k z
  have q := q L nM
  refine q H2 (.ref L) ?_ (rep_ref.mpr rfl) ?_
  · refine ⟨(p1.trans p2).keep, fun a o e n => ⟨((p1.trans p2).fr a o e n).1, ?_⟩, (p1.trans p2).live⟩
    have h1 := p1.fr a o e n
    rw [put_ne (ne_of_none h1.1 nL)]
    exact ((p1.trans p2).fr a o e n).2
  · intro a o e
    by_cases y : a = L
    · subst y
      rw [put_same] at e; cases e
      exact ⟨vs, hL, rl⟩
    · rw [put_ne y] at e
      exact m2 a o e
/-- .. whose list is made a tuple at once -/
theorem tcomp_conv {K : PySem.W.Frag} {own tg : List Nat} {one : Bool} {pit pc pe : Px} (htg : ∀ i ∈ tg, i ∈ own) {σ : L2.St} {H : Hp} {Q : VK} (z : tI K G (.tcomp own tg one pit pc pe) σ H Q) :
    tCB (rBi K .tuple) (tCons (tLc (tWI K G pit) (gTg K one tg) (tTI K G pc) (tI K G pe) own) tNil) σ H Q := by
  obtain ⟨d, M, rs, m, z⟩ := z
  unfold wE at z
  refine ⟨d, M, rs, m, wI_mono (fun nx M1 z => ?_) z⟩
  intro H1 J p1 m1 ok L nL
  obtain ⟨k, z⟩ := z
  refine comp_turns (K := K) (M0 := M) (Q := fun v H => rBi K .tuple [v] H Q) htg rs p1 m1 ok nL (fun acc M2 H2 vs p2 m2 nM hL rl q => ?_) k z
  show rBi K .tuple [.ref L] H2 Q
  refine ⟨[.ref L], put M2 L (.lst acc), RepL.one (rep_ref.mpr rfl), ?_, acc, .inl put_same, ?_⟩
  · intro a o e
    by_cases y : a = L
    · subst y
      rw [put_same] at e; cases e
      exact ⟨vs, hL, rl⟩
    · rw [put_ne y] at e
      exact m2 a o e
  · intro H3 v p3 rv m3
    have sb : Sub M2 (put M2 L (.lst acc)) := (Sub.refl M2).put nM
    refine q H3 v ?_ rv (m3.sub sb)
    refine ⟨(p1.trans p2).keep.trans p3.keep, fun a o e n => ?_, fun a e => p3.live a ((p1.trans p2).live a e)⟩
    have h1 := p1.fr a o e n
    have h2 := (p1.trans p2).fr a o e n
    have h3 := p3.fr a o h2.1 (by rw [put_ne (ne_of_none h1.1 nL)]; exact h2.2)
    exact ⟨h3.1, h2.2⟩

theorem snd_comp {n : Nat} (ih : Snd N sg mth G n) {sc : Scope} {X : Cx} (c : Ctx N sg mth G sc X) {elt : Expr} {gs : List Comprehension} {scope : Scope} {pos : Pos} {p : Px} (h : cE N sg mth (n + 1) sc (.ListComp elt gs scope pos) = some p) :
    ∃ tg iter ifs own one tgx pit pc pe, gs = [⟨tg, iter, ifs, 0⟩] ∧ p = .comp (own.map (·.2)) tgx one pit pc pe ∧ (∀ i ∈ tgx, i ∈ own.map (·.2)) ∧ PI X tg iter (tWI X.K G pit) ∧ BlkOk X.N X.env.scope scope own ∧
      (∀ (s : Shared) (H : Hp) (C : Addr) (cl : List (Str × Addr)) (fp : List Addr), PG (X.blk s H scope (compEnvC scope cl C X.env) fp) tg (gTg X.K one tgx)) ∧
      (∀ (s : Shared) (H : Hp) (C : Addr) (cl : List (Str × Addr)) (fp : List Addr), PTs (X.blk s H scope (compEnvC scope cl C X.env) fp) ifs (tTI X.K G pc)) ∧
      (∀ (s : Shared) (H : Hp) (C : Addr) (cl : List (Str × Addr)) (fp : List Addr), PE (X.blk s H scope (compEnvC scope cl C X.env) fp) elt (tI X.K G pe)) ∧ (∀ x, foldedSetIterable iter X.env x = pure x) := by
  unfold cE at h
  split at h
  all_goals first | (cases ‹Expr.ListComp _ _ _ _ = _›; done) | skip
  all_goals try (cases h; done)
  rename_i elt' tg iter ifs scope' pos' heq
  cases heq
  split at h
  · rename_i one xs pit pe h1 h2 h3
    split at h
    · rename_i hc
      simp only [Bool.and_eq_true] at hc
      obtain ⟨⟨⟨hc1, hc2⟩, hc3⟩, hc4⟩ := hc
      split at h
      · rename_i tgx pc h4 h5
        split at h
        · rename_i h6
          cases h
          have hN := c.hN
          refine ⟨tg, iter, ifs, ownOf N scope.names, one, tgx, pit, pc, pe, rfl, rfl, ?_, ?_, ?_, ?_, ?_, ?_, folded_ok (cI_set h2)⟩
          · intro i hi
            have := List.all_eq_true.mp h6 i hi
            simpa using this
          · refine ih.i sc X c iter pit h2 tg fun hn => ?_
            have ho : one = false := by
              rw [hn] at hc1
              cases one with
              | true => cases hc1
              | false => rfl
            subst ho
            cases tg with
            | Tuple es k q => exact ⟨es, k, q, rfl⟩
            | Name x q => cases h1
            | _ => cases h1
          · rw [hN, c.hsc]; exact blkOk_by hc2
          · intro s H C cl fp
            have cb := c.blk s H scope C cl fp
            refine tg_pg (X := X.blk s H scope (compEnvC scope cl C X.env) fp) cb.calm (by rw [cb.hN]; exact cb.nd) ?_ h1 (by rw [cb.hN]; exact h4) ?_
            · intro x hx
              have h0 : isLoc scope x = true := List.all_eq_true.mp hc3 x hx
              rcases loc_of h0 with q | q
              · refine .inr ?_
                rw [cb.hsc]
                exact lookup_relS_keep (by decide) q
              · refine .inl ?_
                show (scope.names.lookup x == some NameKind.cell) = true
                rw [q]; rfl
            · intro x hx
              have := List.all_eq_true.mp hc4 x hx
              rw [cb.hsc]; exact loc_of this
          · intro s H C cl fp
            have cb := c.blk s H scope C cl fp
            split at h5
            · cases h5
              refine pts_nil.conv fun σ H Q z => ?_
              obtain ⟨d, M, rs, m, z⟩ := z
              unfold wE at z
              obtain ⟨k, e, z⟩ := z
              cases e
              exact z H .refl m
            · exact pts_one (ih.t _ _ cb _ _ h5).1
            · cases h5
          · intro s H C cl fp
            exact ih.e _ _ (c.blk s H scope C cl fp) _ _ h3
        · cases h
      · cases h
    · cases h
  · cases h
end
end Pd

set_option maxHeartbeats 8000000
namespace Pd
open PySem PySem.Spec L2
section
variable {N : List Str} {sg : Sig} {mth : List Str} {G : Str → DSp}
theorem want.up {K : PySem.W.Frag} {H : Hp} {M M1 M2 : Mp} {Q : VK} {d : D} (h : want K H M Q d M1) (s : Sub M1 M2) : want K H M Q d M2 := fun H' v p r m => h H' v (p.sub s) r (m.sub s)
theorem tcomp_bi {K : PySem.W.Frag} {own tg : List Nat} {one : Bool} {pit pc pe : Px} {σ : L2.St} {H : Hp} {Q : VK} (z : tI K G (.tcomp own tg one pit pc pe) σ H Q) : tI K G (.bi .tuple (.cons (.comp own tg one pit pc pe) .nil)) σ H Q := by
  obtain ⟨d, M, rs, m, z⟩ := z
  refine ⟨d, M, rs, m, ?_⟩
  unfold wE at z
  unfold wE
  unfold wE
  unfold wE
  refine wI_mono (fun nx M1 z => ?_) z
  obtain ⟨k, z⟩ := z
  refine ⟨k, ?_⟩
  refine compN_mono (we := wE G pe) (wc := wE G pc) ?_ (fun _ _ _ _ h k => wE_mono h k) (fun _ _ _ _ h k => wE_mono h k) k 0 [] M1 z
  intro acc M2 z
  intro p np
  unfold wE
  exact ⟨[], rfl, [.ref p], rfl, acc, .inl put_same, z.up ((Sub.refl M2).put np)⟩

variable {sc : Scope} {X : Cx}
theorem Snd.x {n : Nat} (ih : Snd N sg mth G n) (c : Ctx N sg mth G sc X) {e : Expr} {p : Px} (h : cE N sg mth n sc e = some p) : PE X e (tI X.K G p) := ih.e sc X c e p h
theorem se_name {n : Nat} (c : Ctx N sg mth G sc X) {x : Str} {pos : Pos} {p : Px} (h : cE N sg mth (n + 1) sc (.Name x pos) = some p) : PE X (.Name x pos) (tI X.K G p) := by
  unfold cE at h
  simp only at h
  split at h
  · rename_i hg
    obtain ⟨h1, h3⟩ := notDec hg
    obtain ⟨h1, h2⟩ := notDec h1
    cases q : ixOf N x with
    | none => rw [q] at h; cases h
    | some i =>
      rw [q] at h; cases h
      refine (pe_var (i := i) (by rw [c.hN]; exact ixOf_get q) (by rw [c.hsc]; exact vis_of h1) h2 h3).conv fun σ H Q z => var_ok z
  · cases h
theorem se_const {n : Nat} (c : Ctx N sg mth G sc X) {k : Const} {j : Nat} {pos : Pos} {p : Px} (h : cE N sg mth (n + 1) sc (.Constant k j pos) = some p) : PE X (.Constant k j pos) (tI X.K G p) := by
  unfold cE at h
  simp only at h
  split at h
  · cases h
    exact pe_int.conv fun σ H Q z => const_ok (fun d M Q z => by unfold wE at z; exact z) (fun H => rep_int.mpr rfl) z
  · cases h
    exact pe_str.conv fun σ H Q z => const_ok (fun d M Q z => by unfold wE at z; exact z) (fun H => rep_str.mpr rfl) z
  · cases h
    exact pe_bl.conv fun σ H Q z => const_ok (fun d M Q z => by unfold wE at z; exact z) (fun H => rep_bl.mpr rfl) z
  · cases h
    exact pe_non.conv fun σ H Q z => const_ok (fun d M Q z => by unfold wE at z; exact z) (fun H => rep_non.mpr rfl) z
  · cases h
theorem se_bin {n : Nat} (ih : Snd N sg mth G n) (c : Ctx N sg mth G sc X) {a b : Expr} {op : Operator} {pos : Pos} {p : Px} (h : cE N sg mth (n + 1) sc (.BinOp a op b pos) = some p) : PE X (.BinOp a op b pos) (tI X.K G p) := by
  unfold cE at h
  simp only at h
  split at h
  · split at h
    · rename_i h1 h2
      cases h
      exact (pe_op (bin_ok c.toHere c.pyl op) (ih.x c h1) (ih.x c h2)).conv fun σ H Q z => bin_conv z
    · cases h
  · cases h
theorem se_un {n : Nat} (ih : Snd N sg mth G n) (c : Ctx N sg mth G sc X) {a : Expr} {op : UnaryOp} {pos : Pos} {p : Px} (h : cE N sg mth (n + 1) sc (.UnaryOp op a pos) = some p) : PE X (.UnaryOp op a pos) (tI X.K G p) := by
  unfold cE at h
  cases op with
  | USub =>
    simp only at h
    split at h
    · rename_i h1
      cases h
      refine (pe_un un_neg (ih.x c h1)).conv fun σ H Q z => ?_
      obtain ⟨d, M, rs, m, z⟩ := z
      unfold wE at z
      refine ⟨d, M, rs, m, wE_mono (fun x M1 z => ?_) z⟩
      obtain ⟨i, rfl, z⟩ := z
      intro H1 v p1 rx m1
      rw [rep_int] at rx; subst rx
      exact ⟨i, rfl, z H1 _ p1 (rep_int.mpr rfl) m1⟩
    · cases h
  | Not =>
    simp only at h
    split at h
    · rename_i h1
      cases h
      refine (pe_notT (ih.x c h1)).conv fun σ H Q z => ?_
      obtain ⟨d, M, rs, m, z⟩ := z
      unfold wE at z
      unfold wE at z
      refine ⟨d, M, rs, m, wE_mono (fun x M1 z => ?_) z⟩
      intro H1 v p1 rx m1
      obtain ⟨k, e, k', e', z⟩ := tru_of rx m1 z
      cases e'
      exact ⟨k, e, z H1 _ p1 (rep_bl.mpr rfl) m1⟩
    · cases h
  | _ => cases h
theorem se_cmp {n : Nat} (ih : Snd N sg mth G n) (c : Ctx N sg mth G sc X) {a : Expr} {ops : List CmpOp} {bs : List Expr} {pos : Pos} {p : Px} (h : cE N sg mth (n + 1) sc (.Compare a ops bs pos) = some p) :
    PE X (.Compare a ops bs pos) (tI X.K G p) ∧ PT X (.Compare a ops bs pos) (tTI X.K G p) := by
  unfold cE at h
  split at h
  all_goals first | (cases ‹Expr.Compare _ _ _ _ = _›; done) | skip
  all_goals try (cases h; done)
  · rename_i heq
    cases heq
    split at h
    · rename_i h1
      cases h
      have hp := ih.x c h1
      have hb : ∀ j q, PE X (.Constant .none j q) (tI X.K G .non) := fun j q => (pe_non (X := X)).conv fun σ H Q z => const_ok (fun d M Q z => by unfold wE at z; exact z) (fun H => rep_non.mpr rfl) z
      exact ⟨(pe_cmpR (cmp_ok c.toHere .Is) hp (hb _ _) (nomark _)).conv fun σ H Q z => cmp_conv z, (pt_cmpR (cmp_ok c.toHere .Is) hp (hb _ _) (nomark _)).conv fun σ H Q z => test_of (fun σ H Q z => cmp_conv z) σ H Q z⟩
    · cases h
  · rename_i heq
    cases heq
    split at h
    · rename_i h1
      cases h
      have hp := ih.x c h1
      have hb : ∀ j q, PE X (.Constant .none j q) (tI X.K G .non) := fun j q => (pe_non (X := X)).conv fun σ H Q z => const_ok (fun d M Q z => by unfold wE at z; exact z) (fun H => rep_non.mpr rfl) z
      exact ⟨(pe_cmpR (cmp_ok c.toHere .IsNot) hp (hb _ _) (nomark _)).conv fun σ H Q z => cmp_conv z, (pt_cmpR (cmp_ok c.toHere .IsNot) hp (hb _ _) (nomark _)).conv fun σ H Q z => test_of (fun σ H Q z => cmp_conv z) σ H Q z⟩
    · cases h
  · rename_i heq
    cases heq
    split at h
    · rename_i ho
      split at h
      · rename_i h1 h2
        cases h
        have hp := ih.x c h1
        have hb := ih.x c h2
        exact ⟨(pe_cmpR (cmp_ok c.toHere _) hp hb (mark_ok ho)).conv fun σ H Q z => cmp_conv z, (pt_cmpR (cmp_ok c.toHere _) hp hb (mark_ok ho)).conv fun σ H Q z => test_of (fun σ H Q z => cmp_conv z) σ H Q z⟩
      · cases h
    · cases h
  · rename_i heq
    cases heq
    split at h
    · rename_i ho
      rw [Bool.and_eq_true] at ho
      split at h
      · rename_i h1 h2 h3
        cases h
        have hp := ih.x c h1
        have hb := ih.x c h2
        have hd := ih.x c h3
        exact ⟨(pe_chain (cmp_ok c.toHere _) (cmp_ok c.toHere _) hp hb hd (mark2_ok ho.2)).conv fun σ H Q z => chain_conv z, (pt_chain (cmp_ok c.toHere _) (cmp_ok c.toHere _) hp hb hd (mark2_ok ho.2)).conv fun σ H Q z => test_of (fun σ H Q z => chain_conv z) σ H Q z⟩
      · cases h
    · cases h
theorem se_bool {n : Nat} (ih : Snd N sg mth G n) (c : Ctx N sg mth G sc X) {op : BoolOp} {es : List Expr} {pos : Pos} {p : Px} (h : cE N sg mth (n + 1) sc (.BoolOp op es pos) = some p) : PE X (.BoolOp op es pos) (tI X.K G p) := by
  unfold cE at h
  cases es with
  | nil => cases op <;> cases h
  | cons a es =>
    cases op with
    | And =>
      cases es with
      | nil => exact pe_one (ih.x c h)
      | cons b es =>
        simp only at h
        split at h
        · rename_i h1 h2
          cases h
          exact (pe_and (ih.x c h1) (ih.x c h2)).conv fun σ H Q z => and_conv z
        · cases h
    | Or =>
      cases es with
      | nil => exact pe_one (ih.x c h)
      | cons b es =>
        simp only at h
        split at h
        · rename_i h1 h2
          cases h
          exact (pe_or (ih.x c h1) (ih.x c h2)).conv fun σ H Q z => or_conv z
        · cases h
theorem se_if {n : Nat} (ih : Snd N sg mth G n) (c : Ctx N sg mth G sc X) {a b d : Expr} {pos : Pos} {p : Px} (h : cE N sg mth (n + 1) sc (.IfExp d a b pos) = some p) : PE X (.IfExp d a b pos) (tI X.K G p) := by
  unfold cE at h
  simp only at h
  split at h
  · rename_i h0 h1 h2
    cases h
    exact (pe_ifExp (ih.t sc X c _ _ h0).1 (ih.x c h1) (ih.x c h2)).conv fun σ H Q z => ife_conv z
  · cases h
theorem se_tup {n : Nat} (ih : Snd N sg mth G n) (c : Ctx N sg mth G sc X) {es : List Expr} {k : Nat} {pos : Pos} {p : Px} (h : cE N sg mth (n + 1) sc (.Tuple es k pos) = some p) : PE X (.Tuple es k pos) (tI X.K G p) := by
  unfold cE at h
  simp only at h
  split at h
  · rename_i h1
    cases h
    exact (pe_tup (ih.a sc X c _ _ h1)).conv fun σ H Q z => tup_conv z
  · cases h
theorem se_lst {n : Nat} (ih : Snd N sg mth G n) (c : Ctx N sg mth G sc X) {es : List Expr} {pos : Pos} {p : Px} (h : cE N sg mth (n + 1) sc (.List es pos) = some p) : PE X (.List es pos) (tI X.K G p) := by
  unfold cE at h
  simp only at h
  split at h
  · rename_i h1
    cases h
    exact (pe_lst (ih.a sc X c _ _ h1)).conv fun σ H Q z => lst_conv z
  · cases h
theorem se_sub {n : Nat} (ih : Snd N sg mth G n) (c : Ctx N sg mth G sc X) {a b : Expr} {pos : Pos} {p : Px} (h : cE N sg mth (n + 1) sc (.Subscript a b pos) = some p) : PE X (.Subscript a b pos) (tI X.K G p) := by
  unfold cE at h
  split at h
  all_goals first | (cases ‹Expr.Subscript _ _ _ = _›; done) | skip
  all_goals try (cases h; done)
  · rename_i heq
    cases heq
    split at h
    · rename_i h1 h2 h3
      cases h
      exact (pe_slice cut_ok (ih.x c h1) (ih.o sc X c _ _ h2) (ih.o sc X c _ _ h3)).conv fun σ H Q z => cut_conv z
    · cases h
  · rename_i h0 h00 heq
    cases heq
    split at h
    · rename_i h1 h2
      cases h
      exact (pe_ix idx_ok (ih.x c h1) (ih.x c h2) (plainIx_ok fun lo hi q e => h0 _ _ _ e)).conv fun σ H Q z => idx_conv z
    · cases h
end
end Pd

set_option maxHeartbeats 8000000
namespace Pd
open PySem PySem.Spec L2
section
variable {N : List Str} {sg : Sig} {mth : List Str} {G : Str → DSp} {sc : Scope} {X : Cx}
theorem kw_names {env : Env} {pos : Pos} : ∀ {kws : List Keyword} {xs : List Str}, kwNames kws = some xs →
    (backToKw pos (keywordEach kws env)).all (·.1.isSome) = true ∧ (backToKw pos (keywordEach kws env)).filterMap (·.1) = xs ∧ (backToKw pos (keywordEach kws env)).any (·.1.isNone) = false
  | [], xs, h => by cases h; exact ⟨rfl, rfl, rfl⟩
  | ⟨nm, e, kp⟩ :: r, xs, h => by
    cases nm with
    | none => cases h
    | some x =>
      have h : (kwNames r).map (x :: ·) = some xs := h
      cases q : kwNames r with
      | none => rw [q] at h; cases h
      | some ys =>
        rw [q] at h; cases h
        obtain ⟨a1, a2, a3⟩ := kw_names (env := env) (pos := pos) q
        refine ⟨?_, ?_, ?_⟩
        · show (true && (backToKw pos (keywordEach r env)).all (·.1.isSome)) = true
          rw [a1]; rfl
        · show ((some x, _) :: backToKw pos (keywordEach r env)).filterMap (·.1) = _
          rw [List.filterMap_cons]
          simp only
          rw [a2]
        · show (false || (backToKw pos (keywordEach r env)).any (·.1.isNone)) = false
          rw [a3]; rfl
theorem kw_len : ∀ {kws : List Keyword} {xs : List Str}, kwNames kws = some xs → xs.length = kws.length
  | [], xs, h => by cases h; rfl
  | ⟨nm, e, kp⟩ :: r, xs, h => by
    cases nm with
    | none => cases h
    | some x =>
      have h : (kwNames r).map (x :: ·) = some xs := h
      cases q : kwNames r with
      | none => rw [q] at h; cases h
      | some ys => rw [q] at h; cases h; rw [List.length_cons, List.length_cons, kw_len q]
theorem plain2 {env : Env} {pos : Pos} {es : List Expr} (h : NoStar es) : (backTo pos (starEach es env)).any (·.1) = false := plain_ok h
theorem callK_nil {K : PySem.W.Frag} {f : Str} {m : Nat} {is : List Nat} {pk : Px} (hm : IsArgs pk m) {σ : L2.St} {H : Hp} {Q : VK} (z : tI K G (.callK f is .nil pk) σ H Q) :
    tAI K G pk σ H fun zs H2 => rCallK K 0 m is (G f) [] zs H2 Q := by
  obtain ⟨d, M, rs, m0, z⟩ := z
  unfold wE at z
  unfold wE at z
  obtain ⟨ds, e, z⟩ := z
  cases e
  refine ⟨d, M, rs, m0, wE_mono (fun y M2 z => ?_) (hm.len z)⟩
  obtain ⟨hl2, es, rfl, R, z, zr⟩ := z
  exact ⟨es, rfl, fun H2 zs p2 re m2 => ⟨[], es, M2, repL_nil.mpr rfl, re, m2, rfl, hl2 es rfl, R, z, fun d M' r => (zr d M' r).at p2⟩⟩
theorem se_call {n : Nat} (ih : Snd N sg mth G n) (c : Ctx N sg mth G sc X) {f : Expr} {args : List Expr} {kws : List Keyword} {pos : Pos} {p : Px} (h : cE N sg mth (n + 1) sc (.Call f args kws pos) = some p) : PE X (.Call f args kws pos) (tI X.K G p) := by
  unfold cE at h
  split at h
  all_goals first | (cases ‹Expr.Call _ _ _ _ = _›; done) | skip
  all_goals try (cases h; done)
  · rename_i heq
    cases heq
    split at h
    · rename_i hg
      obtain ⟨h1, hd⟩ := notDec hg
      have gl : Gl X _ := gl_of h1 c.hsc
      split at h
      · rename_i ps sh hs
        obtain ⟨a, fd, k, F, hr, hm, hk, hb, hkw⟩ := c.defs _ _ _ hs
        split at h
        · split at h
          · rename_i e es
            split at h
            · rename_i hl
              split at h
              · rename_i pa ha
                cases h
                have st := cA_star ha
                refine (pe_callG F hr c.gu gl hm hk hb (ih.a sc X c _ _ ha) hd (star_ok (st e List.mem_cons_self)) (plain_ok fun x hx => st x (List.mem_cons_of_mem _ hx))).conv fun σ H Q z => ?_
                rw [← hl]
                exact call_conv (cA_args ha) z
              · cases h
            · cases h
          · cases h
        · split at h
          · rename_i xs hx
            split at h
            · rename_i hsh
              split at h
              · rename_i is pa pk hp ha hkk
                cases h
                obtain ⟨k1, k2, k3⟩ := kw_names (env := X.env) (pos := pos) hx
                have hb' := hkw _ _ is (by simpa using hsh) hp
                have lk : IsArgs pk xs.length := by
                  have := cA_args hkk
                  rw [List.length_map] at this
                  rw [kw_len hx]; exact this
                have st := cA_star ha
                cases args with
                | nil =>
                  refine (pe_callGK0 F hr c.gu gl hm hk hb' hp (ih.k sc X c _ _ hkk) k1 k2 hd (by rw [k3]; rfl)).conv fun σ H Q z => ?_
                  have e : pa = .nil := by
                    cases n with
                    | zero => unfold cA at ha; cases ha
                    | succ n => unfold cA at ha; cases ha; rfl
                  subst e
                  exact callK_nil lk z
                | cons e es =>
                  refine (pe_callGK F hr c.gu gl hm hk hb' hp (ih.a sc X c _ _ ha) (ih.k sc X c _ _ hkk) k1 k2 hd (star_ok (st e List.mem_cons_self)) (by rw [plain_ok st, k3]; rfl)).conv fun σ H Q z => ?_
                  exact callK_conv (cA_args ha) lk z
              · cases h
            · cases h
          · cases h
      · split at h
        · rename_i e es
          split at h
          · rename_i hi
            subst hi
            split at h
            · rename_i t tpos
              split at h
              · rename_i ht
                rw [Bool.and_eq_true] at ht
                split at h
                · rename_i ty pa h3 h4
                  cases h
                  have st := cE_star h4
                  have glt : Gl X t := gl_of ht.1 c.hsc
                  exact (pe_callB (isi_ok ty) gl (c.free "isinstance" (by simp)) (by decide +kernel) (pa_cons (ih.x c h4) (pa_cons (ty_pe c h3 glt) pa_nil rfl) (star_ok st)) (by decide) (by decide) (star_ok st) rfl).conv fun σ H Q z => isi_conv z
                · cases h
              · cases h
            · cases h
          · split at h
            · rename_i b pa h3 ha
              have st := cA_star ha
              have key := biOf_pe c h3 gl (p := by assumption) (pos := pos) (ih.a sc X c _ _ ha) (star_ok (st e List.mem_cons_self)) (plain_ok fun x hx => st x (List.mem_cons_of_mem _ hx))
              split at h
              · cases h
                exact key.conv fun σ H Q z => bi_conv (tcomp_bi z)
              · cases h
                exact key.conv fun σ H Q z => bi_conv z
            · cases h
        · cases h
    · cases h
  · rename_i heq
    cases heq
    split at h
    · rename_i hg
      rw [Bool.and_eq_true, Bool.and_eq_true] at hg
      obtain ⟨⟨g1, g2⟩, g3⟩ := hg
      have e1 := of_decide_eq_true g1
      subst e1
      split at h
      · rename_i h3 h4
        cases h
        have st := cA_star h4
        exact (pe_bm PySem.F.plainAttrs_list PySem.F.slot_list_append PySem.F.type_list_append mt_append (ih.x c h3) (ih.a sc X c _ _ h4) (base_ok g3) (by
            rw [allplain_ok st]; rfl) g2 (star_ok (st _ List.mem_cons_self)) (plain_ok fun x hx => absurd hx (by simp))).conv fun σ H Q z => append_conv z
      · cases h
    · cases h
theorem se_lc {n : Nat} (ih : Snd N sg mth G n) (c : Ctx N sg mth G sc X) {elt : Expr} {gs : List Comprehension} {scope : Scope} {pos : Pos} {p : Px} (h : cE N sg mth (n + 1) sc (.ListComp elt gs scope pos) = some p) : PE X (.ListComp elt gs scope pos) (tI X.K G p) := by
  obtain ⟨tg, iter, ifs, own, one, tgx, pit, pc, pe, rfl, rfl, h1, h2, h3, h4, h5, h6, h7⟩ := snd_comp ih c h
  exact (pe_lc c.calm (by rw [c.hN]; exact c.nd) h2 h3 h4 h5 h6 h7).conv fun σ H Q z => comp_conv h1 z
theorem snd_e {n : Nat} (ih : Snd N sg mth G n) : ∀ sc X, Ctx N sg mth G sc X → ∀ e p, cE N sg mth (n + 1) sc e = some p → PE X e (tI X.K G p) := by
  intro sc X c e p h
  cases e with
  | Name => exact se_name c h
  | Constant => exact se_const c h
  | BinOp => exact se_bin ih c h
  | UnaryOp => exact se_un ih c h
  | Compare => exact (se_cmp ih c h).1
  | BoolOp => exact se_bool ih c h
  | IfExp => exact se_if ih c h
  | Tuple => exact se_tup ih c h
  | List => exact se_lst ih c h
  | Subscript => exact se_sub ih c h
  | Call => exact se_call ih c h
  | ListComp => exact se_lc ih c h
  | _ => unfold cE at h; cases h
theorem truth_conv {K : PySem.W.Frag} {pa : Px} {σ : L2.St} {H : Hp} {Q : Bool → Hp → Prop} (z : tTI K G (.truth pa) σ H Q) : tI K G pa σ H fun x H' => ∃ k, TruV K x H' k ∧ Q k H' := by
  obtain ⟨d, M, rs, m, z⟩ := z
  unfold wE at z
  refine ⟨d, M, rs, m, wE_mono (fun x M1 z => ?_) z⟩
  intro H1 v p1 rx m1
  obtain ⟨k, e, k', e', z⟩ := tru_of rx m1 z
  cases e'
  exact ⟨k, e, z H1 p1 m1⟩
theorem snd_t {n : Nat} (ih : Snd N sg mth G n) : ∀ sc X, Ctx N sg mth G sc X → ∀ e p, cT N sg mth (n + 1) sc e = some p → PT X e (tTI X.K G p) ∧ ((∃ op es pos, e = .BoolOp op es pos) → PW X e (tTI X.K G p)) := by
  intro sc X c e p h
  have pl : ∀ {e : Expr}, (∀ whole, isTrue e X.env whole = (do let v ← whole; standAt e.pos; holding [v] (truthy v))) → (match cE N sg mth n sc e with | some p => some (Px.truth p) | none => none) = some p → PT X e (tTI X.K G p) := fun {e} he h => by
    split at h
    · rename_i q hq
      cases h
      exact (pt_truth (ih.x c hq) he).conv fun σ H Q z => truth_conv z
    · cases h
  cases e with
  | BoolOp op es pos =>
    unfold cT at h
    cases es with
    | nil => cases op <;> cases h
    | cons a es =>
      cases op with
      | And =>
        cases es with
        | nil =>
          have w := pw_and1 (pos := pos) (ih.t sc X c _ _ h).1
          exact ⟨w.pt, fun _ => w⟩
        | cons b es =>
          simp only at h
          split at h
          · rename_i h1 h2
            cases h
            have w := (pw_and (pos := pos) (ih.t sc X c _ _ h1).1 ((ih.t sc X c _ _ h2).2 ⟨_, _, _, rfl⟩)).conv fun σ H Q z => tand_conv z
            exact ⟨w.pt, fun _ => w⟩
          · cases h
      | Or =>
        cases es with
        | nil =>
          have w := pw_or1 (pos := pos) (ih.t sc X c _ _ h).1
          exact ⟨w.pt, fun _ => w⟩
        | cons b es =>
          simp only at h
          split at h
          · rename_i h1 h2
            cases h
            have w := (pw_or (pos := pos) (ih.t sc X c _ _ h1).1 ((ih.t sc X c _ _ h2).2 ⟨_, _, _, rfl⟩)).conv fun σ H Q z => tor_conv z
            exact ⟨w.pt, fun _ => w⟩
          · cases h
  | UnaryOp op a pos =>
    refine ⟨?_, fun ⟨_, _, _, e⟩ => by cases e⟩
    unfold cT at h
    cases op with
    | Not =>
      simp only at h
      split at h
      · rename_i h1
        cases h
        exact (pt_not (ih.t sc X c _ _ h1).1).conv fun σ H Q z => tnot_conv z
      · cases h
    | _ => exact pl (fun _ => rfl) h
  | Compare a ops bs pos =>
    refine ⟨?_, fun ⟨_, _, _, e⟩ => by cases e⟩
    unfold cT at h
    exact ih.c sc X c _ _ _ _ _ h
  | IfExp => unfold cT at h; cases h
  | _ =>
    refine ⟨?_, fun ⟨_, _, _, e⟩ => by cases e⟩
    unfold cT at h
    exact pl (fun _ => rfl) h
theorem snd_all (N : List Str) (sg : Sig) (mth : List Str) (G : Str → DSp) : ∀ n, Snd N sg mth G n
  | 0 => ⟨fun _ _ _ _ _ h => (by unfold cE at h; cases h), fun _ _ _ _ _ _ _ _ h => (by unfold cE at h; cases h), fun _ _ _ _ _ h => (by unfold cT at h; cases h), fun _ _ _ _ _ h => (by unfold cA at h; cases h), fun _ _ _ _ _ h => (by unfold cA at h; cases h), fun _ _ _ _ _ h => (by unfold cO at h; cases h), fun _ _ _ _ _ h => (by unfold cI at h; cases h)⟩
  | n + 1 => have ih := snd_all N sg mth G n
    ⟨snd_e ih, fun _ _ c _ _ _ _ _ h => (se_cmp ih c h).2, snd_t ih, snd_a ih, snd_k ih, snd_o ih, snd_i ih⟩
end
end Pd

set_option maxHeartbeats 8000000
namespace Pd
open PySem PySem.Spec L2

def noComp : Expr → Bool
  | .ListComp _ _ _ _ => false
  | .SetComp _ _ _ _ => false
  | .DictComp _ _ _ _ _ => false
  | _ => true
def isTup : Expr → Bool
  | .Tuple _ _ _ => true
  | _ => false
theorem sw_none {e : Expr} {tg : Option Expr} {l : Nat} {env : Env} (h : noComp e = true) : swapsWith e tg l env = pure false := by
  cases e <;> first | rfl | cases h
theorem sw_sub {e o i : Expr} {p : Pos} {l : Nat} {env : Env} : swapsWith e (some (.Subscript o i p)) l env = pure false := by
  cases e <;> rfl
theorem sw_cell {elt : Expr} {gs : List Comprehension} {scope : Scope} {pos py : Pos} {y : Str} {l : Nat} {env : Env} (hy : env.scope.names.lookup y = some .cell) : swapsWith (.ListComp elt gs scope pos) (some (.Name y py)) l env = pure false := by
  have ky : env.kindOf y = some .cell := hy
  have h0 : (some NameKind.cell == some NameKind.local) = false := by decide
  unfold swapsWith
  simp only [ky, h0, Bool.and_false, Bool.false_and]
/-- which stores are swapped, by the scope alone; none: not known -/
def swS (sc : Scope) (ts vs : List Expr) : Option (Option (List Str)) :=
  if !(ts.length == 2 || ts.length == 3) || vs.length != ts.length || false then some none
  else if vs.any (fun | .Starred .. => true | _ => false) then some none
  else
    let line := (ts.head?.map (·.pos.line)).getD 0
    let names := ts.filterMap fun
      | .Name id pos => if sc.names.lookup id == some .local && pos.line == line then some id else none
      | _ => none
    if names.length != ts.length || names.eraseDups.length != names.length then some none
    else if vs.all (foldedForSure 8) then some none
    else if vs.all (constantsAlone 8) then none
    else some (some names)
theorem swS_ok {ts vs : List Expr} {k k2 : Nat} {p p2 : Pos} {env : Env} {sc : Scope} {r : Option (List Str)} (he : env.scope = sc) (hk : sc.kind = .function) (h : swS sc ts vs = some r) : swappedStores [.Tuple ts k p] (.Tuple vs k2 p2) env = pure r := by
  have hb : (env.blockKind != .function) = false := by unfold Env.blockKind; rw [he, hk]; rfl
  have e : ∀ id : Str, env.kindOf id = sc.names.lookup id := fun id => by unfold Env.kindOf; rw [he]
  unfold swS at h
  unfold swappedStores
  simp only [hb, e]
  split at h
  · rename_i h1
    cases h
    exact if_pos h1
  rename_i h1
  refine Eq.trans (if_neg h1) ?_
  split at h
  · rename_i h2
    cases h
    exact if_pos h2
  rename_i h2
  refine Eq.trans (if_neg h2) ?_
  dsimp only at h
  split at h
  · rename_i h3
    cases h
    exact if_pos h3
  rename_i h3
  refine Eq.trans (if_neg h3) ?_
  split at h
  · rename_i h4
    cases h
    exact if_pos h4
  rename_i h4
  refine Eq.trans (if_neg h4) ?_
  split at h
  · cases h
  rename_i h5
  cases h
  refine Eq.trans (if_neg h5) ?_
  rfl
section
variable (N : List Str) (sg : Sig) (mth : List Str)
mutual
/-- a statement -/
def cS : Nat → Scope → Stmt → Option Ps
  | 0, _, _ => none
  | n + 1, sc, st => match st with
    | .Assign [.Name x px] (.ListComp elt gs scope lp) _ => (match ixOf N x, cE N sg mth n sc (.ListComp elt gs scope lp) with
      | some i, some p => if (sc.names.lookup x == some .cell) || (isPlain sc x && px.line == lp.line && !(scope.names.any fun (n, k) => n == x && (k == .local || k == .cell))) then some (.asg [i] true p) else none
      | _, _ => none)
    | .Assign [.Name x _] e _ => if isLoc sc x && noComp e then (match ixOf N x, cE N sg mth n sc e with
      | some i, some p => some (.asg [i] true p)
      | _, _ => none) else none
    | .Assign [.Tuple ts k p] (.Tuple vs k2 p2) _ => (match swS sc ts vs, names ts with
      | some none, some xs => if xs.all (isLoc sc) then (match ixs N xs, cE N sg mth n sc (.Tuple vs k2 p2) with
        | some is, some pe => some (.asg is false pe)
        | _, _ => none) else none
      | some (some ys), some xs => if decide (xs = ys) && xs.all (isPlain sc) && decide (xs.length = 2) && decide (vs.length = 2) && decide xs.Nodup then (match ixs N xs, cA N sg mth n sc vs with
        | some is, some pe => some (.par is pe)
        | _, _ => none) else none
      | _, _ => none)
    | .Assign [.Tuple ts k p] e _ => if !isTup e && noComp e then (match names ts with
      | some xs => if xs.all (isLoc sc) then (match ixs N xs, cE N sg mth n sc e with
        | some is, some pe => some (.asg is false pe)
        | _, _ => none) else none
      | none => none) else none
    | .Assign [.Subscript o i _] e _ => (match cE N sg mth n sc o, cE N sg mth n sc i, cE N sg mth n sc e with
      | some po, some pi, some pe => some (.asgIx po pi pe)
      | _, _, _ => none)
    | .Expr e _ => if noComp e then (match cE N sg mth n sc e with
      | some p => some (.expr p)
      | none => none) else none
    | .Return (some e) _ => (match cE N sg mth n sc e with
      | some p => some (.ret p)
      | none => none)
    | .Return none _ => some (.ret .non)
    | .If c a b _ => (match cT N sg mth n sc c, cB n sc a, cB n sc b with
      | some pc, some pa, some pb => some (.ife pc pa pb)
      | _, _, _ => none)
    | .While c b [] _ => (match cT N sg mth n sc c, cB n sc b with
      | some pc, some pb => some (.while pc pb)
      | _, _ => none)
    | .For tg it b [] _ => (match tgNames tg, cI N sg mth n sc it, cB n sc b with
      | some (one, xs), some pit, some pb => if (!needTup pit || !one) && xs.all (isLoc sc) then (match ixs N xs with
        | some is => some (.for is one pit pb)
        | none => none) else none
      | _, _, _ => none)
    | .Raise _ _ _ => some .never
    | .Pass _ => some .skip
    | .Break _ => some .brk
    | .Continue _ => some .cont
    | _ => none
/-- a block -/
def cB : Nat → Scope → List Stmt → Option Ps
  | 0, _, _ => none
  | n + 1, sc, sts => match sts with
    | [] => some .skip
    | st :: rest => (match rest with
      | [] => cS n sc st
      | _ :: _ => (match cS n sc st, cB n sc rest with
        | some p, some q => some (.seq p q)
        | _, _ => none))
end
end

section
variable {N : List Str} {sg : Sig} {mth : List Str} {G : Str → DSp}
def wantN (K : PySem.W.Frag) (H : Hp) (M : Mp) (P : L2.St → Hp → Prop) : DSt → Mp → Prop := fun d M' => ∀ σ' H', RepS K H' d σ' → Prog K H M H' M' → RepM K H' M' → P σ' H'
def ends (K : PySem.W.Frag) (H : Hp) (M : Mp) (E : L2.Ends) : DE := ⟨wantN K H M E.nx, want K H M E.rt, wantN K H M E.bk, wantN K H M E.ct⟩
def tSI (K : PySem.W.Frag) (G : Str → DSp) (p : Ps) : TS := fun E σ H => ∃ d M, RepS K H d σ ∧ RepM K H M ∧ wS G p (ends K H M E) d M
theorem wantN.at {K : PySem.W.Frag} {H H1 : Hp} {M M1 : Mp} {P : L2.St → Hp → Prop} {d : DSt} {M' : Mp} (p : Prog K H M H1 M1) (h : wantN K H M P d M') : wantN K H1 M1 P d M' := fun σ' H' r q m => h σ' H' r (p.trans q) m
theorem ends.at {K : PySem.W.Frag} {H H1 : Hp} {M M1 : Mp} {E : L2.Ends} (p : Prog K H M H1 M1) : (ends K H M E).Le (ends K H1 M1 E) := ⟨fun _ _ h => h.at p, fun _ _ h => h.at p, fun _ _ h => h.at p, fun _ _ h => h.at p⟩
theorem asg_conv {K : PySem.W.Frag} {tg : List Nat} {one : Bool} {pe : Px} {E : L2.Ends} {σ : L2.St} {H : Hp} (z : tSI K G (.asg tg one pe) E σ H) : tAsg (tI K G pe) (gTg K one tg) E σ H := by
  obtain ⟨d, M, rs, m, z⟩ := z
  unfold wS at z
  refine ⟨d, M, rs, m, wE_mono (fun x M1 z => ?_) z⟩
  intro H1 v p1 rx m1
  obtain ⟨σ', hb, z⟩ := z
  exact tg_set (rs.keep p1.keep) rx hb fun σ2 rs2 _ => z σ2 H1 rs2 p1 m1
theorem asgIx_conv {K : PySem.W.Frag} {o i pe : Px} {E : L2.Ends} {σ : L2.St} {H : Hp} (z : tSI K G (.asgIx o i pe) E σ H) : tAsg (tI K G pe) (gSub (tI K G o) (tI K G i) rSetL) E σ H := by
  obtain ⟨d, M, rs, m, z⟩ := z
  unfold wS at z
  refine ⟨d, M, rs, m, wE_mono (fun x M1 z => ?_) z⟩
  intro H1 v p1 rx m1
  refine ⟨d, M1, rs.keep p1.keep, m1, wE_mono (fun y M2 z => ?_) z⟩
  intro H2 w p2 ry m2
  refine ⟨d, M2, (rs.keep p1.keep).keep p2.keep, m2, wE_mono (fun u M3 z => ?_) z⟩
  intro H3 t p3 rt m3
  obtain ⟨p, ds, k, j, rfl, rfl, hp, hj, z⟩ := z
  rw [rep_ref] at ry; subst ry
  rw [rep_int] at rt; subst rt
  obtain ⟨vs, hv, rl⟩ := m3.lst hp
  have pp := (p1.trans p2).trans p3
  refine ⟨p, vs, k, j, rfl, rfl, hv, by rw [← rl.length]; exact hj, ?_⟩
  have rx3 := (rx.keep p2.keep).keep p3.keep
  have pn := Prog.set (K := K) (ws := vs.set j v) (es := ds.set j x) m3 hp
  exact z σ _ (rs.keep (pp.keep.trans pn.keep)) (pp.trans pn) (m3.set hp (RepL.set rx3 j rl))
theorem par_conv {K : PySem.W.Frag} {i j : Nat} {pe : Px} {E : L2.Ends} {σ : L2.St} {H : Hp} (z : tSI K G (.par [i, j] pe) E σ H) : tPar i j (tAI K G pe) E σ H := by
  obtain ⟨d, M, rs, m, z⟩ := z
  unfold wS at z
  refine ⟨d, M, rs, m, wE_mono (fun x M1 z => ?_) z⟩
  obtain ⟨ds, σ', rfl, hs, z⟩ := z
  refine ⟨ds, rfl, fun H1 vs p1 rl m1 => ?_⟩
  have hl := setAll_len hs
  cases ds with
  | nil => cases hl
  | cons a ds =>
    cases ds with
    | nil => cases hl
    | cons b ds =>
      cases ds with
      | cons _ _ => simp at hl
      | nil =>
        obtain ⟨v, ws, rfl, rv, rl⟩ := repL_cons.mp rl
        obtain ⟨w, ws, rfl, rw, rl⟩ := repL_cons.mp rl
        rw [repL_nil.mp rl]
        cases hs
        exact ⟨v, w, rfl, z _ H1 (((rs.keep p1.keep).set rv i).set rw j) p1 m1⟩
theorem expr_conv {K : PySem.W.Frag} {pe : Px} {E : L2.Ends} {σ : L2.St} {H : Hp} (z : tSI K G (.expr pe) E σ H) : tDrop (tI K G pe) E σ H := by
  obtain ⟨d, M, rs, m, z⟩ := z
  unfold wS at z
  refine ⟨d, M, rs, m, wE_mono (fun x M1 z => ?_) z⟩
  intro H1 v p1 rx m1
  exact z σ H1 (rs.keep p1.keep) p1 m1
theorem ret_conv {K : PySem.W.Frag} {pe : Px} {E : L2.Ends} {σ : L2.St} {H : Hp} (z : tSI K G (.ret pe) E σ H) : tRet (tI K G pe) E σ H := by
  obtain ⟨d, M, rs, m, z⟩ := z
  unfold wS at z
  exact ⟨d, M, rs, m, z⟩
theorem ifs_conv {K : PySem.W.Frag} {pc : Px} {a b : Ps} {E : L2.Ends} {σ : L2.St} {H : Hp} (z : tSI K G (.ife pc a b) E σ H) : tIfS (tTI K G pc) (tSI K G a) (tSI K G b) E σ H := by
  obtain ⟨d, M, rs, m, z⟩ := z
  unfold wS at z
  refine ⟨d, M, rs, m, wE_mono (fun x M1 z => ?_) z⟩
  rcases z with ⟨rfl, z⟩ | ⟨rfl, z⟩
  · exact ⟨true, rfl, fun H1 p1 m1 => L2.iteT ⟨d, M1, rs.keep p1.keep, m1, wS_mono a (ends.at p1) z⟩⟩
  · exact ⟨false, rfl, fun H1 p1 m1 => L2.iteF ⟨d, M1, rs.keep p1.keep, m1, wS_mono b (ends.at p1) z⟩⟩
theorem seq_conv {K : PySem.W.Frag} {a b : Ps} {E : L2.Ends} {σ : L2.St} {H : Hp} (z : tSI K G (.seq a b) E σ H) : tSeq (tSI K G a) (tSI K G b) E σ H := by
  obtain ⟨d, M, rs, m, z⟩ := z
  unfold wS at z
  refine ⟨d, M, rs, m, wS_mono a (E := { ends K H M E with nx := wS G b (ends K H M E) }) (E' := ends K H M { E with nx := tSI K G b E }) ⟨fun d1 M1 z => ?_, fun _ _ h => h, fun _ _ h => h, fun _ _ h => h⟩ z⟩
  intro σ' H' r p m'
  exact ⟨d1, M1, r, m', wS_mono b (ends.at p) z⟩
theorem while_conv {K : PySem.W.Frag} {pc : Px} {b : Ps} {E : L2.Ends} {σ : L2.St} {H : Hp} (z : tSI K G (.while pc b) E σ H) : tWhile (tTI K G pc) (tSI K G b) E σ H := by
  obtain ⟨d, M, rs, m, z⟩ := z
  unfold wS at z
  obtain ⟨k, z⟩ := z
  refine ⟨fun m σ' H' => ∃ d' M', RepS K H' d' σ' ∧ RepM K H' M' ∧ Prog K H M H' M' ∧ whileN (wE G pc) (wS G b) (ends K H M E) m d' M', ⟨k, d, M, rs, m, .refl, z⟩, ?_⟩
  rintro n σ1 H1 ⟨d1, M1, r1, m1, p1, z⟩
  cases n with
  | zero => exact z.elim
  | succ n =>
    unfold whileN at z
    refine ⟨d1, M1, r1, m1, wE_mono (fun x M2 z => ?_) z⟩
    rcases z with ⟨rfl, z⟩ | ⟨rfl, z⟩
    · refine ⟨true, rfl, fun H2 p2 m2 => L2.iteT ?_⟩
      refine ⟨fun σ' H' => ∃ d' M', RepS K H' d' σ' ∧ RepM K H' M' ∧ Prog K H M H' M' ∧ whileN (wE G pc) (wS G b) (ends K H M E) n d' M', fun σ' H' w => ⟨n, Nat.lt_succ_self n, w⟩, ?_⟩
      have again : ∀ d2 M3, (∃ M4, Sub M4 M3 ∧ whileN (wE G pc) (wS G b) (ends K H M E) n d2 M4) → wantN K H2 M2 (fun σ' H' => ∃ d' M', RepS K H' d' σ' ∧ RepM K H' M' ∧ Prog K H M H' M' ∧ whileN (wE G pc) (wS G b) (ends K H M E) n d' M') d2 M3 := fun d2 M3 ⟨M4, sb, z⟩ σ' H' r p m' =>
        ⟨d2, M4, r, m'.sub sb, (((p1.trans p2).trans p).sub sb), z⟩
      exact ⟨d1, M2, r1.keep p2.keep, m2, wS_mono b ⟨again, fun _ _ h => want.at (p1.trans p2) h, fun _ _ h => wantN.at (p1.trans p2) h, again⟩ z⟩
    · exact ⟨false, rfl, fun H2 p2 m2 => L2.iteF (z σ1 H2 (r1.keep p2.keep) (p1.trans p2) m2)⟩
theorem for_conv {K : PySem.W.Frag} {tg : List Nat} {one : Bool} {pit : Px} {b : Ps} {E : L2.Ends} {σ : L2.St} {H : Hp} (z : tSI K G (.for tg one pit b) E σ H) : tFor (tWI K G pit) (gTg K one tg) (tSI K G b) E σ H := by
  obtain ⟨d, M, rs, m, z⟩ := z
  unfold wS at z
  refine ⟨d, M, rs, m, wI_mono (fun nx M1 z => ?_) z⟩
  intro H1 J p1 m1 ok
  obtain ⟨k, z⟩ := z
  refine ⟨fun i n σ' H' => ∃ d' M', RepS K H' d' σ' ∧ RepM K H' M' ∧ Prog K H1 M1 H' M' ∧ forN (wS G b) tg one nx (ends K H M E) n i d' M', ⟨k, d, M1, rs.keep p1.keep, m1, .refl, z⟩, ?_⟩
  rintro i n σ2 H2 ⟨d2, M2, r2, m2, p2, z⟩
  cases n with
  | zero => exact z.elim
  | succ n =>
    unfold forN at z
    obtain ⟨ok1, ok2⟩ := ok i H2 M2 p2.keep m2
    split at z
    · exact z.elim
    · rename_i e
      exact .inl ⟨ok1 e, z σ2 H2 r2 (p1.trans p2) m2⟩
    · rename_i x e
      obtain ⟨hgo, hy⟩ := ok2 x e
      refine .inr ⟨hgo, fun σ' H' => ∃ d' M', RepS K H' d' σ' ∧ RepM K H' M' ∧ Prog K H1 M1 H' M' ∧ forN (wS G b) tg one nx (ends K H M E) n (i + 1) d' M', fun σ' H' w => ⟨n, Nat.lt_succ_self n, w⟩, fun v H3 y => ?_⟩
      obtain ⟨q3, rx, m3⟩ := hy v H3 y
      obtain ⟨d3, hb, z⟩ := z
      refine tg_set (r2.keep q3.keep) rx hb fun σ4 r4 _ => ?_
      have pp : Prog K H M H3 M2 := (p1.trans p2).trans q3
      have again : ∀ d5 M5, (∃ M6, Sub M6 M5 ∧ forN (wS G b) tg one nx (ends K H M E) n (i + 1) d5 M6) → wantN K H3 M2 (fun σ' H' => ∃ d' M', RepS K H' d' σ' ∧ RepM K H' M' ∧ Prog K H1 M1 H' M' ∧ forN (wS G b) tg one nx (ends K H M E) n (i + 1) d' M') d5 M5 := fun d5 M5 ⟨M6, sb, z⟩ σ' H' r p m' =>
        ⟨d5, M6, r, m'.sub sb, (((p2.trans q3).trans p).sub sb), z⟩
      exact ⟨d3, M2, r4, m3, wS_mono b ⟨again, fun _ _ h => want.at pp h, fun _ _ h => wantN.at pp h, again⟩ z⟩
end
end Pd

set_option maxHeartbeats 8000000
namespace Pd
open PySem PySem.Spec L2
section
variable {N : List Str} {sg : Sig} {mth : List Str} {G : Str → DSp} {sc : Scope} {X : Cx}
/-- where a def's body stands -/
structure SCtx (N : List Str) (sg : Sig) (mth : List Str) (G : Str → DSp) (sc : Scope) (X : Cx) : Prop extends Ctx N sg mth G sc X where
  po : PassesOwn (model X.prog X.w) X.A X.env X.xe
  fn : ∀ x, X.fn x = true
  kind : sc.kind = .function
theorem SCtx.pe (c : SCtx N sg mth G sc X) {n : Nat} {e : Expr} {p : Px} (h : cE N sg mth n sc e = some p) : PE X e (tI X.K G p) := (snd_all N sg mth G n).e sc X c.toCtx e p h
theorem SCtx.pt (c : SCtx N sg mth G sc X) {n : Nat} {e : Expr} {p : Px} (h : cT N sg mth n sc e = some p) : PT X e (tTI X.K G p) := ((snd_all N sg mth G n).t sc X c.toCtx e p h).1
theorem isPlain_ok {x : Str} (h : isPlain sc x = true) : sc.names.lookup x = some .local := by
  unfold isPlain at h
  split at h
  · assumption
  · cases h
theorem ix1 {x : Str} {is : List Nat} (h : ixs N [x] = some is) : ∃ i, is = [i] ∧ ixOf N x = some i := by
  unfold ixs at h
  split at h
  · rename_i h1 h2
    unfold ixs at h2
    cases h2; cases h
    exact ⟨_, rfl, h1⟩
  · cases h
theorem gTg_one {K : PySem.W.Frag} {i : Nat} : gTg K true [i] = gName i := rfl
theorem tgNames_one {tg : Expr} {xs : List Str} (h : tgNames tg = some (true, xs)) : ∃ x p, tg = .Name x p ∧ xs = [x] := by
  cases tg with
  | Name x p => cases h; exact ⟨x, p, rfl, rfl⟩
  | Tuple es k p =>
    simp only [tgNames] at h
    split at h <;> cases h
  | _ => cases h
structure SndS (N : List Str) (sg : Sig) (mth : List Str) (G : Str → DSp) (n : Nat) : Prop where
  s : ∀ sc X, SCtx N sg mth G sc X → ∀ st p, cS N sg mth n sc st = some p → PS X st (tSI X.K G p)
  b : ∀ sc X, SCtx N sg mth G sc X → ∀ sts p, cB N sg mth n sc sts = some p → PSs X sts (tSI X.K G p)
theorem skip_conv {K : PySem.W.Frag} {E : L2.Ends} {σ : L2.St} {H : Hp} (z : tSI K G .skip E σ H) : tNext E σ H := by
  obtain ⟨d, M, rs, m, z⟩ := z
  unfold wS at z
  exact z σ H rs .refl m
theorem tg_ok (c : SCtx N sg mth G sc X) {tg : Expr} {one : Bool} {xs : List Str} {is : List Nat} (h1 : tgNames tg = some (one, xs)) (h2 : ixs N xs = some is) (h3 : xs.all (isLoc sc) = true) : PG X tg (gTg X.K one is) := by
  refine tg_pg c.calm (by rw [c.hN]; exact c.nd) (fun x _ => .inl (c.fn x)) h1 (by rw [c.hN]; exact h2) fun x hx => ?_
  rw [c.hsc]
  exact loc_of (List.all_eq_true.mp h3 x hx)
theorem tgNames_tup {ts : List Expr} {xs : List Str} {k : Nat} {p : Pos} (h : names ts = some xs) : tgNames (.Tuple ts k p) = some (false, xs) := by
  simp only [tgNames, h]
theorem tgNames_many {tg : Expr} {xs : List Str} (h : tgNames tg = some (false, xs)) : ∃ es k p, tg = .Tuple es k p := by
  cases tg with
  | Tuple es k p => exact ⟨es, k, p, rfl⟩
  | Name x p => cases h
  | _ => cases h
theorem cE_slice {n : Nat} {e : Expr} {p : Px} (h : cE N sg mth n sc e = some p) : ∀ a b c q, e ≠ .Slice a b c q := by
  rintro a b c q rfl
  cases n with
  | zero => unfold cE at h; cases h
  | succ n => unfold cE at h; cases h
theorem swSole1 {t e : Expr} {l : Nat} {env : Env} : swapsWithSole [t] e l env = swapsWith e (some t) l env := by
  cases e <;> rfl
theorem names_two : ∀ {ts : List Expr} {xs : List Str}, names ts = some xs → xs.length = 2 → ∃ x px y py, ts = [.Name x px, .Name y py] ∧ xs = [x, y]
  | [], _, h, hl => by cases h; cases hl
  | [e], xs, h, hl => by
    have := (names_len h).1
    simp only [List.length_cons, List.length_nil] at this
    omega
  | [e, f], xs, h, hl => by
    cases e with
    | Name x px =>
      cases f with
      | Name y py => cases h; exact ⟨x, px, y, py, rfl, rfl⟩
      | _ => cases h
    | _ => cases h
  | _ :: _ :: _ :: _, xs, h, hl => by
    have := (names_len h).1
    simp only [List.length_cons] at this
    omega
theorem assignEach1 {tg : Expr} {one : Bool} {xs : List Str} {env : Env} (h : tgNames tg = some (one, xs)) : (assignEach [tg] env).map (·.2) = [assign tg env] := by
  cases tg with
  | Name x p => rfl
  | Tuple es k p => rfl
  | _ => cases h
theorem two_ix {x y : Str} {is : List Nat} (hn : N.Nodup) (h : ixs N [x, y] = some is) : ∃ i j, is = [i, j] ∧ N[i]? = some x ∧ N[j]? = some y := by
  unfold ixs at h
  split at h
  · rename_i h1 h2
    cases h
    obtain ⟨j, rfl, hj⟩ := ix1 h2
    exact ⟨_, _, rfl, ixOf_get h1, ixOf_get hj⟩
  · cases h
theorem asgS_set {n : Nat} (c : SCtx N sg mth G sc X) {x : Str} {px pos : Pos} {e : Expr} {i : Nat} {p : Px} (hi : ixOf N x = some i) (hx : isLoc sc x = true) (he : cE N sg mth n sc e = some p) (hs : swapsWith e (some (.Name x px)) pos.line X.env = pure false) :
    PS X (.Assign [.Name x px] e pos) (tSI X.K G (.asg [i] true p)) :=
  (ps_set (by rw [c.hN]; exact c.nd) (by rw [c.hN]; exact ixOf_get hi) (by rw [c.hsc]; exact loc_of hx) (c.pe he) hs (.inl (c.fn x))).conv fun E σ H z => asg_conv z
theorem snd_s {n : Nat} (ih : SndS N sg mth G n) : ∀ sc X, SCtx N sg mth G sc X → ∀ st p, cS N sg mth (n + 1) sc st = some p → PS X st (tSI X.K G p) := by
  intro sc X c st p h
  unfold cS at h
  split at h
  · -- name = [..]
    rename_i x px elt gs scope lp pos
    split at h
    · rename_i i pe hi he
      split at h
      · rename_i hc
        cases h
        rw [Bool.or_eq_true] at hc
        rcases hc with hc | hc
        · have hc : sc.names.lookup x = some .cell := by simpa using hc
          exact asgS_set c hi (by unfold isLoc; rw [hc]) he (sw_cell (by rw [c.hsc]; exact hc))
        · simp only [Bool.and_eq_true] at hc
          obtain ⟨⟨c1, c2⟩, c3⟩ := hc
          cases n with
          | zero => unfold cE at he; cases he
          | succ n =>
            have hp := isPlain_ok c1
            obtain ⟨tg, iter, ifs, own, one, tgx, pit, pc, pe', rfl, rfl, h1, h2, h3, h4, h5, h6, h7⟩ := snd_comp (snd_all N sg mth G n) c.toCtx he
            refine (ps_setLc c.calm (by rw [c.hN]; exact c.nd) (by rw [c.hN]; exact ixOf_get hi) (by rw [c.hsc]; exact hp) (sw_true (by rw [c.hsc]; exact c.kind) (by rw [c.hsc]; exact hp) c2 (by simpa using c3)) h2 h3 h4 h5 h6 h7).conv fun E σ H z => ?_
            have z := asg_conv z
            exact comp_conv h1 z
      · cases h
    · cases h
  · split at h
    · rename_i hc
      rw [Bool.and_eq_true] at hc
      split at h
      · rename_i hi he
        cases h
        exact asgS_set c hi hc.1 he (sw_none hc.2)
      · cases h
    · cases h
  · -- a tuple display into a tuple
    rename_i ts k p1 vs k2 p2 pos
    split at h
    · rename_i hs hn
      split at h
      · rename_i hl
        split at h
        · rename_i is pe hi he
          cases h
          exact (ps_asg (c.pe he) (tg_ok c (tgNames_tup hn) hi hl) rfl (swS_ok c.hsc c.kind hs) rfl).conv fun E σ H z => asg_conv z
        · cases h
      · cases h
    · rename_i ys xs hs hn
      split at h
      · rename_i hc
        simp only [Bool.and_eq_true, decide_eq_true_eq] at hc
        obtain ⟨⟨⟨⟨rfl, c2⟩, c3⟩, c4⟩, c5⟩ := hc
        split at h
        · rename_i is pe hi he
          cases h
          obtain ⟨x, px, y, py, rfl, rfl⟩ := names_two hn c3
          obtain ⟨i, j, rfl, gi, gj⟩ := two_ix c.nd hi
          cases vs with
          | nil => cases c4
          | cons a vs =>
            cases vs with
            | nil => cases c4
            | cons b vs =>
              cases vs with
              | cons _ _ => simp at c4
              | nil =>
                have px := isPlain_ok (List.all_eq_true.mp c2 x (by simp))
                have py := isPlain_ok (List.all_eq_true.mp c2 y (by simp))
                have hij : i ≠ j := by
                  intro e
                  subst e
                  rw [gi] at gj
                  cases gj
                  simp at c5
                exact (ps_par c.calm (by rw [c.hN]; exact c.nd) (by rw [c.hN]; exact gi) (by rw [c.hN]; exact gj) hij (by rw [c.hsc]; exact px) (by rw [c.hsc]; exact py) ((snd_all N sg mth G n).a sc X c.toCtx _ _ he) (swS_ok c.hsc c.kind hs) rfl).conv fun E σ H z => par_conv z
        · cases h
      · cases h
    · cases h
  · -- a value into a tuple
    split at h
    · rename_i hc
      rw [Bool.and_eq_true] at hc
      split at h
      · rename_i xs hn
        split at h
        · rename_i hl
          split at h
          · rename_i is pe hi he
            cases h
            rename_i ts k p1 e pos _ _ _ _
            have ht := tgNames_tup (k := k) (p := p1) hn
            have hw : swappedStores [.Tuple ts k p1] e X.env = pure none := by
              cases e <;> first | rfl | (cases hc.1)
            exact (ps_asg (c.pe he) (tg_ok c ht hi hl) (swSole1.trans (sw_none hc.2)) hw rfl).conv fun E σ H z => asg_conv z
          · cases h
        · cases h
      · cases h
    · cases h
  · -- o[i] = e
    split at h
    · rename_i ho hi he
      cases h
      rename_i o i p e pos _ _ _ _ _ _
      have ha : ∀ v, assign (.Subscript o i p) X.env v = (do
          let ov ← holding [v] (eval o X.env)
          let iv ← holding [v, ov] (eval i X.env)
          standAt p
          holding [v, ov, iv] (setItem ov iv v)
          release [v, ov, iv] []) := by
        intro v
        cases i <;> first | rfl | exact absurd rfl (cE_slice hi _ _ _ _)
      exact (ps_asg (c.pe he) (pg_sub (c.pe ho) (c.pe hi) set_list ha) (swSole1.trans sw_sub) rfl rfl).conv fun E σ H z => asgIx_conv z
    · cases h
  · split at h
    · rename_i hc
      split at h
      · rename_i he
        cases h
        exact (ps_expr (c.pe he) (sw_none hc)).conv fun E σ H z => expr_conv z
      · cases h
    · cases h
  · split at h
    · rename_i he
      cases h
      exact (ps_ret (c.pe he)).conv fun E σ H z => ret_conv z
    · cases h
  · cases h
    refine ps_retN.conv fun E σ H z => ?_
    obtain ⟨d, M, rs, m, z⟩ := z
    unfold wS at z
    unfold wE at z
    exact z H _ .refl (rep_non.mpr rfl) m
  · split at h
    · rename_i h1 h2 h3
      cases h
      exact (ps_if (c.pt h1) (ih.b sc X c _ _ h2) (ih.b sc X c _ _ h3)).conv fun E σ H z => ifs_conv z
    · cases h
  · split at h
    · rename_i h1 h2
      cases h
      exact (ps_while c.po (c.pt h1) (ih.b sc X c _ _ h2)).conv fun E σ H z => while_conv z
    · cases h
  · split at h
    · rename_i one xs pit pb h1 h2 h3
      split at h
      · rename_i hc
        rw [Bool.and_eq_true] at hc
        split at h
        · rename_i is hi
          cases h
          refine (ps_for c.po c.calm ((snd_all N sg mth G n).i sc X c.toCtx _ _ h2 _ fun hn => ?_) (tg_ok c h1 hi hc.2) (ih.b sc X c _ _ h3) (folded_ok (cI_set h2))).conv fun E σ H z => for_conv z
          have hc1 := hc.1
          rw [hn] at hc1
          cases one with
          | true => cases hc1
          | false =>
            exact tgNames_many h1
        · cases h
      · cases h
    · cases h
  · cases h
    refine ps_never.conv fun E σ H z => ?_
    obtain ⟨d, M, rs, m, z⟩ := z
    unfold wS at z
    exact z
  · cases h
    exact ps_pass.conv fun E σ H z => skip_conv z
  · cases h
    refine ps_break.conv fun E σ H z => ?_
    obtain ⟨d, M, rs, m, z⟩ := z
    unfold wS at z
    exact z σ H rs .refl m
  · cases h
    refine ps_continue.conv fun E σ H z => ?_
    obtain ⟨d, M, rs, m, z⟩ := z
    unfold wS at z
    exact z σ H rs .refl m
  · cases h
theorem snd_b {n : Nat} (ih : SndS N sg mth G n) : ∀ sc X, SCtx N sg mth G sc X → ∀ sts p, cB N sg mth (n + 1) sc sts = some p → PSs X sts (tSI X.K G p) := by
  intro sc X c sts p h
  cases sts with
  | nil =>
    unfold cB at h; cases h
    exact pss_nil.conv fun E σ H z => skip_conv z
  | cons st rest =>
    cases rest with
    | nil =>
      unfold cB at h
      exact pss_one (ih.s sc X c _ _ h)
    | cons st2 rest =>
      unfold cB at h
      simp only at h
      split at h
      · rename_i h1 h2
        cases h
        exact (pss_cons (ih.s sc X c _ _ h1) (ih.b sc X c _ _ h2)).conv fun E σ H z => seq_conv z
      · cases h
theorem sndS_all (N : List Str) (sg : Sig) (mth : List Str) (G : Str → DSp) : ∀ n, SndS N sg mth G n
  | 0 => ⟨fun _ _ _ _ _ h => (by unfold cS at h; cases h), fun _ _ _ _ _ h => (by unfold cB at h; cases h)⟩
  | n + 1 => have ih := sndS_all N sg mth G n
    ⟨snd_s ih, snd_b ih⟩
end
end Pd

set_option maxHeartbeats 8000000
namespace Pd
open PySem PySem.Spec PyProof.Rows L2

/-- what the module gives -/
structure Gb (P : Program) (mg : Str → Option Value) (base : Heap) (mth : List Str) : Prop where
  ns : base.NoSeer
  tree : P.given.tree = none
  free : ∀ x : Str, x ∈ (["len", "range", "int", "abs", "repr", "tuple", "list", "max", "min", "sum", "isinstance", "bool", "str", "enumerate", "zip", "reversed", "sorted", "any", "all", "set", "dict"] : List Str) → mg x = none
  mth : ∀ x ∈ mth, ∀ id : String, (if x = "gcd" then "math.gcd" else if x = "comb" then "math.comb" else if x = "lcm" then "math.lcm" else "") = id → mg x = some (.builtin id)
/-- the defs that are known -/
def Defs (P : Program) (w : World) (K : PySem.W.Frag) (mg : Str → Option Value) (base : Heap) (G : Str → DSp) (k : Nat) (sg : Sig) : Prop :=
  ∀ f ps sh, sg.lookup f = some (ps, sh) → ∃ a fd j, j ≤ k ∧ FnG P w K mg base j a fd ps (G f) ∧ mg f = some (.ref a) ∧ PySem.W.keepIn K (.ref a) = true ∧ Binds K fd ps [] ∧
    ∀ n ks is, (n, ks) ∈ sh → permOf ps n ks = some is → KwTo K fd ps n ks is
section
variable {P : Program} {w : World} {K : PySem.W.Frag} {mg : Str → Option Value} {base : Heap} {G : Str → DSp} {k : Nat} {sg : Sig} {mth : List Str}
theorem Defs.nil : Defs P w K mg base G k [] := fun f ps sh h => by cases h
theorem Defs.up {k' : Nat} (D : Defs P w K mg base G k sg) (h : k ≤ k') : Defs P w K mg base G k' sg := fun f ps sh e => by
  obtain ⟨a, fd, j, hj, r⟩ := D f ps sh e
  exact ⟨a, fd, j, Nat.le_trans hj h, r⟩
theorem Defs.cons {f : Str} {ps : List Str} {sh : List (Nat × List Str)} {a : Addr} {fd : FuncData} {j : Nat} (D : Defs P w K mg base G k sg) (hj : j ≤ k) (F : FnG P w K mg base j a fd ps (G f)) (hm : mg f = some (.ref a)) (hk : PySem.W.keepIn K (.ref a) = true) (hb : Binds K fd ps [])
    (hkw : ∀ n ks is, (n, ks) ∈ sh → permOf ps n ks = some is → KwTo K fd ps n ks is) : Defs P w K mg base G k ((f, (ps, sh)) :: sg) := fun g qs sh' e => by
  rw [List.lookup_cons] at e
  cases q : (g == f) with
  | true =>
    rw [q] at e
    cases e
    rw [eq_of_beq q]
    exact ⟨a, fd, j, hj, F, hm, hk, hb, hkw⟩
  | false =>
    rw [q] at e
    exact D g qs sh' e
/-- the state at a body's start -/
theorem repS_start {H : Hp} {ds : List D} {vs : List V} {N : List Str} (rl : RepL K H ds vs) : RepS K H (ds.map some ++ List.replicate (N.length - ds.length) none) (L2.start N vs) := by
  unfold L2.start
  have hl := rl.length
  refine ⟨by simp [hl], fun i x e => ?_⟩
  by_cases hi : i < ds.length
  · rw [List.getElem?_append_left (by simpa using hi), List.getElem?_map] at e
    cases q : ds[i]? with
    | none => rw [q] at e; cases e
    | some d =>
      rw [q] at e; cases e
      obtain ⟨v, hv, rv⟩ := rl.get q
      refine ⟨v, ?_, rv⟩
      rw [List.getElem?_append_left (by rw [List.length_map, ← hl]; exact hi), List.getElem?_map, hv]
      rfl
  · rw [List.getElem?_append_right (by simpa using Nat.le_of_not_lt hi), List.getElem?_replicate] at e
    split at e <;> cases e
/-- THE RULE: a def of the text, by its body's meaning -/
theorem fnG_of {f : Addr} {name qual : Str} {params : Arguments} {body : List Stmt} {scope : Scope} {dV kV doc pm cdv ct oc : Value} {an od : Option Addr}
    {osl : Array (Option Value)} {N ps : List Str} {sp : DSp} {n : Nat} {p : Ps} (gb : Gb P mg base mth) (D : Defs P w K mg base G k sg) (h40 : 40 ≤ k)
    (lk : K.lookup f = some ⟨oc, od, .func (PySem.W.fnOf name qual params body scope dV kV doc pm an cdv ct), osl⟩) (hcd : PySem.W.codeIn K cdv qual = true) (S : FnScope N ps scope)
    (hc : cB N sg mth n scope body = some p) (hsp : ∀ ds M R, sp ds M R → wBody G p N.length ds M R) :
    FnG P w K mg base (k + 1) f (PySem.W.fnOf name qual params body scope dV kV doc pm an cdv ct) ps sp := by
  refine ⟨fun A outer s H M args us vs ds Q R hr hgu e0 hb r rl m hl hs hR => ?_⟩
  have hlv : vs.length = ps.length := by rw [← rl.length]; exact hl
  have KX : K.In s.heap := e0.mod.kin.keeps fun b o e => (e0.bs b o e).1
  have lim : s.heap.NoLimit := e0.mod.nolimit.keeps fun b o e => (e0.bs b o e).1
  have hkind : ∀ y ∈ ps.zip us, scope.names.lookup y.1 = some .local ∨ (scope.names.lookup y.1 = some .cell ∧ ((cellsFrom (s.heap.objs.size + 1) scope.names []).lookup y.1).isSome = true) := fun ⟨n, v⟩ hy => by
    rcases S.par n (List.of_mem_zip hy).1 with q | q
    · exact .inl q
    · exact .inr ⟨q, PySem.W.cellsFrom_some _ _ _ (.inl q)⟩
  refine codeAny_call_function hr.depth (KX _ _ lk) rfl S.co S.gen rfl (PySem.W.codeRec_of KX hcd) (hb _ _ _ _ ?_)
  refine wpAny_newFunctionEnv_cells S.kind hkind fun env he s1 x => ?_
  subst he
  refine ⟨lim.keeps x.toInCall.keep, codeAny_func ?_⟩
  have hr' := hr.deeper (envOfC qual scope s.heap.objs.size f cdv)
  have c : SCtx N sg mth G scope (cxOf CX0 P w K mg base N qual scope f cdv A outer s H E0) :=
    { calm := rfl, ns := gb.ns, gu := hgu, fr := ⟨_, outer, rfl, S.gen, S.co, rfl, rfl⟩, tree := gb.tree, room := hr'.mono (Nat.zero_le _), hN := rfl, nd := S.nd, hsc := rfl,
      pyl := by
        have q := hr'.dp
        show (A.deeper (envOfC qual scope s.heap.objs.size f cdv)).depth + 100 < _
        omega
      free := gb.free, mth := gb.mth,
      defs := fun f ps sh e => by
        obtain ⟨a, fd, j, hj, h1, h2, h3, h4, h5⟩ := D f ps sh e
        exact ⟨a, fd, j, h1, hr'.mono hj, h2, h3, h4, h5⟩
      po := passes_of rfl, fn := fun _ => rfl, kind := S.kind }
  have hps := (sndS_all N sg mth G n).b scope _ c body p hc
  have I : Inv (cxOf CX0 P w K mg base N qual scope f cdv A outer s H E0) [] (L2.start N vs) H s1 := inv_start S hr.hd e0 hlv r x
  have hq : tSI K G p { nx := fun _ H' => Q .non H', rt := Q } (L2.start N vs) H := by
    refine ⟨_, M, repS_start rl, m, wS_mono p ⟨fun σ' M' h => ?_, fun d M' h => ?_, fun _ _ h => False.elim h, fun _ _ h => False.elim h⟩ (hsp ds M R hs)⟩
    · obtain ⟨M2, sb, h⟩ := h
      intro σ2 H2 _ pp m2
      exact (hR _ _ h) H2 _ (pp.sub sb) (rep_non.mpr rfl) (m2.sub sb)
    · obtain ⟨M2, sb, h⟩ := h
      intro H2 v pp rv m2
      exact (hR _ _ h) H2 v (pp.sub sb) rv (m2.sub sb)
  refine wpAny_mono (hps.run [] s1 (L2.start N vs) H _ I hq) (fun fl s' hs => ?_) fun e s' hs => hs
  have fin : ∀ {σ' : L2.St} {H' : Hp} {v : V} {u : Value}, Inv (cxOf CX0 P w K mg base N qual scope f cdv A outer s H E0) [] σ' H' s' → RelV v u → Q v H' → CE outer P w H s Q u s' :=
    fun {σ' H' v u} J rv q => ⟨v, H', J.os, J.bare, J.base, J.hok, rv, q⟩
  cases fl with
  | ret u =>
    obtain ⟨v, σ', H', J, rv, q⟩ := hs
    exact fin J rv q
  | next =>
    obtain ⟨σ', H', J, q⟩ := hs
    exact fin (v := V.non) (u := Value.none) J rfl q
  | brk =>
    obtain ⟨_, _, _, q⟩ := hs
    exact False.elim q
  | cont =>
    obtain ⟨_, _, _, q⟩ := hs
    exact False.elim q

def NoList (K K' : PySem.W.Frag) : Prop := ∀ b o, K.lookup b = some o → (¬ ∃ its n, o.cls = .type "list" ∧ o.data = .seq its n) → K'.lookup b = some o
theorem codeIn_out {K' : PySem.W.Frag} (h : NoList K K') {cd : Value} {q : Str} (e : PySem.W.codeIn K cd q = true) : PySem.W.codeIn K' cd q = true := by
  unfold PySem.W.codeIn at e ⊢
  cases cd with
  | ref c =>
    simp only at e ⊢
    cases l : K.lookup c with
    | none => rw [l] at e; cases e
    | some o =>
      rw [l] at e
      obtain ⟨oc, od, dt, osl⟩ := o
      cases dt with
      | fields vs =>
        rw [h _ _ l (by rintro ⟨its, n, _, q⟩; cases q)]
        exact e
      | _ => cases e
  | _ => cases e
theorem funD_out {K' : PySem.W.Frag} (h : NoList K K') {x qual : Str} {params : Arguments} {body : List Stmt} {scope : Scope} {f : Addr} {fd : FuncData} (F : FunD K x qual params body scope [] [] f fd) : FunD K' x qual params body scope [] [] f fd := by
  obtain ⟨oc, od, dV, kV, doc, pm, an, cdv, ct, osl, e, lk, hcd, hD, hK⟩ := F.ex
  have lk' := h _ _ lk (by rintro ⟨its, n, _, q⟩; cases q)
  refine ⟨⟨oc, od, dV, kV, doc, pm, an, cdv, ct, osl, e, lk', codeIn_out h hcd, ?_, .inl rfl⟩, ?_⟩
  · rcases hD with ⟨_, r⟩ | ⟨q, _⟩
    · exact .inl ⟨rfl, r⟩
    · exact absurd rfl q
  · show (match K'.lookup f with
      | some ⟨_, _, .func _, _⟩ => true
      | some ⟨_, _, .cls _, _⟩ => PySem.W.specialIn K' (.ref f) "__call__" == some (some (.builtin "type.__call__"))
      | _ => false) = true
    rw [lk']
/-- the rule, from what the head tells of the def -/
theorem fnG_funD {f : Addr} {fd : FuncData} {x qual : Str} {params : Arguments} {body : List Stmt} {scope : Scope} {N ps : List Str} {sp : DSp} {n : Nat} {p : Ps} (F : FunD K x qual params body scope [] [] f fd) (gb : Gb P mg base mth) (D : Defs P w K mg base G k sg) (h40 : 40 ≤ k) (S : FnScope N ps scope)
    (hc : cB N sg mth n scope body = some p) (hsp : ∀ ds M R, sp ds M R → wBody G p N.length ds M R) : FnG P w K mg base (k + 1) f fd ps sp := by
  obtain ⟨oc, od, dV, kV, doc, pm, an, cdv, ct, osl, rfl, lk, hcd, _, _⟩ := F.ex
  exact fnG_of gb D h40 lk hcd S hc hsp
/-- .. with it in the table -/
theorem Defs.next {f : Str} {a : Addr} {fd : FuncData} {x qual : Str} {params : Arguments} {body : List Stmt} {scope : Scope} {N ps : List Str} {n : Nat} {p : Ps} {sh : List (Nat × List Str)} (D : Defs P w K mg base G k sg) (gb : Gb P mg base mth) (h40 : 40 ≤ k) (F : FunD K x qual params body scope [] [] a fd) (S : FnScope N ps scope)
    (hc : cB N sg mth n scope body = some p) (hsp : ∀ ds M R, G f ds M R → wBody G p N.length ds M R) (hm : mg f = some (.ref a))
    (hb : ∀ (kV doc pm : Value) (an : Option Addr) (cdv ct : Value) (us : List Value), us.length = ps.length → bindArgs (PySem.W.fnOf x qual params body scope .none kV doc pm an cdv ct) ⟨us, []⟩ = pure (ps.zip us))
    (hkw : ∀ n ks is, (n, ks) ∈ sh → permOf ps n ks = some is → ∀ (kV doc pm : Value) (an : Option Addr) (cdv ct : Value) (us ws : List Value), us.length = n → ws.length = ks.length → bindArgs (PySem.W.fnOf x qual params body scope .none kV doc pm an cdv ct) ⟨us, ks.zip ws⟩ = pure (ps.zip (pick is (us ++ ws)))) :
    Defs P w K mg base G (k + 1) ((f, (ps, sh)) :: sg) := by
  refine (D.up (Nat.le_succ k)).cons (Nat.le_refl _) (fnG_funD F gb D h40 S hc hsp) hm F.kp (F.bindsN hb) fun n ks is h1 h2 => ?_
  obtain ⟨oc, od, dV, kV, doc, pm, an, cdv, ct, osl, rfl, lk, hcd, hD, hK⟩ := F.ex
  rcases hD with ⟨_, rfl⟩ | ⟨e, _⟩
  · exact fun s us ws _ l1 l2 => .of_eq (hkw n ks is h1 h2 kV doc pm an cdv ct us ws l1 l2)
  · exact absurd rfl e
end

theorem noSeer_hid {h : Heap} {H : Hp} {a : Addr} {vs : List Value} (x : h.NoSeer) (ha : h.get? a = some { cls := .type "list", data := .seq vs.toArray }) (hA : ∀ b, H b ≠ none → b = a) : (hidT h H).NoSeer := by
  have base_of : ∀ {b : Addr} {o : Obj}, h.get? b = some o → (¬ (o.cls = .type "list")) ∨ (∃ es ep, o.data = .dict es ep) → (hidT h H).get? b = some o := fun {b o} e d => by
    refine hidT_get e ?_
    cases q : H b with
    | none => rfl
    | some u =>
      have e' : b = a := hA b (by rw [q]; simp)
      subst e'
      rw [ha] at e; cases e
      rcases d with d | ⟨es, ep, d⟩
      · exact absurd rfl d
      · cases d
  have nsK : ∀ {b : Addr} {m : Str → Option Value}, h.Ns b m → (hidT h H).Ns b m := fun {b m} ⟨o, es, ep, e, d, r⟩ => ⟨o, es, ep, base_of e (.inr ⟨es, ep, d⟩), d, r⟩
  exact {
    statics := let ⟨mc, a, b⟩ := x.statics; ⟨mc, nsK a, b⟩
    mods := let ⟨mc, a, b⟩ := x.mods; ⟨mc, nsK a, b⟩
    imp := let ⟨mc, a, b⟩ := x.imp; ⟨mc, nsK a, b⟩
    main := by
      obtain ⟨mg, bm, ob, a, b, c, d, e⟩ := x.main
      refine ⟨mg, bm, ob, nsK a, b, base_of c (.inl ?_), d, e⟩
      rw [d]
      intro q
      exact absurd (Value.type.inj q) (by decide) }
/-- the script as the law's def gets it -/
def scriptM (a : Addr) (ns : List Int) : Mp := put (fun _ => none) a (.rol (ns.map D.int))
theorem repL_ints {K : PySem.W.Frag} {H : Hp} : ∀ ns : List Int, RepL K H (ns.map D.int) (ns.map V.int)
  | [] => repL_nil.mpr rfl
  | n :: ns => repL_cons.mpr ⟨_, _, rfl, rep_int.mpr rfl, repL_ints ns⟩
def without (K : PySem.W.Frag) (a : Addr) : PySem.W.Frag := K.filter fun p => !(p.1 == a)
theorem without_ne {K : PySem.W.Frag} {a b : Addr} (h : b ≠ a) : (without K a).lookup b = K.lookup b := by
  induction K with
  | nil => rfl
  | cons p K ih =>
    obtain ⟨c, o⟩ := p
    unfold without at ih ⊢
    rw [List.filter_cons]
    by_cases q : c = a
    · subst q
      have q2 : (b == c) = false := beq_eq_false_iff_ne.mpr h
      simp only [beq_self_eq_true, Bool.not_true, List.lookup_cons, q2]
      exact ih
    · have q2 : (!(c == a)) = true := by simpa using q
      simp only [q2, if_true, List.lookup_cons, ih]
theorem without_self {K : PySem.W.Frag} {a : Addr} : (without K a).lookup a = none := by
  induction K with
  | nil => rfl
  | cons p K ih =>
    obtain ⟨c, o⟩ := p
    unfold without at ih ⊢
    rw [List.filter_cons]
    by_cases q : c = a
    · subst q
      simp only [beq_self_eq_true, Bool.not_true]
      exact ih
    · have q2 : (!(c == a)) = true := by simpa using q
      have q3 : (a == c) = false := beq_eq_false_iff_ne.mpr fun e => q e.symm
      simp only [q2, if_true, List.lookup_cons, q3, ih]
theorem law_callG {P : Program} {w : World} {K : PySem.W.Frag} {mg mb : Str → Option Value} {k : Nat} {fa a : Addr} {fd : FuncData} {x : Str} {sp : DSp} {s₁ : Shared} {vs : List Value} {ns : List Int}
    (KX : K.In s₁.heap) (hns : s₁.heap.Ns mainGlobals mg) (hb : s₁.heap.Ns builtinsNs mb) (hbb : ∀ x : Str, x ≠ "__name__" → mb x = bootBuiltins x) (hlim : s₁.heap.NoLimit) (hseer : s₁.heap.NoSeer) (hg : s₁.gens = #[])
    (ha : s₁.heap.get? a = some { cls := .type "list", data := .seq vs.toArray }) (hi : IntsAre vs ns) (hl : ns.length ≤ sizeLine) (hr : Room k callerA)
    (F : ∀ (base : Heap) (K' : PySem.W.Frag), NoList K K' → K'.In base → base.Ns mainGlobals mg → base.NoSeer → FnG P w K' mg base k fa fd [x] sp) (hbind : ∀ (s : Shared) (u : Value), BindsTo s fd ⟨[u], []⟩ [(x, u)])
    (hsp : sp [.ref a] (scriptM a ns) fun d _ => d = .bl true) :
    codeAny (model P w) callerA (.call (.ref fa) ⟨[.ref a], []⟩) (fun r s' => r = .ok (.ret (.bool true)) ∧ OldK s₁.heap s'.heap ∧ s'.os = s₁.os ∧ AllBare s'.gens) s₁ := by
  have rv := vals_ints hi
  have lenV := hi.length
  let H : Hp := fun b => if b = a then some (.frz { cls := .type "list", data := .seq vs.toArray } (.lst (ns.map V.int))) else none
  have Ha : H a = some (.frz { cls := .type "list", data := .seq vs.toArray } (.lst (ns.map V.int))) := if_pos rfl
  have Hn : ∀ b, b ≠ a → H b = none := fun b z => if_neg z
  have hA : ∀ b, H b ≠ none → b = a := fun b z => by
    by_cases q : b = a
    · exact q
    · exact absurd (Hn b q) z
  have hok : HOk P w H s₁.heap := fun b u z => by
    by_cases q : b = a
    · subst q
      rw [Ha] at z; cases z
      exact ⟨ha, by rw [List.length_map]; exact hl, vs, _, rv, ha⟩
    · rw [Hn b q] at z; cases z
  have base_of : ∀ {b : Addr} {o : Obj}, s₁.heap.get? b = some o → H b = none → (hidT s₁.heap H).get? b = some o := fun e n => hidT_get e n
  have noA : ∀ {b : Addr} {o : Obj} {es : Array DictEntry} {ep : Nat}, s₁.heap.get? b = some o → o.data = .dict es ep → H b = none := fun {b o es ep} e d => by
    by_cases q : b = a
    · subst q
      rw [ha] at e; cases e
      cases d
    · exact Hn b q
  have nsK : ∀ {b : Addr} {m : Str → Option Value}, s₁.heap.Ns b m → (hidT s₁.heap H).Ns b m := fun {b m} ⟨o, es, ep, e, d, r⟩ => ⟨o, es, ep, base_of e (noA e d), d, r⟩
  let K' := without K a
  have nl : NoList K K' := fun b o e no => by
    by_cases q : b = a
    · subst q
      have := KX _ _ e
      rw [ha] at this; cases this
      exact absurd ⟨_, _, rfl, rfl⟩ no
    · show (without K a).lookup b = some o
      rw [without_ne q]; exact e
  have hKb : K'.In (hidT s₁.heap H) := fun b o e => by
    by_cases q : b = a
    · subst q
      have e : (without K b).lookup b = some o := e
      rw [without_self] at e; cases e
    · have e : (without K a).lookup b = some o := e
      rw [without_ne q] at e
      exact base_of (KX b o e) (Hn b q)
  have hM : Mod K' mg (hidT s₁.heap H) := ⟨hKb, nsK hns, ⟨mb, nsK hb, hbb⟩, let ⟨mc, h1, h2⟩ := hlim; ⟨mc, nsK h1, h2⟩⟩
  have e0 : Env0 P w K' mg (hidT s₁.heap H) callerA [] s₁ H := ⟨rfl, hM, fun b o e => of_hidT e, Nat.le_of_eq (hidT_size _ _), trivial, fun b hb => absurd (show b ∈ ([] : List Addr) from hb) (by simp), hok, .of_eq hg⟩
  have hm : RepM K' H (scriptM a ns) := fun b o e => by
    unfold scriptM at e
    by_cases q : b = a
    · subst q
      rw [put_same] at e; cases e
      exact ⟨_, .inr ⟨_, Ha⟩, repL_ints ns⟩
    · rw [put_ne q] at e; cases e
  refine codeAny_mono ((F _ _ nl hKb (nsK hns) (noSeer_hid hseer ha hA)).run callerA [] s₁ H (scriptM a ns) ⟨[.ref a], []⟩ [.ref a] [.ref a] [.ref a] (fun v _ => v = .bl true) (fun d _ => d = .bl true) hr rfl e0 (hbind s₁ (.ref a)) (.cons rfl .nil) (RepL.one (rep_ref.mpr rfl)) hm rfl hsp fun d M' e => ?_) fun r s' h => ?_
  · subst e
    intro H' v _ rv _
    exact rep_bl.mp rv
  · cases r with
    | error e => exact h.elim
    | ok fl =>
      cases fl with
      | next => exact False.elim h
      | brk => exact False.elim h
      | cont => exact False.elim h
      | ret u =>
        obtain ⟨v, H', os, bare, un, hok', r', q⟩ := h
        have q' : v = .bl true := q
        subst q'
        obtain rfl : u = Value.bool true := r'
        refine ⟨rfl, OldK.of_keep fun b o e => ?_, os, bare⟩
        cases q : H b with
        | none => exact un.keep b o e q (by intro z; exact absurd (show b ∈ ([] : List Addr) from z) (by simp)) (by simp)
        | some u =>
          have hba : b = a := hA b (by rw [q]; simp)
          subst hba
          have z2 := un.frzs b _ _ Ha
          obtain ⟨e1, _⟩ := hok b _ Ha
          obtain ⟨e2, _⟩ := hok' b _ z2
          rw [e] at e1; cases e1
          exact e2
theorem walk_ofG {l : PySem.W.OpenLaw} {n k : Nat} {q : Program} {loose : List Str} {XP : (Str → Option Value) → Heap → Prop} {YP : World → Heap → Prop} {d : DefRec} {x : Str}
    (hn : l.most = some n) (hn2 : n ≤ sizeLine) (hdf : d.params.defaults = []) (hr : Room k callerA) (hq : PyProof.Rows.importsNone q = true)
    (F : ∀ (w : World) (mg : Str → Option Value) (fa : Addr) (h : Heap), YP w h → h.Ns mainGlobals mg → mg d.name = some (.ref fa) →
      ∃ (K : PySem.W.Frag) (fd : FuncData) (sp : DSp), K.In h ∧ (∀ (s : Shared) (u : Value), BindsTo s fd ⟨[u], []⟩ [(x, u)]) ∧
        (∀ (a : Addr) (ns : List Int), ns.length ≤ n → (∀ z ∈ ns, Builtin.Int.intBits z ≤ 1048576) → sp [.ref a] (scriptM a ns) fun d _ => d = .bl true) ∧
        ∀ (base : Heap) (K' : PySem.W.Frag), NoList K K' → K'.In base → base.Ns mainGlobals mg → base.NoSeer → FnG l.prog w K' mg base k fa fd [x] sp) :
    PySem.W.WalkO q loose XP YP l.row.toRowW d [] (fun f vs => PySem.call f vs) := by
  refine Att.attach_callB hn hdf fun w s₀ s₁ mg mb fa o pm cd doc a vs ns G Y ho hd hcd hmg hobj hints hlen hbits hg => ?_
  obtain ⟨K, fd, sp, KX, hb, hsp, hF⟩ := F w mg fa _ Y G.T.g hmg
  exact law_callG KX G.T.g G.T.b G.T.builtins G.T.nolimit (G.T.seer hq) hg hobj hints (Nat.le_trans hlen hn2) hr hF hb (hsp a ns hlen hbits)
end Pd

set_option maxHeartbeats 4000000
namespace Pd
open PySem PySem.Spec PyProof.Rows L2 He
def bxB (bx : List (Str × String)) (K : PySem.W.Frag) : Bool := bx.all fun p => eqO (PySem.W.nsIn K mainGlobals p.1) (some (some (.builtin p.2)))
def obsG (n : Nat) (fa : List Fa) (fn : List DefD) (bx : List (Str × String)) (g : Addr → Option Obj) : AlD × Bool := (obsD fa fn (frG g (asD g n)), bxB bx (frG g (asD g n)))
def hookG (n : Nat) (fa : List Fa) (fn : List DefD) (bx : List (Str × String)) : PySem.W.Hook where
  α := AlD × Bool
  obs := fun s => obsG n fa fn bx s.heap.get?
  val := fun _ => (valD fn, true)
  says := fun _ h => ∃ K : PySem.W.Frag, K.In h ∧ SaysD fa fn K ∧ bxB bx K = true
  of := fun _ _ e => ⟨_, frG_in, (Prod.mk.inj e).1, (Prod.mk.inj e).2⟩
  keeps := fun _ _ _ ⟨K, hK, c⟩ k => ⟨K, PySem.W.Frag.In.keeps hK k, c⟩
theorem obsG_eq {n : Nat} {fa : List Fa} {fn : List DefD} {bx : List (Str × String)} {g : Addr → Option Obj} {s : Shared} (h : ∀ a, g a = s.heap.get? a) : obsG n fa fn bx g = (hookG n fa fn bx).obs s := by
  have e : g = s.heap.get? := funext h
  rw [e] <;> rfl
theorem bx_ok {bx : List (Str × String)} {K : PySem.W.Frag} {h : Heap} {mg : Str → Option Value} (X : K.In h) (G : h.Ns mainGlobals mg) (c : bxB bx K = true) {x : Str} {i : String} (hm : (x, i) ∈ bx) : mg x = some (.builtin i) :=
  PySem.W.mg_of X G (eqO_ok (List.all_eq_true.mp c _ hm))
/-- the built-in names of which none is bound by the module -/
def freeNames : List Str := ["len", "range", "int", "abs", "repr", "tuple", "list", "max", "min", "sum", "isinstance", "bool", "str", "enumerate", "zip", "reversed", "sorted", "any", "all", "set", "dict"]
theorem free_all {fa : List Fa} {fn : List DefD} {K : PySem.W.Frag} {h : Heap} {mg : Str → Option Value} (X : K.In h) (G : h.Ns mainGlobals mg) (c : SaysD fa fn K) (hf : ∀ x ∈ freeNames, Fa.free x ∈ fa) : ∀ x : Str, x ∈ (["len", "range", "int", "abs", "repr", "tuple", "list", "max", "min", "sum", "isinstance", "bool", "str", "enumerate", "zip", "reversed", "sorted", "any", "all", "set", "dict"] : List Str) → mg x = none := fun x hx => by
  have c1 := (ba (show ((fa.all fun f => f.ok K) && fn.all fun d => d.ok K) = true from congrArg (fun z : AlD => z.1) c)).1
  exact free_ok X G (List.all_eq_true.mp c1 _ (hf x hx))
theorem kw_nil {P : Nat → List Str → List Nat → Prop} {ps : List Str} : ∀ n ks is, (n, ks) ∈ ([] : List (Nat × List Str)) → permOf ps n ks = some is → P n ks is := fun _ _ _ h => by cases h
theorem kw_cons {P : Nat → List Str → List Nat → Prop} {ps : List Str} {n0 : Nat} {ks0 : List Str} {is0 : List Nat} {sh : List (Nat × List Str)} (h0 : permOf ps n0 ks0 = some is0) (h : P n0 ks0 is0) (r : ∀ n ks is, (n, ks) ∈ sh → permOf ps n ks = some is → P n ks is) :
    ∀ n ks is, (n, ks) ∈ (n0, ks0) :: sh → permOf ps n ks = some is → P n ks is := fun n ks is hm hp => by
  rcases List.mem_cons.mp hm with e | hm
  · cases e
    rw [h0] at hp; cases hp
    exact h
  · exact r n ks is hm hp
end Pd

set_option maxHeartbeats 4000000
namespace Pd
open PySem PySem.Spec L2

def Bd (n : Nat) (i : Int) : Prop := i.natAbs < 2 ^ n
instance instBd {n : Nat} {i : Int} : Decidable (Bd n i) := inferInstanceAs (Decidable (i.natAbs < 2 ^ n))
theorem Bd.mono {n m : Nat} {i : Int} (h : Bd n i) (k : n ≤ m) : Bd m i := Nat.lt_of_lt_of_le h (Nat.pow_le_pow_right (by decide) k)
theorem Bd.mulOk {n m : Nat} {a b : Int} (ha : Bd n a) (hb : Bd m b) (h : n + m ≤ 134217728) : IntMulOk a b := (mulx_ok ha hb h).ok
theorem Bd.mul {n m : Nat} {a b : Int} (ha : Bd n a) (hb : Bd m b) : Bd (n + m) (a * b) := by
  unfold Bd at *
  rw [Int.natAbs_mul, Nat.pow_add]
  exact Nat.mul_lt_mul_of_lt_of_lt ha hb
theorem Bd.add {n : Nat} {a b : Int} (ha : Bd n a) (hb : Bd n b) : Bd (n + 1) (a + b) := by
  unfold Bd at *
  have := Int.natAbs_add_le a b
  rw [Nat.pow_succ]; omega
theorem Bd.neg {n : Nat} {a : Int} (ha : Bd n a) : Bd n (-a) := by
  unfold Bd at *
  rw [Int.natAbs_neg]; exact ha
theorem Bd.sub {n : Nat} {a b : Int} (ha : Bd n a) (hb : Bd n b) : Bd (n + 1) (a - b) := by
  rw [Int.sub_eq_add_neg]
  exact ha.add hb.neg
theorem Bd.of_lt {n : Nat} {a : Int} (h0 : 0 ≤ a) (h : a < 2 ^ n) : Bd n a := by
  unfold Bd
  have : ((2 ^ n : Nat) : Int) = 2 ^ n := by simp
  omega
theorem Bd.of_le {n : Nat} {a b : Int} (h : a.natAbs ≤ b.natAbs) (hb : Bd n b) : Bd n a := Nat.lt_of_le_of_lt h hb
theorem Bd.zero {n : Nat} : Bd n 0 := Nat.pow_pos (by decide)
theorem Bd.one {n : Nat} (h : 0 < n) : Bd n 1 := by
  have : (2 : Nat) ^ 1 ≤ 2 ^ n := Nat.pow_le_pow_right (by decide) h
  unfold Bd
  omega
theorem Bd.of_bits {n : Nat} {i : Int} (h : Builtin.Int.intBits i ≤ n) : Bd n i := by
  unfold Bd
  unfold Builtin.Int.intBits at h
  by_cases z : i = 0
  · subst z; exact Nat.pow_pos (by decide)
  · have e : (i == 0) = false := beq_eq_false_iff_ne.mpr z
    rw [e] at h
    simp only [Bool.false_eq_true, if_false] at h
    have : i.natAbs < 2 ^ (i.natAbs.log2 + 1) := Nat.lt_log2_self
    exact Nat.lt_of_lt_of_le this (Nat.pow_le_pow_right (by decide) h)

def fr (q : Rat) : D := .tup [.int q.num, .int q.den]
theorem fr_inj {p q : Rat} (h : fr p = fr q) : p = q := by
  unfold fr at h
  simp only [D.tup.injEq, List.cons.injEq, D.int.injEq, and_true] at h
  exact Rat.ext h.1 (by omega)
def Sz (n : Nat) (q : Rat) : Prop := Bd n q.num ∧ Bd n (q.den : Int)
theorem Sz.mono {n m : Nat} {q : Rat} (h : Sz n q) (k : n ≤ m) : Sz m q := ⟨h.1.mono k, h.2.mono k⟩
theorem Sz.divInt {n : Nat} {a b : Int} (ha : Bd n a) (hb : Bd n b) (h : b ≠ 0) : Sz n (Rat.divInt a b) := by
  constructor
  · refine Bd.of_le ?_ ha
    rw [Rat.num_divInt, Int.natAbs_ediv_of_dvd]
    · have : (b.sign * a).natAbs ≤ a.natAbs := by
        rw [Int.natAbs_mul, Int.natAbs_sign_of_ne_zero h, Nat.one_mul]
        exact Nat.le_refl _
      exact Nat.le_trans (Nat.div_le_self _ _) this
    · exact Int.dvd_trans (Int.gcd_dvd_right ..) (Int.dvd_mul_left _ _)
  · refine Bd.of_le ?_ hb
    rw [Rat.den_divInt, if_neg h]
    exact Nat.div_le_self _ _
theorem divInt_mul_den (p q : Rat) : p * q = Rat.divInt (p.num * q.num) (p.den * q.den) := by
  rw [Rat.mul_def', ← Rat.divInt_ofNat, Int.natCast_mul]
theorem divInt_add_den (p q : Rat) : p + q = Rat.divInt (p.num * q.den + q.num * p.den) (p.den * q.den) := by
  rw [Rat.add_def', ← Rat.divInt_ofNat, Int.natCast_mul]
theorem divInt_sub_den (p q : Rat) : p - q = Rat.divInt (p.num * q.den - q.num * p.den) (p.den * q.den) := by
  rw [Rat.sub_def', ← Rat.divInt_ofNat, Int.natCast_mul]
theorem divInt_div_den (p q : Rat) : p / q = Rat.divInt (p.num * q.den) (p.den * q.num) := by
  rw [Rat.div_def, Rat.inv_def]
  conv => lhs; lhs; rw [← Rat.num_divInt_den p]
  rw [Rat.divInt_mul_divInt]
theorem den_ne (q : Rat) : (q.den : Int) ≠ 0 := by have := q.den_nz; omega
theorem den_pos (q : Rat) : 0 < (q.den : Int) := by have := q.den_nz; omega
theorem dens_ne (p q : Rat) : ((p.den : Int) * q.den) ≠ 0 := Int.mul_ne_zero (den_ne p) (den_ne q)
theorem Sz.mul {n m : Nat} {p q : Rat} (hp : Sz n p) (hq : Sz m q) : Sz (n + m) (p * q) := by
  rw [divInt_mul_den]
  exact Sz.divInt (hp.1.mul hq.1) (hp.2.mul hq.2) (dens_ne p q)
theorem Sz.add {n m : Nat} {p q : Rat} (hp : Sz n p) (hq : Sz m q) : Sz (n + m + 1) (p + q) := by
  rw [divInt_add_den]
  refine Sz.divInt ?_ ((hp.2.mul hq.2).mono (by omega)) (dens_ne p q)
  exact (hp.1.mul hq.2).add ((hq.1.mul hp.2).mono (by omega))
theorem Sz.sub {n m : Nat} {p q : Rat} (hp : Sz n p) (hq : Sz m q) : Sz (n + m + 1) (p - q) := by
  rw [divInt_sub_den]
  refine Sz.divInt ?_ ((hp.2.mul hq.2).mono (by omega)) (dens_ne p q)
  exact (hp.1.mul hq.2).sub ((hq.1.mul hp.2).mono (by omega))
theorem Sz.div {n m : Nat} {p q : Rat} (hp : Sz n p) (hq : Sz m q) (h : q ≠ 0) : Sz (n + m) (p / q) := by
  rw [divInt_div_den]
  refine Sz.divInt (hp.1.mul hq.2) (hp.2.mul hq.1) (Int.mul_ne_zero (den_ne p) ?_)
  exact fun e => h (Rat.num_eq_zero.mp e)
theorem Sz.neg {n : Nat} {p : Rat} (hp : Sz n p) : Sz n (-p) := ⟨hp.1.neg, hp.2⟩
theorem Sz.int {n : Nat} {i : Int} (h : Bd n i) (hn : 0 < n) : Sz n (i : Rat) := ⟨h, Bd.one hn⟩
theorem Sz.zero {n : Nat} (hn : 0 < n) : Sz n 0 := ⟨Bd.zero, Bd.one hn⟩
theorem Sz.one {n : Nat} (hn : 0 < n) : Sz n 1 := ⟨Bd.one hn, Bd.one hn⟩
/-- dividing by the gcd, by its negative -/
theorem fdiv_exact {a g : Int} (h : g ∣ a) (g0 : g ≠ 0) : a.fdiv g = a / g ∧ a.fdiv (-g) = -(a / g) ∧ (-a).fdiv g = -(a / g) := by
  obtain ⟨k, rfl⟩ := h
  refine ⟨?_, ?_, ?_⟩
  · rw [Int.mul_fdiv_cancel_left _ g0, Int.mul_ediv_cancel_left _ g0]
  · rw [Int.mul_ediv_cancel_left _ g0]
    have : g * k = -g * -k := by rw [Int.neg_mul_neg]
    rw [this, Int.mul_fdiv_cancel_left _ (by omega)]
  · rw [Int.mul_ediv_cancel_left _ g0]
    have : -(g * k) = g * -k := by rw [Int.mul_neg]
    rw [this, Int.mul_fdiv_cancel_left _ g0]
theorem gcd_ne {a b : Int} (h : b ≠ 0) : ((Nat.gcd a.natAbs b.natAbs : Nat) : Int) ≠ 0 := by
  have : 0 < Nat.gcd a.natAbs b.natAbs := Nat.gcd_pos_of_pos_right _ (by omega)
  omega
theorem gcd_dvdL {a b : Int} : ((Nat.gcd a.natAbs b.natAbs : Nat) : Int) ∣ a := Int.ofNat_dvd_left.mpr (Nat.gcd_dvd_left _ _)
theorem gcd_dvdR {a b : Int} : ((Nat.gcd a.natAbs b.natAbs : Nat) : Int) ∣ b := Int.ofNat_dvd_left.mpr (Nat.gcd_dvd_right _ _)
theorem fr_divInt_pos {a b : Int} (h : 0 < b) : fr (Rat.divInt a b) = .tup [.int (a.fdiv (Nat.gcd a.natAbs b.natAbs : Nat)), .int (b.fdiv (Nat.gcd a.natAbs b.natAbs : Nat))] := by
  have hb : b ≠ 0 := by omega
  have e : Int.gcd b a = Nat.gcd a.natAbs b.natAbs := by unfold Int.gcd; exact Nat.gcd_comm _ _
  unfold fr
  rw [Rat.num_divInt, Rat.den_divInt, if_neg hb, Int.sign_eq_one_of_pos h, Int.one_mul, e, (fdiv_exact gcd_dvdL (gcd_ne hb)).1, (fdiv_exact gcd_dvdR (gcd_ne hb)).1]
  congr 3
  congr 1
  rw [Int.natCast_ediv]
  congr 1
  omega
theorem fr_divInt_neg {a b : Int} (h : b < 0) : fr (Rat.divInt a b) = .tup [.int (a.fdiv (-(Nat.gcd a.natAbs b.natAbs : Nat))), .int (b.fdiv (-(Nat.gcd a.natAbs b.natAbs : Nat)))] ∧
    fr (Rat.divInt a b) = .tup [.int ((-a).fdiv (Nat.gcd a.natAbs b.natAbs : Nat)), .int ((-b).fdiv (Nat.gcd a.natAbs b.natAbs : Nat))] := by
  have hb : b ≠ 0 := by omega
  have e : Int.gcd b a = Nat.gcd a.natAbs b.natAbs := by unfold Int.gcd; exact Nat.gcd_comm _ _
  obtain ⟨_, a2, a3⟩ := fdiv_exact (gcd_dvdL (a := a) (b := b)) (gcd_ne hb)
  obtain ⟨_, b2, b3⟩ := fdiv_exact (gcd_dvdR (a := a) (b := b)) (gcd_ne hb)
  rw [a2, a3, b2, b3]
  have key : fr (Rat.divInt a b) = .tup [.int (-(a / (Nat.gcd a.natAbs b.natAbs : Nat))), .int (-(b / (Nat.gcd a.natAbs b.natAbs : Nat)))] := by
    unfold fr
    rw [Rat.num_divInt, Rat.den_divInt, if_neg hb, Int.sign_eq_neg_one_of_neg h, e]
    have h1 : -1 * a / ((Nat.gcd a.natAbs b.natAbs : Nat) : Int) = -(a / (Nat.gcd a.natAbs b.natAbs : Nat)) := by
      rw [Int.neg_one_mul]
      exact Int.neg_ediv_of_dvd gcd_dvdL
    have h2 : ((b.natAbs / Nat.gcd a.natAbs b.natAbs : Nat) : Int) = -(b / (Nat.gcd a.natAbs b.natAbs : Nat)) := by
      rw [Int.natCast_ediv, ← Int.neg_ediv_of_dvd gcd_dvdR]
      congr 1
      omega
    rw [h1, h2]
  exact ⟨key, key⟩
end Pd

set_option maxHeartbeats 4000000
namespace Pd
open PySem PySem.Spec L2
mutual
def isPu : D → Bool
  | .int _ => true
  | .non => true
  | .str x => PyData.strOk x
  | .tup ds => isPuL ds
  | .bl _ => false
  | .ref _ => false
def isPuL : List D → Bool
  | [] => true
  | d :: ds => isPu d && isPuL ds
end
mutual
def pl : D → PyData
  | .int i => .int i
  | .non => .none
  | .str x => .str x
  | .tup ds => .tuple (plL ds)
  | .bl b => .bool b
  | .ref _ => .none
def plL : List D → List PyData
  | [] => []
  | d :: ds => pl d :: plL ds
end
mutual
def dep : D → Nat
  | .tup ds => depL ds + 1
  | .int _ => 0
  | .non => 0
  | .str _ => 0
  | .bl _ => 0
  | .ref _ => 0
def depL : List D → Nat
  | [] => 0
  | d :: ds => max (dep d) (depL ds)
end
mutual
theorem pl_py (M : Mp) : ∀ d : D, isPu d = true → Py M d (pl d) ∧ (pl d).canLay0 = true ∧ (pl d).depth = dep d
  | .int i, _ => by unfold pl dep; exact ⟨.int i, by unfold PyData.canLay0; rfl, by unfold PyData.depth; rfl⟩
  | .non, _ => by unfold pl dep; exact ⟨.non, by unfold PyData.canLay0; rfl, by unfold PyData.depth; rfl⟩
  | .str x, h => by
    unfold isPu at h
    unfold pl dep; exact ⟨.str x, by unfold PyData.canLay0; exact h, by unfold PyData.depth; rfl⟩
  | .tup ds, h => by
    unfold isPu at h
    obtain ⟨a, b, c⟩ := plL_py M ds h
    unfold pl dep; exact ⟨.tup a, by unfold PyData.canLay0; exact b, by unfold PyData.depth; rw [c]⟩
  | .bl _, h => by unfold isPu at h; cases h
  | .ref _, h => by unfold isPu at h; cases h
theorem plL_py (M : Mp) : ∀ ds : List D, isPuL ds = true → PyL M ds (plL ds) ∧ PyData.canLayAll0 (plL ds) = true ∧ PyData.depthAll (plL ds) = depL ds
  | [], _ => by unfold plL depL; exact ⟨.nil, by unfold PyData.canLayAll0; rfl, by unfold PyData.depthAll; rfl⟩
  | d :: ds, h => by
    unfold isPuL at h
    rw [Bool.and_eq_true] at h
    obtain ⟨a, b, c⟩ := pl_py M d h.1
    obtain ⟨a', b', c'⟩ := plL_py M ds h.2
    unfold plL depL
    exact ⟨.cons a a', by unfold PyData.canLayAll0; rw [b, b']; rfl, by unfold PyData.depthAll; rw [c, c']⟩
end
mutual
theorem pl_eqv : ∀ x y : D, isPu x = true → isPu y = true → (PyData.eqv (pl x) (pl y) = true ↔ x = y)
  | .int i, y, hx, hy => by
    cases y with
    | int j => simp [pl, PyData.eqv]
    | bl _ => unfold isPu at hy; cases hy
    | ref _ => unfold isPu at hy; cases hy
    | _ => simp [pl, PyData.eqv]
  | .non, y, hx, hy => by
    cases y with
    | bl _ => unfold isPu at hy; cases hy
    | ref _ => unfold isPu at hy; cases hy
    | _ => simp [pl, PyData.eqv]
  | .str x, y, hx, hy => by
    cases y with
    | bl _ => unfold isPu at hy; cases hy
    | ref _ => unfold isPu at hy; cases hy
    | _ => simp [pl, PyData.eqv]
  | .tup ds, y, hx, hy => by
    cases y with
    | tup es =>
      unfold isPu at hx hy
      have := plL_eqv ds es hx hy
      simp only [pl, PyData.eqv, D.tup.injEq]
      exact this
    | bl _ => unfold isPu at hy; cases hy
    | ref _ => unfold isPu at hy; cases hy
    | _ => simp [pl, PyData.eqv]
  | .bl _, _, h, _ => by unfold isPu at h; cases h
  | .ref _, _, h, _ => by unfold isPu at h; cases h
theorem plL_eqv : ∀ xs ys : List D, isPuL xs = true → isPuL ys = true → (PyData.eqvAll (plL xs) (plL ys) = true ↔ xs = ys)
  | [], [], _, _ => by simp [plL, PyData.eqvAll]
  | [], _ :: _, _, _ => by simp [plL, PyData.eqvAll]
  | _ :: _, [], _, _ => by simp [plL, PyData.eqvAll]
  | x :: xs, y :: ys, hx, hy => by
    unfold isPuL at hx hy
    rw [Bool.and_eq_true] at hx hy
    have a := pl_eqv x y hx.1 hy.1
    have b := plL_eqv xs ys hx.2 hy.2
    simp only [plL, PyData.eqvAll, Bool.and_eq_true, List.cons.injEq]
    rw [a, b]
end
theorem pu_shaped {d : D} (h : isPu d = true) (hd : dep d ≤ 64) : SeqAt.shaped (pl d) = true := by
  obtain ⟨_, b, c⟩ := pl_py (fun _ => none) d h
  unfold SeqAt.shaped
  rw [b, c, decide_eq_true hd]; rfl
section
variable {x y : D} {M : Mp} {Q : DK}
theorem c_eqP (hx : isPu x = true ∧ dep x ≤ 64) (hy : isPu y = true ∧ dep y ≤ 64) (k : ∀ b : Bool, (b = true ↔ x = y) → Q (.bl b) M) : cmpD .Eq x y M Q := by
  have gen : (∃ p q, Py M x p ∧ Py M y q ∧ SeqAt.shaped p = true ∧ SeqAt.shaped q = true ∧ Q (.bl (PyData.eqv p q)) M) :=
    ⟨pl x, pl y, (pl_py M x hx.1).1, (pl_py M y hy.1).1, pu_shaped hx.1 hx.2, pu_shaped hy.1 hy.2, k _ (pl_eqv x y hx.1 hy.1)⟩
  cases x <;> cases y <;> first
    | exact gen
    | exact k _ (by simp)
theorem c_neP (hx : isPu x = true ∧ dep x ≤ 64) (hy : isPu y = true ∧ dep y ≤ 64) (k : ∀ b : Bool, (b = true ↔ x ≠ y) → Q (.bl b) M) : cmpD .NotEq x y M Q := by
  have e : ((!PyData.eqv (pl x) (pl y)) = true ↔ x ≠ y) := by
    have := pl_eqv x y hx.1 hy.1
    cases h : PyData.eqv (pl x) (pl y) with
    | true => rw [h] at this; simp [this.mp rfl]
    | false =>
      rw [h] at this
      simp only [Bool.not_false, true_iff]
      intro q
      exact absurd (this.mpr q) (by decide)
  have gen : (∃ p q, Py M x p ∧ Py M y q ∧ SeqAt.shaped p = true ∧ SeqAt.shaped q = true ∧ Q (.bl (!PyData.eqv p q)) M) :=
    ⟨pl x, pl y, (pl_py M x hx.1).1, (pl_py M y hy.1).1, pu_shaped hx.1 hx.2, pu_shaped hy.1 hy.2, k _ e⟩
  cases x <;> cases y <;> first
    | exact gen
    | exact k _ (by simp)
end
theorem pu_fr (q : Rat) : isPu (fr q) = true ∧ dep (fr q) ≤ 64 := by
  unfold fr
  simp [isPu, isPuL, dep, depL]
theorem pu_frs (qs : List Rat) : isPu (.tup (qs.map fr)) = true ∧ dep (.tup (qs.map fr)) ≤ 64 := by
  have key : isPuL (qs.map fr) = true ∧ depL (qs.map fr) ≤ 1 := by
    induction qs with
    | nil => simp [isPuL, depL]
    | cons q qs ih =>
      have : isPu (fr q) = true ∧ dep (fr q) = 1 := by unfold fr; simp [isPu, isPuL, dep, depL]
      simp [isPuL, depL, this.1, this.2, ih.1, ih.2]
  constructor
  · unfold isPu; exact key.1
  · unfold dep; omega
end Pd

set_option maxHeartbeats 4000000
namespace Pd
open PySem PySem.Spec L2
def iL (ns : List Int) : List D := ns.map D.int
def fL (qs : List Rat) : List D := qs.map fr
section
variable {G : Str → DSp} {σ σ' : DSt} {M M1 : Mp} {Q : DK} {E : DE} {i : Nat} {d x y : D} {a b c e es : Px} {p q : Ps} {m n : Int} {ds : List D} {Nn Bk Ct : DSt → Mp → Prop} {Rt : DK}
theorem e_var (h : σ[i]? = some (some d)) (k : Q d M) : wE G (.var i) σ M Q := by unfold wE; exact ⟨d, h, k⟩
theorem e_int (k : Q (.int m) M) : wE G (.int m) σ M Q := by unfold wE; exact k
theorem e_str {z : Str} (k : Q (.str z) M) : wE G (.str z) σ M Q := by unfold wE; exact k
theorem e_bl {z : Bool} (k : Q (.bl z) M) : wE G (.bl z) σ M Q := by unfold wE; exact k
theorem e_non (k : Q .non M) : wE G .non σ M Q := by unfold wE; exact k
theorem e_bin {op : Operator} (k : wE G a σ M fun x M1 => wE G b σ M1 fun y M2 => binD op x y M2 Q) : wE G (.bin op a b) σ M Q := by unfold wE; exact k
theorem e_neg (k : wE G a σ M fun x M1 => ∃ i, x = .int i ∧ Q (.int (-i)) M1) : wE G (.neg a) σ M Q := by unfold wE; exact k
theorem e_cmp {op : CmpOp} (k : wE G a σ M fun x M1 => wE G b σ M1 fun y M2 => cmpD op x y M2 Q) : wE G (.cmp op a b) σ M Q := by unfold wE; exact k
theorem e_chain {op op' : CmpOp} (k : wE G a σ M fun x M1 => wE G b σ M1 fun y M2 => cmpD op x y M2 fun t M3 => (t = .bl true ∧ wE G c σ M3 fun z M4 => cmpD op' y z M4 fun t' M5 => ∃ k, t' = .bl k ∧ Q (.bl k) M5) ∨ (t = .bl false ∧ Q (.bl false) M3)) : wE G (.chain op op' a b c) σ M Q := by unfold wE; exact k
theorem e_and (k : wE G a σ M fun x M1 => (x = .bl true ∧ wE G b σ M1 fun y M2 => ∃ k, y = .bl k ∧ Q (.bl k) M2) ∨ (x = .bl false ∧ Q (.bl false) M1)) : wE G (.and a b) σ M Q := by unfold wE; exact k
theorem e_or (k : wE G a σ M fun x M1 => (x = .bl true ∧ Q (.bl true) M1) ∨ (x = .bl false ∧ wE G b σ M1 fun y M2 => ∃ k, y = .bl k ∧ Q (.bl k) M2)) : wE G (.or a b) σ M Q := by unfold wE; exact k
theorem e_not (k : wE G a σ M fun x M1 => ∃ k, x = .bl k ∧ Q (.bl (!k)) M1) : wE G (.not a) σ M Q := by unfold wE; exact k
theorem e_truth (k : wE G a σ M fun x M1 => truD x M1 fun k M2 => Q (.bl k) M2) : wE G (.truth a) σ M Q := by unfold wE; exact k
theorem e_ife (k : wE G c σ M fun x M1 => (x = .bl true ∧ wE G a σ M1 Q) ∨ (x = .bl false ∧ wE G b σ M1 Q)) : wE G (.ife c a b) σ M Q := by unfold wE; exact k
theorem e_nil (k : Q (.tup []) M) : wE G .nil σ M Q := by unfold wE; exact k
theorem e_cons (k : wE G e σ M fun x M1 => wE G es σ M1 fun y M2 => ∃ ds, y = .tup ds ∧ Q (.tup (x :: ds)) M2) : wE G (.cons e es) σ M Q := by unfold wE; exact k
theorem e_tup (k : wE G es σ M fun y M1 => ∃ ds, y = .tup ds ∧ ds.length ≤ sizeLine ∧ Q (.tup ds) M1) : wE G (.tup es) σ M Q := by unfold wE; exact k
theorem e_lst (k : wE G es σ M fun y M1 => ∃ ds, y = .tup ds ∧ ds.length ≤ sizeLine ∧ ∀ p, M1 p = none → Q (.ref p) (put M1 p (.lst ds))) : wE G (.lst es) σ M Q := by unfold wE; exact k
theorem e_idx (k : wE G a σ M fun x M1 => wE G b σ M1 fun y M2 => idxD x y M2 Q) : wE G (.idx a b) σ M Q := by unfold wE; exact k
theorem e_cut {lo hi : Px} (k : wE G a σ M fun x M1 => wE G lo σ M1 fun l M2 => ∃ l', partD l = some l' ∧ wE G hi σ M2 fun h M3 => ∃ h', partD h = some h' ∧ cutD x l' h' M3 Q) : wE G (.cut a lo hi) σ M Q := by unfold wE; exact k
theorem e_absent (k : Q .non M) : wE G .absent σ M Q := by unfold wE; exact k
theorem e_asInt (k : wE G a σ M fun x M1 => ∃ i, x = .int i ∧ Q (.int i) M1) : wE G (.asInt a) σ M Q := by unfold wE; exact k
theorem e_bi {f : Bi} (k : wE G es σ M fun y M1 => ∃ ds, y = .tup ds ∧ biD f ds M1 Q) : wE G (.bi f es) σ M Q := by unfold wE; exact k
theorem e_call {f : Str} (k : wE G es σ M fun y M1 => ∃ ds, y = .tup ds ∧ G f ds M1 Q) : wE G (.call f es) σ M Q := by
  unfold wE
  exact wE_mono (fun d M1 ⟨ds, e, h⟩ => ⟨ds, e, Q, h, fun _ _ h => h⟩) k
theorem e_callK {f : Str} {is : List Nat} {ks : Px} (k : wE G es σ M fun y M1 => ∃ as, y = .tup as ∧ wE G ks σ M1 fun z M2 => ∃ bs, z = .tup bs ∧ G f (pick is (as ++ bs)) M2 Q) : wE G (.callK f is es ks) σ M Q := by
  unfold wE
  exact wE_mono (fun d M1 ⟨ds, e, h⟩ => ⟨ds, e, wE_mono (fun d M2 ⟨bs, e2, h⟩ => ⟨bs, e2, Q, h, fun _ _ h => h⟩) h⟩) k
theorem e_isi {t : Ty} (k : wE G a σ M fun x M1 => isiD x t M1 Q) : wE G (.isi a t) σ M Q := by unfold wE; exact k
theorem e_mt {m : Mt} {o : Px} (k : wE G o σ M fun x M1 => recvOk m x M1 ∧ wE G es σ M1 fun y M2 => ∃ ds, y = .tup ds ∧ mtD m x ds M2 Q) : wE G (.mt m o es) σ M Q := by unfold wE; exact k
theorem e_comp {own tg : List Nat} {one : Bool} {it c elt : Px} (k : wI G it σ M fun nx M1 => ∃ k, compN (wE G elt) (wE G c) tg one nx (wipeD σ own) (fun acc M2 => ∀ p, M2 p = none → Q (.ref p) (put M2 p (.lst acc))) k 0 [] M1) : wE G (.comp own tg one it c elt) σ M Q := by unfold wE; exact k
theorem e_tcomp {own tg : List Nat} {one : Bool} {it c elt : Px} (k : wI G it σ M fun nx M1 => ∃ k, compN (wE G elt) (wE G c) tg one nx (wipeD σ own) (fun acc M2 => Q (.tup acc) M2) k 0 [] M1) : wE G (.tcomp own tg one it c elt) σ M Q := by unfold wE; exact k
theorem x_tup {P : List D → Prop} (k : P ds) : ∃ es, D.tup ds = .tup es ∧ P es := ⟨ds, rfl, k⟩
theorem x_int {P : Int → Prop} (k : P m) : ∃ i, D.int m = .int i ∧ P i := ⟨m, rfl, k⟩
theorem x_bl {P : Bool → Prop} {z : Bool} (k : P z) : ∃ i, D.bl z = .bl i ∧ P i := ⟨z, rfl, k⟩
theorem x_pI {P : Option Int → Prop} (k : P (some m)) : ∃ l, partD (.int m) = some l ∧ P l := ⟨_, rfl, k⟩
theorem x_pN {P : Option Int → Prop} (k : P none) : ∃ l, partD .non = some l ∧ P l := ⟨_, rfl, k⟩
theorem x_ifT {A B : Prop} (k : A) : (D.bl true = .bl true ∧ A) ∨ (D.bl true = .bl false ∧ B) := .inl ⟨rfl, k⟩
theorem x_ifF {A B : Prop} (k : B) : (D.bl false = .bl true ∧ A) ∨ (D.bl false = .bl false ∧ B) := .inr ⟨rfl, k⟩
theorem x_if {A B : Prop} {z : Bool} (k : z = true → A) (k' : z = false → B) : (D.bl z = .bl true ∧ A) ∨ (D.bl z = .bl false ∧ B) := by
  cases z with
  | true => exact .inl ⟨rfl, k rfl⟩
  | false => exact .inr ⟨rfl, k' rfl⟩
theorem x_ifd {A B P : Prop} [Decidable P] (k : P → A) (k' : ¬ P → B) : (D.bl (decide P) = .bl true ∧ A) ∨ (D.bl (decide P) = .bl false ∧ B) := by
  by_cases h : P
  · rw [decide_eq_true h]; exact .inl ⟨rfl, k h⟩
  · rw [decide_eq_false h]; exact .inr ⟨rfl, k' h⟩
theorem x_ifn {A B P : Prop} [Decidable P] (k : ¬ P → A) (k' : P → B) : (D.bl (!decide P) = .bl true ∧ A) ∨ (D.bl (!decide P) = .bl false ∧ B) := by
  by_cases h : P
  · rw [decide_eq_true h]; exact .inr ⟨rfl, k' h⟩
  · rw [decide_eq_false h]; exact .inl ⟨rfl, k h⟩
theorem x_ifNT {A B : Prop} (k : A) : (D.bl (!false) = .bl true ∧ A) ∨ (D.bl (!false) = .bl false ∧ B) := .inl ⟨rfl, k⟩
theorem x_ifNF {A B : Prop} (k : B) : (D.bl (!true) = .bl true ∧ A) ∨ (D.bl (!true) = .bl false ∧ B) := .inr ⟨rfl, k⟩
theorem x_new {P : Addr → Prop} (k : ∀ p, M p = none → P p) : ∀ p, M p = none → P p := k
theorem put_old {u v : Addr} {o o' : MO} (h : M u = some o) (n : M v = none) : put M v o' u = some o := by
  have : u ≠ v := fun e => by subst e; rw [n] at h; cases h
  rw [put_ne this]; exact h
theorem x_len {P : Prop} (h : ds.length ≤ sizeLine) (k : P) : ds.length ≤ sizeLine ∧ P := ⟨h, k⟩
theorem b_add (k : Q (.int (m + n)) M) : binD .Add (.int m) (.int n) M Q := k
theorem b_sub (k : Q (.int (m - n)) M) : binD .Sub (.int m) (.int n) M Q := k
theorem b_mul (h : IntMulOk m n) (k : Q (.int (m * n)) M) : binD .Mult (.int m) (.int n) M Q := ⟨h, k⟩
theorem b_div (h : n ≠ 0) (k : Q (.int (m.fdiv n)) M) : binD .FloorDiv (.int m) (.int n) M Q := ⟨h, k⟩
theorem b_mod (h : n ≠ 0) (k : Q (.int (m.fmod n)) M) : binD .Mod (.int m) (.int n) M Q := ⟨h, k⟩
theorem b_pow (h : 0 ≤ n ∧ n ≤ 1000000 ∧ m.natAbs < 2 ^ 64) (k : Q (.int (m ^ n.toNat)) M) : binD .Pow (.int m) (.int n) M Q := ⟨h, k⟩
theorem b_tup {ds es : List D} (h : ds.length + es.length ≤ sizeLine) (k : Q (.tup (ds ++ es)) M) : binD .Add (.tup ds) (.tup es) M Q := ⟨h, k⟩
theorem b_lst {u v : Addr} {ds es : List D} (h1 : M u = some (.lst ds)) (h2 : M v = some (.lst es)) (h : ds.length + es.length ≤ sizeLine) (k : ∀ r, M r = none → Q (.ref r) (put M r (.lst (ds ++ es)))) : binD .Add (.ref u) (.ref v) M Q := ⟨ds, es, h1, h2, h, k⟩
theorem b_rep {u : Addr} {ds : List D} (h1 : M u = some (.lst ds)) (h2 : -(2 ^ 63) ≤ n ∧ n < 2 ^ 63 ∧ ds.length * n.toNat ≤ sizeLine) (k : ∀ r, M r = none → Q (.ref r) (put M r (.lst (List.replicate n.toNat ds).flatten))) : binD .Mult (.ref u) (.int n) M Q := ⟨ds, h1, h2.1, h2.2.1, h2.2.2, k⟩
theorem c_eq (k : Q (.bl (decide (m = n))) M) : cmpD .Eq (.int m) (.int n) M Q := k
theorem c_ne (k : Q (.bl (!decide (m = n))) M) : cmpD .NotEq (.int m) (.int n) M Q := k
theorem c_lt (k : Q (.bl (decide (m < n))) M) : cmpD .Lt (.int m) (.int n) M Q := k
theorem c_le (k : Q (.bl (decide (m ≤ n))) M) : cmpD .LtE (.int m) (.int n) M Q := k
theorem c_gt (k : Q (.bl (decide (n < m))) M) : cmpD .Gt (.int m) (.int n) M Q := k
theorem c_ge (k : Q (.bl (decide (n ≤ m))) M) : cmpD .GtE (.int m) (.int n) M Q := k
theorem t_bl {z : Bool} {R : Bool → Mp → Prop} (k : R z M) : truD (.bl z) M R := k
theorem t_int {R : Bool → Mp → Prop} (k : R (m != 0) M) : truD (.int m) M R := k
theorem t_tup {R : Bool → Mp → Prop} (k : R (!ds.isEmpty) M) : truD (.tup ds) M R := k
theorem t_non {R : Bool → Mp → Prop} (k : R false M) : truD .non M R := k
theorem i_tup (h : atI ds n = some d) (k : Q d M) : idxD (.tup ds) (.int n) M Q := ⟨d, h, k⟩
theorem i_ref {u : Addr} (l : listAt M u ds) (h : atI ds n = some d) (k : Q d M) : idxD (.ref u) (.int n) M Q := ⟨ds, d, l, h, k⟩
theorem i_fr0 {q : Rat} (k : Q (.int q.num) M) : idxD (fr q) (.int 0) M Q := ⟨_, rfl, k⟩
theorem i_fr1 {q : Rat} (k : Q (.int q.den) M) : idxD (fr q) (.int 1) M Q := ⟨_, rfl, k⟩
theorem f_lenT (k : Q (.int ds.length) M) : biD .len [.tup ds] M Q := k
theorem f_lenL {u : Addr} (l : listAt M u ds) (k : Q (.int ds.length) M) : biD .len [.ref u] M Q := ⟨ds, l, k⟩
theorem f_abs (k : Q (.int (if m < 0 then -m else m)) M) : biD .abs [.int m] M Q := k
theorem f_int (k : Q (.int m) M) : biD .int [.int m] M Q := k
theorem f_gcd (k : Q (.int ((Nat.gcd m.natAbs n.natAbs : Nat) : Int)) M) : biD .gcd [.int m, .int n] M Q := k
theorem f_max (k : Q (.int (if n > m then n else m)) M) : biD .max2 [.int m, .int n] M Q := k
theorem f_min (k : Q (.int (if n < m then n else m)) M) : biD .min2 [.int m, .int n] M Q := k
theorem f_tupT (k : Q (.tup ds) M) : biD .tuple [.tup ds] M Q := k
theorem f_tupL {u : Addr} (l : listAt M u ds) (k : Q (.tup ds) M) : biD .tuple [.ref u] M Q := ⟨ds, l, k⟩
theorem f_lstT (k : ∀ r, M r = none → Q (.ref r) (put M r (.lst ds))) : biD .list [.tup ds] M Q := k
theorem f_lstL {u : Addr} (l : listAt M u ds) (k : ∀ r, M r = none → Q (.ref r) (put M r (.lst ds))) : biD .list [.ref u] M Q := ⟨ds, l, k⟩
theorem f_comb (h : 0 ≤ m ∧ 0 ≤ n ∧ m < 2 ^ 64 ∧ n ≤ 9000) (k : Q (.int (PySem.W.mcComb m n)) M) : biD .comb [.int m, .int n] M Q := ⟨h, k⟩
theorem m_app {u : Addr} {P : Prop} (h : M u = some (.lst ds)) (k : P) : recvOk .append (.ref u) M ∧ P := ⟨⟨ds, h⟩, k⟩
theorem m_app2 {u : Addr} (h : M u = some (.lst ds)) (h2 : ds.length < sizeLine) (k : Q .non (put M u (.lst (ds ++ [d])))) : mtD .append (.ref u) [d] M Q := ⟨ds, h, h2, k⟩
theorem c_eqfr {p q : Rat} (k : ∀ b : Bool, (b = true ↔ p = q) → Q (.bl b) M) : cmpD .Eq (fr p) (fr q) M Q := c_eqP (pu_fr p) (pu_fr q) fun b h => k b (h.trans ⟨fr_inj, fun e => by rw [e]⟩)
theorem c_nefr {p q : Rat} (k : ∀ b : Bool, (b = true ↔ p ≠ q) → Q (.bl b) M) : cmpD .NotEq (fr p) (fr q) M Q := c_neP (pu_fr p) (pu_fr q) fun b h => k b (h.trans (not_congr ⟨fr_inj, fun e => by rw [e]⟩))
theorem c_eqfrs {p q : List Rat} (k : ∀ b : Bool, (b = true ↔ p = q) → Q (.bl b) M) : cmpD .Eq (.tup (fL p)) (.tup (fL q)) M Q := c_eqP (pu_frs p) (pu_frs q) fun b h => k b (h.trans ⟨fun e => (List.map_inj_right (fun _ _ => fr_inj)).mp (D.tup.inj e), fun e => by rw [e]⟩)
theorem c_nefrs {p q : List Rat} (k : ∀ b : Bool, (b = true ↔ p ≠ q) → Q (.bl b) M) : cmpD .NotEq (.tup (fL p)) (.tup (fL q)) M Q := c_neP (pu_frs p) (pu_frs q) fun b h => k b (h.trans (not_congr ⟨fun e => (List.map_inj_right (fun _ _ => fr_inj)).mp (D.tup.inj e), fun e => by rw [e]⟩))
theorem z_isiI (k : Q (.bl true) M) : isiD (.int m) .int M Q := k
theorem z_isiB (k : Q (.bl false) M) : isiD (.int m) .bool M Q := k
theorem z_isiF {q : Rat} (k : Q (.bl true) M) : isiD (fr q) .tuple M Q := k
theorem z_isiT (k : Q (.bl true) M) : isiD (.tup ds) .tuple M Q := k
theorem z_lenF {q : Rat} (k : Q (.int 2) M) : biD .len [fr q] M Q := k
theorem s_skip (k : Nn σ M) : wS G .skip  ⟨Nn, Rt, Bk, Ct⟩ σ M := by unfold wS; exact k
theorem s_seq (k : wS G p ⟨wS G q ⟨Nn, Rt, Bk, Ct⟩, Rt, Bk, Ct⟩ σ M) : wS G (.seq p q)  ⟨Nn, Rt, Bk, Ct⟩ σ M := by unfold wS; exact k
theorem s_asg (k : wE G e σ M fun d M1 => Nn (σ.set i (some d)) M1) : wS G (.asg [i] true e)  ⟨Nn, Rt, Bk, Ct⟩ σ M := by
  unfold wS
  exact wE_mono (fun d M1 h => ⟨_, rfl, h⟩) k
theorem s_asgT {tg : List Nat} (k : wE G e σ M fun d M1 => ∃ σ', bindT tg false d σ = some σ' ∧ Nn σ' M1) : wS G (.asg tg false e)  ⟨Nn, Rt, Bk, Ct⟩ σ M := by unfold wS; exact k
theorem s_par {is : List Nat} (k : wE G es σ M fun y M1 => ∃ ds σ', y = .tup ds ∧ setAll is ds σ = some σ' ∧ Nn σ' M1) : wS G (.par is es)  ⟨Nn, Rt, Bk, Ct⟩ σ M := by unfold wS; exact k
theorem s_expr (k : wE G e σ M fun _ M1 => Nn σ M1) : wS G (.expr e)  ⟨Nn, Rt, Bk, Ct⟩ σ M := by unfold wS; exact k
theorem s_ret (k : wE G e σ M Rt) : wS G (.ret e)  ⟨Nn, Rt, Bk, Ct⟩ σ M := by unfold wS; exact k
theorem s_ife (k : wE G c σ M fun x M1 => (x = .bl true ∧ wS G p  ⟨Nn, Rt, Bk, Ct⟩ σ M1) ∨ (x = .bl false ∧ wS G q  ⟨Nn, Rt, Bk, Ct⟩ σ M1)) : wS G (.ife c p q)  ⟨Nn, Rt, Bk, Ct⟩ σ M := by unfold wS; exact k
theorem s_brk (k : Bk σ M) : wS G .brk  ⟨Nn, Rt, Bk, Ct⟩ σ M := by unfold wS; exact k
theorem s_cont (k : Ct σ M) : wS G .cont  ⟨Nn, Rt, Bk, Ct⟩ σ M := by unfold wS; exact k
theorem s_asgIx {o ix : Px} {u : Addr} {j : Nat} (k : wE G e σ M fun d M1 => wE G o σ M1 fun x M2 => wE G ix σ M2 fun y M3 => ∃ p ds k j, x = .ref p ∧ y = .int k ∧ M3 p = some (.lst ds) ∧ ixN ds.length k = some j ∧ Nn σ (put M3 p (.lst (ds.set j d)))) : wS G (.asgIx o ix e)  ⟨Nn, Rt, Bk, Ct⟩ σ M := by unfold wS; exact k
theorem x_ret {K : DK} (k : K d M) : ∃ M2, Sub M2 M ∧ K d M2 := ⟨M, Sub.refl M, k⟩
/-- an assertion between -/
theorem s_mid (P : DSt → Mp → Prop) (k : wS G p ⟨P, Rt, Bk, Ct⟩ σ M) (k' : ∀ σ M, P σ M → wS G q  ⟨Nn, Rt, Bk, Ct⟩ σ M) : wS G (.seq p q)  ⟨Nn, Rt, Bk, Ct⟩ σ M :=
  s_seq (wS_mono p (E := ⟨P, Rt, Bk, Ct⟩) (E' := ⟨wS G q ⟨Nn, Rt, Bk, Ct⟩, Rt, Bk, Ct⟩) ⟨fun σ M h => k' σ M h, fun _ _ h => h, fun _ _ h => h, fun _ _ h => h⟩ k)
theorem s_join (P : DSt → Mp → Prop) (k : wS G p ⟨P, Rt, Bk, Ct⟩ σ M) (k' : ∀ σ M, P σ M → Nn σ M) : wS G p ⟨Nn, Rt, Bk, Ct⟩ σ M :=
  wS_mono p (E := ⟨P, Rt, Bk, Ct⟩) (E' := ⟨Nn, Rt, Bk, Ct⟩) ⟨fun σ M h => k' σ M h, fun _ _ h => h, fun _ _ h => h, fun _ _ h => h⟩ k
theorem w_rng {R : Nx → Mp → Prop} (k : wE G a σ M fun x M1 => wE G b σ M1 fun y M2 => ∃ i j : Int, x = .int i ∧ y = .int j ∧ (-(2 ^ 62) ≤ i ∧ i < 2 ^ 62 ∧ -(2 ^ 62) ≤ j ∧ j < 2 ^ 62) ∧ R (nRng i j) M2) : wI G (.rng a b) σ M R := by unfold wI; exact k
theorem x_rng {P : Int → Int → Prop} (h : -(2 ^ 62) ≤ m ∧ m < 2 ^ 62 ∧ -(2 ^ 62) ≤ n ∧ n < 2 ^ 62) (k : P m n) : ∃ i j : Int, D.int m = .int i ∧ D.int n = .int j ∧ (-(2 ^ 62) ≤ i ∧ i < 2 ^ 62 ∧ -(2 ^ 62) ≤ j ∧ j < 2 ^ 62) ∧ P i j := ⟨m, n, rfl, rfl, h, k⟩
theorem w_it {R : Nx → Mp → Prop} (k : wE G a σ M fun d M1 => itOk M1 d ∧ R (nSeq d) M1) : wI G (.itE a) σ M R := by unfold wI; exact k
theorem x_itT {P : Prop} (k : P) : itOk M (.tup ds) ∧ P := ⟨trivial, k⟩
theorem x_itL {u : Addr} {P : Prop} (l : listAt M u ds) (k : P) : itOk M (.ref u) ∧ P := ⟨⟨ds, l⟩, k⟩
theorem w_enum {R : Nx → Mp → Prop} (k : wE G a σ M fun d M1 => enumOk M1 d ∧ R (nEnum d) M1) : wI G (.enum a) σ M R := by unfold wI; exact k
theorem w_zip {R : Nx → Mp → Prop} (k : wE G a σ M fun x M1 => wE G b σ M1 fun y M2 => zipOk M2 x y ∧ R (nZip x y) M2) : wI G (.zip a b) σ M R := by unfold wI; exact k
theorem w_rev {R : Nx → Mp → Prop} (k : wE G a σ M fun d M1 => ∃ ds, itemsAt M1 d = some ds ∧ R (nRev d ds.length) M1) : wI G (.rev a) σ M R := by unfold wI; exact k
theorem s_for {tg : List Nat} {one : Bool} {it : Px} (k : wI G it σ M fun nx M1 => ∃ k, forN (wS G p) tg one nx ⟨Nn, Rt, Bk, Ct⟩ k 0 σ M1) : wS G (.for tg one it p) ⟨Nn, Rt, Bk, Ct⟩ σ M := by unfold wS; exact k
theorem s_while (k : ∃ k, whileN (wE G c) (wS G p) ⟨Nn, Rt, Bk, Ct⟩ k σ M) : wS G (.while c p) ⟨Nn, Rt, Bk, Ct⟩ σ M := by unfold wS; exact k
/-- a loop over n items f i: the invariant I -/
theorem for_inv {tg : List Nat} {one : Bool} {nx : Nx} {wb : DE → DSt → Mp → Prop} (n : Nat) (f : Nat → D) (I : Nat → DSt → Mp → Prop) (h0 : I 0 σ M)
    (hn : ∀ i σ M, i < n → I i σ M → nx i M = some (some (f i))) (he : ∀ σ M, I n σ M → nx n M = some none)
    (hs : ∀ i σ M, i < n → I i σ M → ∃ σ', bindT tg one (f i) σ = some σ' ∧ wb ⟨fun σ2 M2 => ∃ M3, Sub M3 M2 ∧ I (i + 1) σ2 M3, E.rt, E.nx, fun σ2 M2 => ∃ M3, Sub M3 M2 ∧ I (i + 1) σ2 M3⟩ σ' M)
    (hm : ∀ E E' σ M, DE.Le E E' → wb E σ M → wb E' σ M) (hq : ∀ σ M, I n σ M → E.nx σ M) : ∃ k, forN wb tg one nx E k 0 σ M := by
  refine ⟨n + 1, ?_⟩
  have key : ∀ j i σ M, i + j = n → I i σ M → forN wb tg one nx E (j + 1) i σ M := by
    intro j
    induction j with
    | zero =>
      intro i σ M e z
      have e : i = n := by omega
      subst e
      unfold forN
      rw [he σ M z]
      exact hq σ M z
    | succ j ih =>
      intro i σ M e z
      unfold forN
      rw [hn i σ M (by omega) z]
      obtain ⟨σ', hb, w⟩ := hs i σ M (by omega) z
      refine ⟨σ', hb, hm _ _ _ _ ?_ w⟩
      exact ⟨fun σ2 M2 ⟨M3, sb, z⟩ => ⟨M3, sb, ih (i + 1) σ2 M3 (by omega) z⟩, fun _ _ h => h, fun _ _ h => h, fun σ2 M2 ⟨M3, sb, z⟩ => ⟨M3, sb, ih (i + 1) σ2 M3 (by omega) z⟩⟩
  exact key n 0 σ M (by omega) h0
/-- .. over a range -/
theorem for_rng {v : Nat} {lo hi : Int} (I : Nat → DSt → Mp → Prop) (h0 : I 0 σ M)
    (hs : ∀ (i : Nat) σ M, (i : Int) < hi - lo → I i σ M → wS G p ⟨fun σ2 M2 => ∃ M3, Sub M3 M2 ∧ I (i + 1) σ2 M3, Rt, Nn, fun σ2 M2 => ∃ M3, Sub M3 M2 ∧ I (i + 1) σ2 M3⟩ (σ.set v (some (.int (lo + i)))) M)
    (hq : ∀ σ M, I (hi - lo).toNat σ M → Nn σ M) : ∃ k, forN (wS G p) [v] true (nRng lo hi) ⟨Nn, Rt, Bk, Ct⟩ k 0 σ M :=
  for_inv (hi - lo).toNat (fun i => .int (lo + i)) I h0 (fun i σ M h _ => by unfold nRng; rw [if_pos h]) (fun σ M _ => by unfold nRng; rw [if_neg (Nat.lt_irrefl _)])
    (fun i σ M h z => ⟨_, rfl, hs i σ M (by omega) z⟩) (fun _ _ _ _ h k => wS_mono p h k) hq
/-- .. over a tuple's items -/
theorem for_tup {v : Nat} (ds : List D) (I : Nat → DSt → Mp → Prop) (h0 : I 0 σ M)
    (hs : ∀ (i : Nat) (h : i < ds.length) σ M, I i σ M → wS G p ⟨fun σ2 M2 => ∃ M3, Sub M3 M2 ∧ I (i + 1) σ2 M3, Rt, Nn, fun σ2 M2 => ∃ M3, Sub M3 M2 ∧ I (i + 1) σ2 M3⟩ (σ.set v (some ds[i])) M)
    (hq : ∀ σ M, I ds.length σ M → Nn σ M) : ∃ k, forN (wS G p) [v] true (nSeq (.tup ds)) ⟨Nn, Rt, Bk, Ct⟩ k 0 σ M :=
  for_inv ds.length (fun i => ds[i]?.getD .non) I h0 (fun i σ M h _ => by show some ds[i]? = _; rw [List.getElem?_eq_getElem h]; rfl) (fun σ M _ => by show some ds[ds.length]? = _; rw [List.getElem?_eq_none (Nat.le_refl _)])
    (fun i σ M h z => ⟨_, rfl, by rw [List.getElem?_eq_getElem h]; exact hs i h σ M z⟩) (fun _ _ _ _ h k => wS_mono p h k) hq
theorem itemsAt_of {u : Addr} (l : listAt M u ds) : itemsAt M (.ref u) = some ds := by
  simp only [itemsAt]
  rcases l with l | l <;> rw [l]
/-- .. over a list's items, the list unchanged through the loop -/
theorem for_lst {v : Nat} {u : Addr} (ds : List D) (I : Nat → DSt → Mp → Prop) (h0 : I 0 σ M) (hl : ∀ i σ M, I i σ M → listAt M u ds)
    (hs : ∀ (i : Nat) (h : i < ds.length) σ M, I i σ M → wS G p ⟨fun σ2 M2 => ∃ M3, Sub M3 M2 ∧ I (i + 1) σ2 M3, Rt, Nn, fun σ2 M2 => ∃ M3, Sub M3 M2 ∧ I (i + 1) σ2 M3⟩ (σ.set v (some ds[i])) M)
    (hq : ∀ σ M, I ds.length σ M → Nn σ M) : ∃ k, forN (wS G p) [v] true (nSeq (.ref u)) ⟨Nn, Rt, Bk, Ct⟩ k 0 σ M :=
  for_inv ds.length (fun i => ds[i]?.getD .non) I h0 (fun i σ M h z => by show (itemsAt M (.ref u)).map (fun ds => ds[i]?) = _; rw [itemsAt_of (hl _ _ _ z)]; show some ds[i]? = _; rw [List.getElem?_eq_getElem h]; rfl) (fun σ M z => by show (itemsAt M (.ref u)).map (fun ds => ds[_]?) = _; rw [itemsAt_of (hl _ _ _ z)]; show some ds[ds.length]? = _; rw [List.getElem?_eq_none (Nat.le_refl _)])
    (fun i σ M h z => ⟨_, rfl, by rw [List.getElem?_eq_getElem h]; exact hs i h σ M z⟩) (fun _ _ _ _ h k => wS_mono p h k) hq
/-- a comprehension whose items change nothing (to speak of): item i is f i where c i holds -/
theorem comp_pure {tg : List Nat} {one : Bool} {nx : Nx} {we wc : DSt → Mp → DK → Prop} {R : List D → Mp → Prop} (n : Nat) (f g : Nat → D) (c : Nat → Bool) (hz : n ≤ sizeLine)
    (hn : ∀ i, i < n → nx i M = some (some (f i))) (he : nx n M = some none)
    (hs : ∀ i, i < n → ∃ σ', bindT tg one (f i) σ = some σ' ∧ ∀ Q : DK, (∀ M2, Sub M M2 → Q (.bl (c i)) M2) → wc σ' M Q)
    (hx : ∀ i σ' M2, i < n → c i = true → bindT tg one (f i) σ = some σ' → Sub M M2 → ∀ Q : DK, (∀ M3, Sub M M3 → Q (g i) M3) → we σ' M2 Q)
    (hR : R ((List.range n).filterMap fun i => if c i = true then some (g i) else none) M) : ∃ k, compN we wc tg one nx σ R k 0 [] M := by
  refine ⟨n + 1, ?_⟩
  have key : ∀ j i acc, i + j = n → acc.length ≤ i → acc ++ ((List.range' i j).filterMap fun i => if c i = true then some (g i) else none) = ((List.range n).filterMap fun i => if c i = true then some (g i) else none) → compN we wc tg one nx σ R (j + 1) i acc M := by
    intro j
    induction j with
    | zero =>
      intro i acc e hl h
      have e : i = n := by omega
      subst e
      unfold compN
      rw [he]
      rw [List.range'_zero, List.filterMap_nil, List.append_nil] at h
      rw [h]; exact hR
    | succ j ih =>
      intro i acc e hl h
      unfold compN
      rw [hn i (by omega)]
      obtain ⟨σ', hb, hc⟩ := hs i (by omega)
      refine ⟨σ', hb, hc _ fun M2 sb => ?_⟩
      rw [List.range'_succ, List.filterMap_cons] at h
      by_cases q : c i = true
      · refine .inl ⟨by rw [q], hx i σ' M2 (by omega) q hb sb _ fun M3 sb3 => ⟨by omega, M, sb3, ih (i + 1) (acc ++ [g i]) (by omega) (by simp; omega) ?_⟩⟩
        rw [if_pos q] at h
        rw [List.append_assoc]; exact h
      · refine .inr ⟨by simpa using q, M, sb, ih (i + 1) acc (by omega) (by omega) ?_⟩
        rw [if_neg q] at h
        exact h
  exact key n 0 [] (by omega) (by simp) (by rw [List.nil_append, List.range_eq_range'])
/-- a while: the invariant I goes with a measure -/
theorem while_inv (I : Nat → DSt → Mp → Prop) (m : Nat) (h0 : I m σ M)
    (hs : ∀ m σ M, I m σ M → wE G c σ M fun b M1 => (b = .bl true ∧ wS G p ⟨fun σ2 M2 => ∃ M3, Sub M3 M2 ∧ ∃ m', m' < m ∧ I m' σ2 M3, Rt, Nn, fun σ2 M2 => ∃ M3, Sub M3 M2 ∧ ∃ m', m' < m ∧ I m' σ2 M3⟩ σ M1) ∨ (b = .bl false ∧ Nn σ M1)) : ∃ k, whileN (wE G c) (wS G p) ⟨Nn, Rt, Bk, Ct⟩ k σ M := by
  have key : ∀ n m σ M, m < n → I m σ M → whileN (wE G c) (wS G p) ⟨Nn, Rt, Bk, Ct⟩ n σ M := by
    intro n
    induction n with
    | zero => intro m σ M h; omega
    | succ n ih =>
      intro m σ M h z
      unfold whileN
      refine wE_mono (fun b M1 z => ?_) (hs m σ M z)
      rcases z with ⟨e, z⟩ | ⟨e, z⟩
      · refine .inl ⟨e, wS_mono p ?_ z⟩
        exact ⟨fun σ2 M2 ⟨M3, sb, m', hm, z⟩ => ⟨M3, sb, ih m' σ2 M3 (by omega) z⟩, fun _ _ h => h, fun _ _ h => h, fun σ2 M2 ⟨M3, sb, m', hm, z⟩ => ⟨M3, sb, ih m' σ2 M3 (by omega) z⟩⟩
      · exact .inr ⟨e, z⟩
  exact ⟨m + 1, key (m + 1) m σ M (Nat.lt_succ_self m) h0⟩
theorem iL_len (ns : List Int) : (iL ns).length = ns.length := List.length_map ..
theorem fL_len (qs : List Rat) : (fL qs).length = qs.length := List.length_map ..
theorem iL_snoc (ns : List Int) (n : Int) : iL ns ++ [.int n] = iL (ns ++ [n]) := by unfold iL; simp
theorem fL_snoc (ns : List Rat) (n : Rat) : fL ns ++ [fr n] = fL (ns ++ [n]) := by unfold fL; simp
theorem iL_app (ns ms : List Int) : iL ns ++ iL ms = iL (ns ++ ms) := by unfold iL; simp
theorem fL_app (ns ms : List Rat) : fL ns ++ fL ms = fL (ns ++ ms) := by unfold fL; simp
theorem iL_at (ns : List Int) {i : Nat} (h : i < (iL ns).length) : (iL ns)[i] = .int (ns.getD i 0) := by
  unfold iL at h ⊢
  rw [List.getElem_map]
  congr 1
  rw [List.getD_eq_getElem?_getD, List.getElem?_eq_getElem (by simpa using h)]; rfl
theorem fL_at (ns : List Rat) {i : Nat} (h : i < (fL ns).length) : (fL ns)[i] = fr (ns.getD i 0) := by
  unfold fL at h ⊢
  rw [List.getElem_map]
  congr 1
  rw [List.getD_eq_getElem?_getD, List.getElem?_eq_getElem (by simpa using h)]; rfl
theorem ixN_in {n : Nat} {i : Int} (h : 0 ≤ i ∧ i < n) : ixN n i = some i.toNat := by
  unfold ixN
  rw [if_pos h.1, if_pos h.2]
theorem atI_in {ds : List D} (h : 0 ≤ n ∧ n < ds.length) : atI ds n = some (ds[n.toNat]'(by omega)) := by
  unfold atI
  rw [ixN_in h]
  show ds[n.toNat]? = _
  exact List.getElem?_eq_getElem (by omega)
theorem i_iL {u : Addr} {ns : List Int} (l : listAt M u (iL ns)) (h : 0 ≤ n ∧ n < ns.length) (k : Q (.int (ns.getD n.toNat 0)) M) : idxD (.ref u) (.int n) M Q := by
  have h' : 0 ≤ n ∧ n < (iL ns).length := by rw [iL_len]; exact h
  refine ⟨_, _, l, atI_in h', ?_⟩
  rw [iL_at]; exact k
theorem i_fL {u : Addr} {ns : List Rat} (l : listAt M u (fL ns)) (h : 0 ≤ n ∧ n < ns.length) (k : Q (fr (ns.getD n.toNat 0)) M) : idxD (.ref u) (.int n) M Q := by
  have h' : 0 ≤ n ∧ n < (fL ns).length := by rw [fL_len]; exact h
  refine ⟨_, _, l, atI_in h', ?_⟩
  rw [fL_at]; exact k
theorem i_fT {ns : List Rat} (h : 0 ≤ n ∧ n < ns.length) (k : Q (fr (ns.getD n.toNat 0)) M) : idxD (.tup (fL ns)) (.int n) M Q := by
  have h' : 0 ≤ n ∧ n < (fL ns).length := by rw [fL_len]; exact h
  refine ⟨_, atI_in h', ?_⟩
  rw [fL_at]; exact k
theorem z_lenfT {qs : List Rat} (k : Q (.int qs.length) M) : biD .len [.tup (fL qs)] M Q := by
  show Q (.int (fL qs).length) M
  rw [fL_len]; exact k
theorem z_lenfL {u : Addr} {qs : List Rat} (l : listAt M u (fL qs)) (k : Q (.int qs.length) M) : biD .len [.ref u] M Q := by
  refine ⟨_, l, ?_⟩
  rw [fL_len]; exact k
theorem z_leniL {u : Addr} {qs : List Int} (l : listAt M u (iL qs)) (k : Q (.int qs.length) M) : biD .len [.ref u] M Q := by
  refine ⟨_, l, ?_⟩
  rw [iL_len]; exact k
theorem for_iL {v : Nat} {u : Addr} (ns : List Int) (I : Nat → DSt → Mp → Prop) (h0 : I 0 σ M) (hl : ∀ i σ M, I i σ M → listAt M u (iL ns))
    (hs : ∀ (i : Nat) (h : i < ns.length) σ M, I i σ M → wS G p ⟨fun σ2 M2 => ∃ M3, Sub M3 M2 ∧ I (i + 1) σ2 M3, Rt, Nn, fun σ2 M2 => ∃ M3, Sub M3 M2 ∧ I (i + 1) σ2 M3⟩ (σ.set v (some (.int (ns.getD i 0)))) M)
    (hq : ∀ σ M, I ns.length σ M → Nn σ M) : ∃ k, forN (wS G p) [v] true (nSeq (.ref u)) ⟨Nn, Rt, Bk, Ct⟩ k 0 σ M :=
  for_lst (iL ns) I h0 hl (fun i h σ M z => by rw [iL_at]; exact hs i (by rw [iL_len] at h; exact h) σ M z) (fun σ M z => hq σ M (by rw [iL_len] at z; exact z))
theorem for_fL {v : Nat} {u : Addr} (ns : List Rat) (I : Nat → DSt → Mp → Prop) (h0 : I 0 σ M) (hl : ∀ i σ M, I i σ M → listAt M u (fL ns))
    (hs : ∀ (i : Nat) (h : i < ns.length) σ M, I i σ M → wS G p ⟨fun σ2 M2 => ∃ M3, Sub M3 M2 ∧ I (i + 1) σ2 M3, Rt, Nn, fun σ2 M2 => ∃ M3, Sub M3 M2 ∧ I (i + 1) σ2 M3⟩ (σ.set v (some (fr (ns.getD i 0)))) M)
    (hq : ∀ σ M, I ns.length σ M → Nn σ M) : ∃ k, forN (wS G p) [v] true (nSeq (.ref u)) ⟨Nn, Rt, Bk, Ct⟩ k 0 σ M :=
  for_lst (fL ns) I h0 hl (fun i h σ M z => by rw [fL_at]; exact hs i (by rw [fL_len] at h; exact h) σ M z) (fun σ M z => hq σ M (by rw [fL_len] at z; exact z))
theorem for_fT {v : Nat} (ns : List Rat) (I : Nat → DSt → Mp → Prop) (h0 : I 0 σ M)
    (hs : ∀ (i : Nat) (h : i < ns.length) σ M, I i σ M → wS G p ⟨fun σ2 M2 => ∃ M3, Sub M3 M2 ∧ I (i + 1) σ2 M3, Rt, Nn, fun σ2 M2 => ∃ M3, Sub M3 M2 ∧ I (i + 1) σ2 M3⟩ (σ.set v (some (fr (ns.getD i 0)))) M)
    (hq : ∀ σ M, I ns.length σ M → Nn σ M) : ∃ k, forN (wS G p) [v] true (nSeq (.tup (fL ns))) ⟨Nn, Rt, Bk, Ct⟩ k 0 σ M :=
  for_tup (fL ns) I h0 (fun i h σ M z => by rw [fL_at]; exact hs i (by rw [fL_len] at h; exact h) σ M z) (fun σ M z => hq σ M (by rw [fL_len] at z; exact z))
theorem listAt_put {u r : Addr} {ds : List D} {o : MO} (h : listAt M u ds) (n : M r = none) : listAt (put M r o) u ds := by
  have : u ≠ r := fun e => by
    subst e
    rcases h with h | h <;> (rw [n] at h; cases h)
  rcases h with h | h
  · exact .inl (by rw [put_ne this]; exact h)
  · exact .inr (by rw [put_ne this]; exact h)
theorem listAt_sub {M' : Mp} {u : Addr} {ds : List D} (h : listAt M u ds) (s : Sub M M') : listAt M' u ds := by
  rcases h with h | h
  · exact .inl (s _ _ h)
  · exact .inr (s _ _ h)
theorem Bd.fmod {n : Nat} {a b : Int} (hb : Bd n b) (h : 0 < b) : Bd n (a.fmod b) := by
  have h1 := Int.fmod_nonneg_of_pos a h
  have h2 := Int.fmod_lt_of_pos a h
  exact Bd.of_le (by omega) hb
end
end Pd

set_option maxHeartbeats 4000000
namespace Pd
open PySem PySem.Spec L2
abbrev BB : Nat := 60000000
section
variable {G : Str → DSp}
def p_ratio : Ps := (.seq (.ife (.cmp .Eq (.var 1) (.int 0))
    .never
    .skip)
  (.seq (.asg [2] true (.bi .gcd (.cons (.var 0) (.cons (.var 1) .nil))))
  (.seq (.ife (.cmp .Lt (.var 1) (.int 0))
    (.asg [2] true (.neg (.var 2)))
    .skip)
  (.ret (.tup (.cons (.bin .FloorDiv (.var 0) (.var 2)) (.cons (.bin .FloorDiv (.var 1) (.var 2)) .nil)))))))
def sp_ratio : DSp := fun ds M R => ∃ a b : Int, ds = [.int a, .int b] ∧ b ≠ 0 ∧ R (fr (Rat.divInt a b)) M
theorem ok_ratio (ds M R) (h : sp_ratio ds M R) : wBody G p_ratio 3 ds M R := by
  obtain ⟨a, b, rfl, hb, h⟩ := h
  have g0 := gcd_ne (a := a) hb
  unfold p_ratio wBody
  repeat' (first | ((with_reducible refine e_var (d := ?_) ?_ ?_); rotate_left; exact rfl) | with_reducible refine e_cons ?_ | with_reducible refine x_tup ?_ | with_reducible refine e_nil ?_ | with_reducible refine e_int ?_ | with_reducible refine e_idx ?_ | with_reducible refine e_bin ?_ | with_reducible refine b_add ?_ | with_reducible refine b_sub ?_ | with_reducible refine b_mul ?_ ?_ | with_reducible refine i_fr0 ?_ | with_reducible refine i_fr1 ?_ | with_reducible refine e_call ?_ | with_reducible refine e_callK ?_ | with_reducible refine e_bi ?_ | with_reducible refine s_seq ?_ | with_reducible refine s_asg ?_ | with_reducible refine s_ret ?_ | with_reducible refine e_cmp ?_ | with_reducible refine c_eq ?_ | with_reducible refine c_ne ?_ | with_reducible refine c_lt ?_ | with_reducible refine c_le ?_ | with_reducible refine c_gt ?_ | with_reducible refine c_ge ?_ | with_reducible refine s_ife ?_ | with_reducible refine x_ifT ?_ | with_reducible refine x_ifF ?_ | with_reducible refine x_ifNT ?_ | with_reducible refine x_ifNF ?_ | with_reducible refine x_ifd (fun hc => ?_) (fun hc => ?_) | with_reducible refine x_ifn (fun hc => ?_) (fun hc => ?_) | with_reducible refine x_if (fun hc => ?_) (fun hc => ?_) | with_reducible refine s_skip ?_ | with_reducible refine s_expr ?_ | with_reducible refine e_mt ?_ | with_reducible refine b_div ?_ ?_ | with_reducible refine b_mod ?_ ?_ | with_reducible refine b_pow ?_ ?_ | with_reducible refine e_tup ?_ | with_reducible refine x_len (by simp only [List.length_cons, List.length_nil]; decide) ?_ | with_reducible refine e_neg ?_ | with_reducible refine x_int ?_ | with_reducible refine e_bl ?_ | with_reducible refine e_non ?_ | with_reducible refine e_str ?_ | with_reducible refine e_and ?_ | with_reducible refine e_or ?_ | with_reducible refine e_not ?_ | with_reducible refine e_truth ?_ | with_reducible refine x_bl ?_ | with_reducible refine t_bl ?_ | with_reducible refine t_int ?_ | with_reducible refine t_tup ?_ | with_reducible refine t_non ?_ | with_reducible refine e_ife ?_ | with_reducible refine e_isi ?_ | with_reducible refine f_abs ?_ | with_reducible refine f_int ?_ | with_reducible refine f_gcd ?_ | with_reducible refine f_max ?_ | with_reducible refine f_min ?_ | with_reducible refine f_tupT ?_ | with_reducible refine s_for ?_ | with_reducible refine w_rng ?_ | with_reducible refine x_rng ?_ ?_ | with_reducible refine w_it ?_ | with_reducible refine x_itT ?_ | with_reducible refine s_while ?_ | with_reducible refine e_lst ?_ | with_reducible refine e_cut ?_ | with_reducible refine e_absent ?_ | with_reducible refine e_asInt ?_ | with_reducible refine x_pI ?_ | with_reducible refine x_pN ?_ | with_reducible refine e_chain ?_ | with_reducible refine e_comp ?_ | with_reducible refine e_tcomp ?_ | with_reducible refine s_brk ?_ | with_reducible refine s_cont ?_ | ((with_reducible refine m_app (ds := ?_) ?_ ?_); rotate_left; (focus ((repeat (first | exact put_same | assumption | refine put_old ?_ (by assumption))); done))) | ((with_reducible refine m_app2 (ds := ?_) ?_ ?_ ?_); rotate_left; (focus ((repeat (first | exact put_same | assumption | refine put_old ?_ (by assumption))); done))) | ((with_reducible refine z_leniL (qs := ?_) ?_ ?_); rotate_left; first | exact Or.inl put_same | assumption | exact Or.inl (by assumption) | (refine Or.inl ?_; (focus ((repeat (first | exact put_same | assumption | refine put_old ?_ (by assumption))); done))) | exact listAt_put (by assumption) (by assumption) | exact listAt_sub (by assumption) (by assumption)) | ((with_reducible refine z_lenfL (qs := ?_) ?_ ?_); rotate_left; first | exact Or.inl put_same | assumption | exact Or.inl (by assumption) | (refine Or.inl ?_; (focus ((repeat (first | exact put_same | assumption | refine put_old ?_ (by assumption))); done))) | exact listAt_put (by assumption) (by assumption) | exact listAt_sub (by assumption) (by assumption)) | ((with_reducible refine f_lenL (ds := ?_) ?_ ?_); rotate_left; first | exact Or.inl put_same | assumption | exact Or.inl (by assumption) | (refine Or.inl ?_; (focus ((repeat (first | exact put_same | assumption | refine put_old ?_ (by assumption))); done))) | exact listAt_put (by assumption) (by assumption) | exact listAt_sub (by assumption) (by assumption)) | ((with_reducible refine i_iL (ns := ?_) ?_ ?_ ?_); rotate_left; first | exact Or.inl put_same | assumption | exact Or.inl (by assumption) | (refine Or.inl ?_; (focus ((repeat (first | exact put_same | assumption | refine put_old ?_ (by assumption))); done))) | exact listAt_put (by assumption) (by assumption) | exact listAt_sub (by assumption) (by assumption)) | ((with_reducible refine i_fL (ns := ?_) ?_ ?_ ?_); rotate_left; first | exact Or.inl put_same | assumption | exact Or.inl (by assumption) | (refine Or.inl ?_; (focus ((repeat (first | exact put_same | assumption | refine put_old ?_ (by assumption))); done))) | exact listAt_put (by assumption) (by assumption) | exact listAt_sub (by assumption) (by assumption)) | ((with_reducible refine f_tupL (ds := ?_) ?_ ?_); rotate_left; first | exact Or.inl put_same | assumption | exact Or.inl (by assumption) | (refine Or.inl ?_; (focus ((repeat (first | exact put_same | assumption | refine put_old ?_ (by assumption))); done))) | exact listAt_put (by assumption) (by assumption) | exact listAt_sub (by assumption) (by assumption)) | ((with_reducible refine x_itL (ds := ?_) ?_ ?_); rotate_left; first | exact Or.inl put_same | assumption | exact Or.inl (by assumption) | (refine Or.inl ?_; (focus ((repeat (first | exact put_same | assumption | refine put_old ?_ (by assumption))); done))) | exact listAt_put (by assumption) (by assumption) | exact listAt_sub (by assumption) (by assumption)) | with_reducible refine x_new (fun r nr => ?_) | ((with_reducible refine b_lst (ds := ?_) (es := ?_) ?_ ?_ ?_ ?_); rotate_left 2; (focus ((repeat (first | exact put_same | assumption | refine put_old ?_ (by assumption))); done)); (focus ((repeat (first | exact put_same | assumption | refine put_old ?_ (by assumption))); done))) | ((with_reducible refine b_rep (ds := ?_) ?_ ?_ ?_); rotate_left; (focus ((repeat (first | exact put_same | assumption | refine put_old ?_ (by assumption))); done))) | with_reducible refine f_lstT ?_ | with_reducible refine b_tup ?_ ?_ | with_reducible refine z_lenfT ?_ | with_reducible refine f_lenT ?_ | with_reducible refine i_fT ?_ ?_ | with_reducible refine z_isiI ?_ | with_reducible refine z_isiB ?_ | with_reducible refine z_isiF ?_ | with_reducible refine z_isiT ?_ | with_reducible refine z_lenF ?_)
  · exact absurd ‹b = 0› hb
  · omega
  · omega
  · refine ⟨M, Sub.refl M, ?_⟩
    rw [← (fr_divInt_neg ‹b < 0›).1]; exact h
  · exact g0
  · exact g0
  · refine ⟨M, Sub.refl M, ?_⟩
    rw [← fr_divInt_pos (by omega)]; exact h
theorem c_ratio {a b : Int} {M : Mp} {Q : DK} (hG : G "ratio" = sp_ratio) (hb : b ≠ 0) (h : Q (fr (Rat.divInt a b)) M) : G "ratio" [.int a, .int b] M Q := by rw [hG]; exact ⟨a, b, rfl, hb, h⟩
def p_plus : Ps := (.ret (.call "ratio" (.cons (.bin .Add (.bin .Mult (.idx (.var 0) (.int 0)) (.idx (.var 1) (.int 1))) (.bin .Mult (.idx (.var 1) (.int 0)) (.idx (.var 0) (.int 1)))) (.cons (.bin .Mult (.idx (.var 0) (.int 1)) (.idx (.var 1) (.int 1))) .nil))))
def sp_plus : DSp := fun ds M R => ∃ p q : Rat, ds = [fr p, fr q] ∧ Sz BB p ∧ Sz BB q ∧ R (fr (p + q)) M
theorem ok_plus (hG : G "ratio" = sp_ratio) (ds M R) (h : sp_plus ds M R) : wBody G p_plus 2 ds M R := by
  obtain ⟨p, q, rfl, hp, hq, h⟩ := h
  unfold p_plus wBody
  repeat' (first | with_reducible refine c_ratio hG ?_ ?_ | ((with_reducible refine e_var (d := ?_) ?_ ?_); rotate_left; exact rfl) | with_reducible refine e_cons ?_ | with_reducible refine x_tup ?_ | with_reducible refine e_nil ?_ | with_reducible refine e_int ?_ | with_reducible refine e_idx ?_ | with_reducible refine e_bin ?_ | with_reducible refine b_add ?_ | with_reducible refine b_sub ?_ | with_reducible refine b_mul ?_ ?_ | with_reducible refine i_fr0 ?_ | with_reducible refine i_fr1 ?_ | with_reducible refine e_call ?_ | with_reducible refine e_callK ?_ | with_reducible refine e_bi ?_ | with_reducible refine s_seq ?_ | with_reducible refine s_asg ?_ | with_reducible refine s_ret ?_ | with_reducible refine e_cmp ?_ | with_reducible refine c_eq ?_ | with_reducible refine c_ne ?_ | with_reducible refine c_lt ?_ | with_reducible refine c_le ?_ | with_reducible refine c_gt ?_ | with_reducible refine c_ge ?_ | with_reducible refine s_ife ?_ | with_reducible refine x_ifT ?_ | with_reducible refine x_ifF ?_ | with_reducible refine x_ifNT ?_ | with_reducible refine x_ifNF ?_ | with_reducible refine x_ifd (fun hc => ?_) (fun hc => ?_) | with_reducible refine x_ifn (fun hc => ?_) (fun hc => ?_) | with_reducible refine x_if (fun hc => ?_) (fun hc => ?_) | with_reducible refine s_skip ?_ | with_reducible refine s_expr ?_ | with_reducible refine e_mt ?_ | with_reducible refine b_div ?_ ?_ | with_reducible refine b_mod ?_ ?_ | with_reducible refine b_pow ?_ ?_ | with_reducible refine e_tup ?_ | with_reducible refine x_len (by simp only [List.length_cons, List.length_nil]; decide) ?_ | with_reducible refine e_neg ?_ | with_reducible refine x_int ?_ | with_reducible refine e_bl ?_ | with_reducible refine e_non ?_ | with_reducible refine e_str ?_ | with_reducible refine e_and ?_ | with_reducible refine e_or ?_ | with_reducible refine e_not ?_ | with_reducible refine e_truth ?_ | with_reducible refine x_bl ?_ | with_reducible refine t_bl ?_ | with_reducible refine t_int ?_ | with_reducible refine t_tup ?_ | with_reducible refine t_non ?_ | with_reducible refine e_ife ?_ | with_reducible refine e_isi ?_ | with_reducible refine f_abs ?_ | with_reducible refine f_int ?_ | with_reducible refine f_gcd ?_ | with_reducible refine f_max ?_ | with_reducible refine f_min ?_ | with_reducible refine f_tupT ?_ | with_reducible refine s_for ?_ | with_reducible refine w_rng ?_ | with_reducible refine x_rng ?_ ?_ | with_reducible refine w_it ?_ | with_reducible refine x_itT ?_ | with_reducible refine s_while ?_ | with_reducible refine e_lst ?_ | with_reducible refine e_cut ?_ | with_reducible refine e_absent ?_ | with_reducible refine e_asInt ?_ | with_reducible refine x_pI ?_ | with_reducible refine x_pN ?_ | with_reducible refine e_chain ?_ | with_reducible refine e_comp ?_ | with_reducible refine e_tcomp ?_ | with_reducible refine s_brk ?_ | with_reducible refine s_cont ?_ | ((with_reducible refine m_app (ds := ?_) ?_ ?_); rotate_left; (focus ((repeat (first | exact put_same | assumption | refine put_old ?_ (by assumption))); done))) | ((with_reducible refine m_app2 (ds := ?_) ?_ ?_ ?_); rotate_left; (focus ((repeat (first | exact put_same | assumption | refine put_old ?_ (by assumption))); done))) | ((with_reducible refine z_leniL (qs := ?_) ?_ ?_); rotate_left; first | exact Or.inl put_same | assumption | exact Or.inl (by assumption) | (refine Or.inl ?_; (focus ((repeat (first | exact put_same | assumption | refine put_old ?_ (by assumption))); done))) | exact listAt_put (by assumption) (by assumption) | exact listAt_sub (by assumption) (by assumption)) | ((with_reducible refine z_lenfL (qs := ?_) ?_ ?_); rotate_left; first | exact Or.inl put_same | assumption | exact Or.inl (by assumption) | (refine Or.inl ?_; (focus ((repeat (first | exact put_same | assumption | refine put_old ?_ (by assumption))); done))) | exact listAt_put (by assumption) (by assumption) | exact listAt_sub (by assumption) (by assumption)) | ((with_reducible refine f_lenL (ds := ?_) ?_ ?_); rotate_left; first | exact Or.inl put_same | assumption | exact Or.inl (by assumption) | (refine Or.inl ?_; (focus ((repeat (first | exact put_same | assumption | refine put_old ?_ (by assumption))); done))) | exact listAt_put (by assumption) (by assumption) | exact listAt_sub (by assumption) (by assumption)) | ((with_reducible refine i_iL (ns := ?_) ?_ ?_ ?_); rotate_left; first | exact Or.inl put_same | assumption | exact Or.inl (by assumption) | (refine Or.inl ?_; (focus ((repeat (first | exact put_same | assumption | refine put_old ?_ (by assumption))); done))) | exact listAt_put (by assumption) (by assumption) | exact listAt_sub (by assumption) (by assumption)) | ((with_reducible refine i_fL (ns := ?_) ?_ ?_ ?_); rotate_left; first | exact Or.inl put_same | assumption | exact Or.inl (by assumption) | (refine Or.inl ?_; (focus ((repeat (first | exact put_same | assumption | refine put_old ?_ (by assumption))); done))) | exact listAt_put (by assumption) (by assumption) | exact listAt_sub (by assumption) (by assumption)) | ((with_reducible refine f_tupL (ds := ?_) ?_ ?_); rotate_left; first | exact Or.inl put_same | assumption | exact Or.inl (by assumption) | (refine Or.inl ?_; (focus ((repeat (first | exact put_same | assumption | refine put_old ?_ (by assumption))); done))) | exact listAt_put (by assumption) (by assumption) | exact listAt_sub (by assumption) (by assumption)) | ((with_reducible refine x_itL (ds := ?_) ?_ ?_); rotate_left; first | exact Or.inl put_same | assumption | exact Or.inl (by assumption) | (refine Or.inl ?_; (focus ((repeat (first | exact put_same | assumption | refine put_old ?_ (by assumption))); done))) | exact listAt_put (by assumption) (by assumption) | exact listAt_sub (by assumption) (by assumption)) | with_reducible refine x_new (fun r nr => ?_) | ((with_reducible refine b_lst (ds := ?_) (es := ?_) ?_ ?_ ?_ ?_); rotate_left 2; (focus ((repeat (first | exact put_same | assumption | refine put_old ?_ (by assumption))); done)); (focus ((repeat (first | exact put_same | assumption | refine put_old ?_ (by assumption))); done))) | ((with_reducible refine b_rep (ds := ?_) ?_ ?_ ?_); rotate_left; (focus ((repeat (first | exact put_same | assumption | refine put_old ?_ (by assumption))); done))) | with_reducible refine f_lstT ?_ | with_reducible refine b_tup ?_ ?_ | with_reducible refine z_lenfT ?_ | with_reducible refine f_lenT ?_ | with_reducible refine i_fT ?_ ?_ | with_reducible refine z_isiI ?_ | with_reducible refine z_isiB ?_ | with_reducible refine z_isiF ?_ | with_reducible refine z_isiT ?_ | with_reducible refine z_lenF ?_)
  · exact hp.1.mulOk hq.2 (by decide)
  · exact hq.1.mulOk hp.2 (by decide)
  · exact hp.2.mulOk hq.2 (by decide)
  · exact dens_ne p q
  · refine ⟨M, Sub.refl M, ?_⟩
    rw [← divInt_add_den]; exact h
theorem c_plus {p q : Rat} {M : Mp} {Q : DK} (hG : G "plus" = sp_plus) (hp : Sz BB p) (hq : Sz BB q) (h : Q (fr (p + q)) M) : G "plus" [fr p, fr q] M Q := by rw [hG]; exact ⟨p, q, rfl, hp, hq, h⟩
def p_minus : Ps := (.ret (.call "ratio" (.cons (.bin .Sub (.bin .Mult (.idx (.var 0) (.int 0)) (.idx (.var 1) (.int 1))) (.bin .Mult (.idx (.var 1) (.int 0)) (.idx (.var 0) (.int 1)))) (.cons (.bin .Mult (.idx (.var 0) (.int 1)) (.idx (.var 1) (.int 1))) .nil))))
def sp_minus : DSp := fun ds M R => ∃ p q : Rat, ds = [fr p, fr q] ∧ Sz BB p ∧ Sz BB q ∧ R (fr (p - q)) M
theorem ok_minus (hG : G "ratio" = sp_ratio) (ds M R) (h : sp_minus ds M R) : wBody G p_minus 2 ds M R := by
  obtain ⟨p, q, rfl, hp, hq, h⟩ := h
  unfold p_minus wBody
  repeat' (first | with_reducible refine c_ratio hG ?_ ?_ | ((with_reducible refine e_var (d := ?_) ?_ ?_); rotate_left; exact rfl) | with_reducible refine e_cons ?_ | with_reducible refine x_tup ?_ | with_reducible refine e_nil ?_ | with_reducible refine e_int ?_ | with_reducible refine e_idx ?_ | with_reducible refine e_bin ?_ | with_reducible refine b_add ?_ | with_reducible refine b_sub ?_ | with_reducible refine b_mul ?_ ?_ | with_reducible refine i_fr0 ?_ | with_reducible refine i_fr1 ?_ | with_reducible refine e_call ?_ | with_reducible refine e_callK ?_ | with_reducible refine e_bi ?_ | with_reducible refine s_seq ?_ | with_reducible refine s_asg ?_ | with_reducible refine s_ret ?_ | with_reducible refine e_cmp ?_ | with_reducible refine c_eq ?_ | with_reducible refine c_ne ?_ | with_reducible refine c_lt ?_ | with_reducible refine c_le ?_ | with_reducible refine c_gt ?_ | with_reducible refine c_ge ?_ | with_reducible refine s_ife ?_ | with_reducible refine x_ifT ?_ | with_reducible refine x_ifF ?_ | with_reducible refine x_ifNT ?_ | with_reducible refine x_ifNF ?_ | with_reducible refine x_ifd (fun hc => ?_) (fun hc => ?_) | with_reducible refine x_ifn (fun hc => ?_) (fun hc => ?_) | with_reducible refine x_if (fun hc => ?_) (fun hc => ?_) | with_reducible refine s_skip ?_ | with_reducible refine s_expr ?_ | with_reducible refine e_mt ?_ | with_reducible refine b_div ?_ ?_ | with_reducible refine b_mod ?_ ?_ | with_reducible refine b_pow ?_ ?_ | with_reducible refine e_tup ?_ | with_reducible refine x_len (by simp only [List.length_cons, List.length_nil]; decide) ?_ | with_reducible refine e_neg ?_ | with_reducible refine x_int ?_ | with_reducible refine e_bl ?_ | with_reducible refine e_non ?_ | with_reducible refine e_str ?_ | with_reducible refine e_and ?_ | with_reducible refine e_or ?_ | with_reducible refine e_not ?_ | with_reducible refine e_truth ?_ | with_reducible refine x_bl ?_ | with_reducible refine t_bl ?_ | with_reducible refine t_int ?_ | with_reducible refine t_tup ?_ | with_reducible refine t_non ?_ | with_reducible refine e_ife ?_ | with_reducible refine e_isi ?_ | with_reducible refine f_abs ?_ | with_reducible refine f_int ?_ | with_reducible refine f_gcd ?_ | with_reducible refine f_max ?_ | with_reducible refine f_min ?_ | with_reducible refine f_tupT ?_ | with_reducible refine s_for ?_ | with_reducible refine w_rng ?_ | with_reducible refine x_rng ?_ ?_ | with_reducible refine w_it ?_ | with_reducible refine x_itT ?_ | with_reducible refine s_while ?_ | with_reducible refine e_lst ?_ | with_reducible refine e_cut ?_ | with_reducible refine e_absent ?_ | with_reducible refine e_asInt ?_ | with_reducible refine x_pI ?_ | with_reducible refine x_pN ?_ | with_reducible refine e_chain ?_ | with_reducible refine e_comp ?_ | with_reducible refine e_tcomp ?_ | with_reducible refine s_brk ?_ | with_reducible refine s_cont ?_ | ((with_reducible refine m_app (ds := ?_) ?_ ?_); rotate_left; (focus ((repeat (first | exact put_same | assumption | refine put_old ?_ (by assumption))); done))) | ((with_reducible refine m_app2 (ds := ?_) ?_ ?_ ?_); rotate_left; (focus ((repeat (first | exact put_same | assumption | refine put_old ?_ (by assumption))); done))) | ((with_reducible refine z_leniL (qs := ?_) ?_ ?_); rotate_left; first | exact Or.inl put_same | assumption | exact Or.inl (by assumption) | (refine Or.inl ?_; (focus ((repeat (first | exact put_same | assumption | refine put_old ?_ (by assumption))); done))) | exact listAt_put (by assumption) (by assumption) | exact listAt_sub (by assumption) (by assumption)) | ((with_reducible refine z_lenfL (qs := ?_) ?_ ?_); rotate_left; first | exact Or.inl put_same | assumption | exact Or.inl (by assumption) | (refine Or.inl ?_; (focus ((repeat (first | exact put_same | assumption | refine put_old ?_ (by assumption))); done))) | exact listAt_put (by assumption) (by assumption) | exact listAt_sub (by assumption) (by assumption)) | ((with_reducible refine f_lenL (ds := ?_) ?_ ?_); rotate_left; first | exact Or.inl put_same | assumption | exact Or.inl (by assumption) | (refine Or.inl ?_; (focus ((repeat (first | exact put_same | assumption | refine put_old ?_ (by assumption))); done))) | exact listAt_put (by assumption) (by assumption) | exact listAt_sub (by assumption) (by assumption)) | ((with_reducible refine i_iL (ns := ?_) ?_ ?_ ?_); rotate_left; first | exact Or.inl put_same | assumption | exact Or.inl (by assumption) | (refine Or.inl ?_; (focus ((repeat (first | exact put_same | assumption | refine put_old ?_ (by assumption))); done))) | exact listAt_put (by assumption) (by assumption) | exact listAt_sub (by assumption) (by assumption)) | ((with_reducible refine i_fL (ns := ?_) ?_ ?_ ?_); rotate_left; first | exact Or.inl put_same | assumption | exact Or.inl (by assumption) | (refine Or.inl ?_; (focus ((repeat (first | exact put_same | assumption | refine put_old ?_ (by assumption))); done))) | exact listAt_put (by assumption) (by assumption) | exact listAt_sub (by assumption) (by assumption)) | ((with_reducible refine f_tupL (ds := ?_) ?_ ?_); rotate_left; first | exact Or.inl put_same | assumption | exact Or.inl (by assumption) | (refine Or.inl ?_; (focus ((repeat (first | exact put_same | assumption | refine put_old ?_ (by assumption))); done))) | exact listAt_put (by assumption) (by assumption) | exact listAt_sub (by assumption) (by assumption)) | ((with_reducible refine x_itL (ds := ?_) ?_ ?_); rotate_left; first | exact Or.inl put_same | assumption | exact Or.inl (by assumption) | (refine Or.inl ?_; (focus ((repeat (first | exact put_same | assumption | refine put_old ?_ (by assumption))); done))) | exact listAt_put (by assumption) (by assumption) | exact listAt_sub (by assumption) (by assumption)) | with_reducible refine x_new (fun r nr => ?_) | ((with_reducible refine b_lst (ds := ?_) (es := ?_) ?_ ?_ ?_ ?_); rotate_left 2; (focus ((repeat (first | exact put_same | assumption | refine put_old ?_ (by assumption))); done)); (focus ((repeat (first | exact put_same | assumption | refine put_old ?_ (by assumption))); done))) | ((with_reducible refine b_rep (ds := ?_) ?_ ?_ ?_); rotate_left; (focus ((repeat (first | exact put_same | assumption | refine put_old ?_ (by assumption))); done))) | with_reducible refine f_lstT ?_ | with_reducible refine b_tup ?_ ?_ | with_reducible refine z_lenfT ?_ | with_reducible refine f_lenT ?_ | with_reducible refine i_fT ?_ ?_ | with_reducible refine z_isiI ?_ | with_reducible refine z_isiB ?_ | with_reducible refine z_isiF ?_ | with_reducible refine z_isiT ?_ | with_reducible refine z_lenF ?_)
  · exact hp.1.mulOk hq.2 (by decide)
  · exact hq.1.mulOk hp.2 (by decide)
  · exact hp.2.mulOk hq.2 (by decide)
  · exact dens_ne p q
  · refine ⟨M, Sub.refl M, ?_⟩
    rw [← divInt_sub_den]; exact h
theorem c_minus {p q : Rat} {M : Mp} {Q : DK} (hG : G "minus" = sp_minus) (hp : Sz BB p) (hq : Sz BB q) (h : Q (fr (p - q)) M) : G "minus" [fr p, fr q] M Q := by rw [hG]; exact ⟨p, q, rfl, hp, hq, h⟩
def p_times : Ps := (.ret (.call "ratio" (.cons (.bin .Mult (.idx (.var 0) (.int 0)) (.idx (.var 1) (.int 0))) (.cons (.bin .Mult (.idx (.var 0) (.int 1)) (.idx (.var 1) (.int 1))) .nil))))
def sp_times : DSp := fun ds M R => ∃ p q : Rat, ds = [fr p, fr q] ∧ Sz BB p ∧ Sz BB q ∧ R (fr (p * q)) M
theorem ok_times (hG : G "ratio" = sp_ratio) (ds M R) (h : sp_times ds M R) : wBody G p_times 2 ds M R := by
  obtain ⟨p, q, rfl, hp, hq, h⟩ := h
  unfold p_times wBody
  repeat' (first | with_reducible refine c_ratio hG ?_ ?_ | ((with_reducible refine e_var (d := ?_) ?_ ?_); rotate_left; exact rfl) | with_reducible refine e_cons ?_ | with_reducible refine x_tup ?_ | with_reducible refine e_nil ?_ | with_reducible refine e_int ?_ | with_reducible refine e_idx ?_ | with_reducible refine e_bin ?_ | with_reducible refine b_add ?_ | with_reducible refine b_sub ?_ | with_reducible refine b_mul ?_ ?_ | with_reducible refine i_fr0 ?_ | with_reducible refine i_fr1 ?_ | with_reducible refine e_call ?_ | with_reducible refine e_callK ?_ | with_reducible refine e_bi ?_ | with_reducible refine s_seq ?_ | with_reducible refine s_asg ?_ | with_reducible refine s_ret ?_ | with_reducible refine e_cmp ?_ | with_reducible refine c_eq ?_ | with_reducible refine c_ne ?_ | with_reducible refine c_lt ?_ | with_reducible refine c_le ?_ | with_reducible refine c_gt ?_ | with_reducible refine c_ge ?_ | with_reducible refine s_ife ?_ | with_reducible refine x_ifT ?_ | with_reducible refine x_ifF ?_ | with_reducible refine x_ifNT ?_ | with_reducible refine x_ifNF ?_ | with_reducible refine x_ifd (fun hc => ?_) (fun hc => ?_) | with_reducible refine x_ifn (fun hc => ?_) (fun hc => ?_) | with_reducible refine x_if (fun hc => ?_) (fun hc => ?_) | with_reducible refine s_skip ?_ | with_reducible refine s_expr ?_ | with_reducible refine e_mt ?_ | with_reducible refine b_div ?_ ?_ | with_reducible refine b_mod ?_ ?_ | with_reducible refine b_pow ?_ ?_ | with_reducible refine e_tup ?_ | with_reducible refine x_len (by simp only [List.length_cons, List.length_nil]; decide) ?_ | with_reducible refine e_neg ?_ | with_reducible refine x_int ?_ | with_reducible refine e_bl ?_ | with_reducible refine e_non ?_ | with_reducible refine e_str ?_ | with_reducible refine e_and ?_ | with_reducible refine e_or ?_ | with_reducible refine e_not ?_ | with_reducible refine e_truth ?_ | with_reducible refine x_bl ?_ | with_reducible refine t_bl ?_ | with_reducible refine t_int ?_ | with_reducible refine t_tup ?_ | with_reducible refine t_non ?_ | with_reducible refine e_ife ?_ | with_reducible refine e_isi ?_ | with_reducible refine f_abs ?_ | with_reducible refine f_int ?_ | with_reducible refine f_gcd ?_ | with_reducible refine f_max ?_ | with_reducible refine f_min ?_ | with_reducible refine f_tupT ?_ | with_reducible refine s_for ?_ | with_reducible refine w_rng ?_ | with_reducible refine x_rng ?_ ?_ | with_reducible refine w_it ?_ | with_reducible refine x_itT ?_ | with_reducible refine s_while ?_ | with_reducible refine e_lst ?_ | with_reducible refine e_cut ?_ | with_reducible refine e_absent ?_ | with_reducible refine e_asInt ?_ | with_reducible refine x_pI ?_ | with_reducible refine x_pN ?_ | with_reducible refine e_chain ?_ | with_reducible refine e_comp ?_ | with_reducible refine e_tcomp ?_ | with_reducible refine s_brk ?_ | with_reducible refine s_cont ?_ | ((with_reducible refine m_app (ds := ?_) ?_ ?_); rotate_left; (focus ((repeat (first | exact put_same | assumption | refine put_old ?_ (by assumption))); done))) | ((with_reducible refine m_app2 (ds := ?_) ?_ ?_ ?_); rotate_left; (focus ((repeat (first | exact put_same | assumption | refine put_old ?_ (by assumption))); done))) | ((with_reducible refine z_leniL (qs := ?_) ?_ ?_); rotate_left; first | exact Or.inl put_same | assumption | exact Or.inl (by assumption) | (refine Or.inl ?_; (focus ((repeat (first | exact put_same | assumption | refine put_old ?_ (by assumption))); done))) | exact listAt_put (by assumption) (by assumption) | exact listAt_sub (by assumption) (by assumption)) | ((with_reducible refine z_lenfL (qs := ?_) ?_ ?_); rotate_left; first | exact Or.inl put_same | assumption | exact Or.inl (by assumption) | (refine Or.inl ?_; (focus ((repeat (first | exact put_same | assumption | refine put_old ?_ (by assumption))); done))) | exact listAt_put (by assumption) (by assumption) | exact listAt_sub (by assumption) (by assumption)) | ((with_reducible refine f_lenL (ds := ?_) ?_ ?_); rotate_left; first | exact Or.inl put_same | assumption | exact Or.inl (by assumption) | (refine Or.inl ?_; (focus ((repeat (first | exact put_same | assumption | refine put_old ?_ (by assumption))); done))) | exact listAt_put (by assumption) (by assumption) | exact listAt_sub (by assumption) (by assumption)) | ((with_reducible refine i_iL (ns := ?_) ?_ ?_ ?_); rotate_left; first | exact Or.inl put_same | assumption | exact Or.inl (by assumption) | (refine Or.inl ?_; (focus ((repeat (first | exact put_same | assumption | refine put_old ?_ (by assumption))); done))) | exact listAt_put (by assumption) (by assumption) | exact listAt_sub (by assumption) (by assumption)) | ((with_reducible refine i_fL (ns := ?_) ?_ ?_ ?_); rotate_left; first | exact Or.inl put_same | assumption | exact Or.inl (by assumption) | (refine Or.inl ?_; (focus ((repeat (first | exact put_same | assumption | refine put_old ?_ (by assumption))); done))) | exact listAt_put (by assumption) (by assumption) | exact listAt_sub (by assumption) (by assumption)) | ((with_reducible refine f_tupL (ds := ?_) ?_ ?_); rotate_left; first | exact Or.inl put_same | assumption | exact Or.inl (by assumption) | (refine Or.inl ?_; (focus ((repeat (first | exact put_same | assumption | refine put_old ?_ (by assumption))); done))) | exact listAt_put (by assumption) (by assumption) | exact listAt_sub (by assumption) (by assumption)) | ((with_reducible refine x_itL (ds := ?_) ?_ ?_); rotate_left; first | exact Or.inl put_same | assumption | exact Or.inl (by assumption) | (refine Or.inl ?_; (focus ((repeat (first | exact put_same | assumption | refine put_old ?_ (by assumption))); done))) | exact listAt_put (by assumption) (by assumption) | exact listAt_sub (by assumption) (by assumption)) | with_reducible refine x_new (fun r nr => ?_) | ((with_reducible refine b_lst (ds := ?_) (es := ?_) ?_ ?_ ?_ ?_); rotate_left 2; (focus ((repeat (first | exact put_same | assumption | refine put_old ?_ (by assumption))); done)); (focus ((repeat (first | exact put_same | assumption | refine put_old ?_ (by assumption))); done))) | ((with_reducible refine b_rep (ds := ?_) ?_ ?_ ?_); rotate_left; (focus ((repeat (first | exact put_same | assumption | refine put_old ?_ (by assumption))); done))) | with_reducible refine f_lstT ?_ | with_reducible refine b_tup ?_ ?_ | with_reducible refine z_lenfT ?_ | with_reducible refine f_lenT ?_ | with_reducible refine i_fT ?_ ?_ | with_reducible refine z_isiI ?_ | with_reducible refine z_isiB ?_ | with_reducible refine z_isiF ?_ | with_reducible refine z_isiT ?_ | with_reducible refine z_lenF ?_)
  · exact hp.1.mulOk hq.1 (by decide)
  · exact hp.2.mulOk hq.2 (by decide)
  · exact dens_ne p q
  · refine ⟨M, Sub.refl M, ?_⟩
    rw [← divInt_mul_den]; exact h
theorem c_times {p q : Rat} {M : Mp} {Q : DK} (hG : G "times" = sp_times) (hp : Sz BB p) (hq : Sz BB q) (h : Q (fr (p * q)) M) : G "times" [fr p, fr q] M Q := by rw [hG]; exact ⟨p, q, rfl, hp, hq, h⟩
def p_over : Ps := (.seq (.ife (.cmp .Eq (.idx (.var 1) (.int 0)) (.int 0))
    .never
    .skip)
  (.ret (.call "ratio" (.cons (.bin .Mult (.idx (.var 0) (.int 0)) (.idx (.var 1) (.int 1))) (.cons (.bin .Mult (.idx (.var 0) (.int 1)) (.idx (.var 1) (.int 0))) .nil)))))
def sp_over : DSp := fun ds M R => ∃ p q : Rat, ds = [fr p, fr q] ∧ Sz BB p ∧ Sz BB q ∧ q ≠ 0 ∧ R (fr (p / q)) M
theorem ok_over (hG : G "ratio" = sp_ratio) (ds M R) (h : sp_over ds M R) : wBody G p_over 2 ds M R := by
  obtain ⟨p, q, rfl, hp, hq, h0, h⟩ := h
  unfold p_over wBody
  have hn : q.num ≠ 0 := fun e => h0 (Rat.num_eq_zero.mp e)
  repeat' (first | with_reducible refine c_ratio hG ?_ ?_ | ((with_reducible refine e_var (d := ?_) ?_ ?_); rotate_left; exact rfl) | with_reducible refine e_cons ?_ | with_reducible refine x_tup ?_ | with_reducible refine e_nil ?_ | with_reducible refine e_int ?_ | with_reducible refine e_idx ?_ | with_reducible refine e_bin ?_ | with_reducible refine b_add ?_ | with_reducible refine b_sub ?_ | with_reducible refine b_mul ?_ ?_ | with_reducible refine i_fr0 ?_ | with_reducible refine i_fr1 ?_ | with_reducible refine e_call ?_ | with_reducible refine e_callK ?_ | with_reducible refine e_bi ?_ | with_reducible refine s_seq ?_ | with_reducible refine s_asg ?_ | with_reducible refine s_ret ?_ | with_reducible refine e_cmp ?_ | with_reducible refine c_eq ?_ | with_reducible refine c_ne ?_ | with_reducible refine c_lt ?_ | with_reducible refine c_le ?_ | with_reducible refine c_gt ?_ | with_reducible refine c_ge ?_ | with_reducible refine s_ife ?_ | with_reducible refine x_ifT ?_ | with_reducible refine x_ifF ?_ | with_reducible refine x_ifNT ?_ | with_reducible refine x_ifNF ?_ | with_reducible refine x_ifd (fun hc => ?_) (fun hc => ?_) | with_reducible refine x_ifn (fun hc => ?_) (fun hc => ?_) | with_reducible refine x_if (fun hc => ?_) (fun hc => ?_) | with_reducible refine s_skip ?_ | with_reducible refine s_expr ?_ | with_reducible refine e_mt ?_ | with_reducible refine b_div ?_ ?_ | with_reducible refine b_mod ?_ ?_ | with_reducible refine b_pow ?_ ?_ | with_reducible refine e_tup ?_ | with_reducible refine x_len (by simp only [List.length_cons, List.length_nil]; decide) ?_ | with_reducible refine e_neg ?_ | with_reducible refine x_int ?_ | with_reducible refine e_bl ?_ | with_reducible refine e_non ?_ | with_reducible refine e_str ?_ | with_reducible refine e_and ?_ | with_reducible refine e_or ?_ | with_reducible refine e_not ?_ | with_reducible refine e_truth ?_ | with_reducible refine x_bl ?_ | with_reducible refine t_bl ?_ | with_reducible refine t_int ?_ | with_reducible refine t_tup ?_ | with_reducible refine t_non ?_ | with_reducible refine e_ife ?_ | with_reducible refine e_isi ?_ | with_reducible refine f_abs ?_ | with_reducible refine f_int ?_ | with_reducible refine f_gcd ?_ | with_reducible refine f_max ?_ | with_reducible refine f_min ?_ | with_reducible refine f_tupT ?_ | with_reducible refine s_for ?_ | with_reducible refine w_rng ?_ | with_reducible refine x_rng ?_ ?_ | with_reducible refine w_it ?_ | with_reducible refine x_itT ?_ | with_reducible refine s_while ?_ | with_reducible refine e_lst ?_ | with_reducible refine e_cut ?_ | with_reducible refine e_absent ?_ | with_reducible refine e_asInt ?_ | with_reducible refine x_pI ?_ | with_reducible refine x_pN ?_ | with_reducible refine e_chain ?_ | with_reducible refine e_comp ?_ | with_reducible refine e_tcomp ?_ | with_reducible refine s_brk ?_ | with_reducible refine s_cont ?_ | ((with_reducible refine m_app (ds := ?_) ?_ ?_); rotate_left; (focus ((repeat (first | exact put_same | assumption | refine put_old ?_ (by assumption))); done))) | ((with_reducible refine m_app2 (ds := ?_) ?_ ?_ ?_); rotate_left; (focus ((repeat (first | exact put_same | assumption | refine put_old ?_ (by assumption))); done))) | ((with_reducible refine z_leniL (qs := ?_) ?_ ?_); rotate_left; first | exact Or.inl put_same | assumption | exact Or.inl (by assumption) | (refine Or.inl ?_; (focus ((repeat (first | exact put_same | assumption | refine put_old ?_ (by assumption))); done))) | exact listAt_put (by assumption) (by assumption) | exact listAt_sub (by assumption) (by assumption)) | ((with_reducible refine z_lenfL (qs := ?_) ?_ ?_); rotate_left; first | exact Or.inl put_same | assumption | exact Or.inl (by assumption) | (refine Or.inl ?_; (focus ((repeat (first | exact put_same | assumption | refine put_old ?_ (by assumption))); done))) | exact listAt_put (by assumption) (by assumption) | exact listAt_sub (by assumption) (by assumption)) | ((with_reducible refine f_lenL (ds := ?_) ?_ ?_); rotate_left; first | exact Or.inl put_same | assumption | exact Or.inl (by assumption) | (refine Or.inl ?_; (focus ((repeat (first | exact put_same | assumption | refine put_old ?_ (by assumption))); done))) | exact listAt_put (by assumption) (by assumption) | exact listAt_sub (by assumption) (by assumption)) | ((with_reducible refine i_iL (ns := ?_) ?_ ?_ ?_); rotate_left; first | exact Or.inl put_same | assumption | exact Or.inl (by assumption) | (refine Or.inl ?_; (focus ((repeat (first | exact put_same | assumption | refine put_old ?_ (by assumption))); done))) | exact listAt_put (by assumption) (by assumption) | exact listAt_sub (by assumption) (by assumption)) | ((with_reducible refine i_fL (ns := ?_) ?_ ?_ ?_); rotate_left; first | exact Or.inl put_same | assumption | exact Or.inl (by assumption) | (refine Or.inl ?_; (focus ((repeat (first | exact put_same | assumption | refine put_old ?_ (by assumption))); done))) | exact listAt_put (by assumption) (by assumption) | exact listAt_sub (by assumption) (by assumption)) | ((with_reducible refine f_tupL (ds := ?_) ?_ ?_); rotate_left; first | exact Or.inl put_same | assumption | exact Or.inl (by assumption) | (refine Or.inl ?_; (focus ((repeat (first | exact put_same | assumption | refine put_old ?_ (by assumption))); done))) | exact listAt_put (by assumption) (by assumption) | exact listAt_sub (by assumption) (by assumption)) | ((with_reducible refine x_itL (ds := ?_) ?_ ?_); rotate_left; first | exact Or.inl put_same | assumption | exact Or.inl (by assumption) | (refine Or.inl ?_; (focus ((repeat (first | exact put_same | assumption | refine put_old ?_ (by assumption))); done))) | exact listAt_put (by assumption) (by assumption) | exact listAt_sub (by assumption) (by assumption)) | with_reducible refine x_new (fun r nr => ?_) | ((with_reducible refine b_lst (ds := ?_) (es := ?_) ?_ ?_ ?_ ?_); rotate_left 2; (focus ((repeat (first | exact put_same | assumption | refine put_old ?_ (by assumption))); done)); (focus ((repeat (first | exact put_same | assumption | refine put_old ?_ (by assumption))); done))) | ((with_reducible refine b_rep (ds := ?_) ?_ ?_ ?_); rotate_left; (focus ((repeat (first | exact put_same | assumption | refine put_old ?_ (by assumption))); done))) | with_reducible refine f_lstT ?_ | with_reducible refine b_tup ?_ ?_ | with_reducible refine z_lenfT ?_ | with_reducible refine f_lenT ?_ | with_reducible refine i_fT ?_ ?_ | with_reducible refine z_isiI ?_ | with_reducible refine z_isiB ?_ | with_reducible refine z_isiF ?_ | with_reducible refine z_isiT ?_ | with_reducible refine z_lenF ?_)
  · exact absurd ‹q.num = 0› hn
  · exact hp.1.mulOk hq.2 (by decide)
  · exact hp.2.mulOk hq.1 (by decide)
  · exact Int.mul_ne_zero (den_ne p) hn
  · refine ⟨M, Sub.refl M, ?_⟩
    rw [← divInt_div_den]; exact h
theorem c_over {p q : Rat} {M : Mp} {Q : DK} (hG : G "over" = sp_over) (hp : Sz BB p) (hq : Sz BB q) (h0 : q ≠ 0) (h : Q (fr (p / q)) M) : G "over" [fr p, fr q] M Q := by rw [hG]; exact ⟨p, q, rfl, hp, hq, h0, h⟩
end
end Pd

set_option maxHeartbeats 4000000
namespace Pd
open PySem PySem.Spec L2
section
variable {G : Str → DSp}
def p__law_ratio : Ps := (.seq (.asg [2] true (.bi .abs (.cons (.bi .int (.cons (.var 0) .nil)) .nil)))
  (.seq (.asg [3] true (.bi .abs (.cons (.bi .int (.cons (.var 1) .nil)) .nil)))
  (.seq (.while (.cmp .NotEq (.var 3) (.int 0))
    (.seq (.asg [4] true (.bin .Mod (.bi .int (.cons (.var 2) .nil)) (.var 3)))
    (.seq (.asg [2] true (.var 3))
    (.asg [3] true (.var 4)))))
  (.seq (.ife (.cmp .Lt (.var 1) (.int 0))
    (.ret (.tup (.cons (.bin .FloorDiv (.neg (.var 0)) (.var 2)) (.cons (.bin .FloorDiv (.neg (.var 1)) (.var 2)) .nil))))
    .skip)
  (.ret (.tup (.cons (.bin .FloorDiv (.var 0) (.var 2)) (.cons (.bin .FloorDiv (.var 1) (.var 2)) .nil))))))))
theorem abs_ite (a : Int) : (if a < 0 then -a else a) = (a.natAbs : Int) := by
  by_cases h : a < 0
  · rw [if_pos h]; omega
  · rw [if_neg h]; omega
theorem ok__law_ratio (ds M R) (h : sp_ratio ds M R) : wBody G p__law_ratio 5 ds M R := by
  obtain ⟨a, b, rfl, hb, h⟩ := h
  have g0 := gcd_ne (a := a) hb
  unfold p__law_ratio wBody
  repeat' (first | ((with_reducible refine e_var (d := ?_) ?_ ?_); rotate_left; exact rfl) | with_reducible refine e_cons ?_ | with_reducible refine x_tup ?_ | with_reducible refine e_nil ?_ | with_reducible refine e_int ?_ | with_reducible refine e_idx ?_ | with_reducible refine e_bin ?_ | with_reducible refine b_add ?_ | with_reducible refine b_sub ?_ | with_reducible refine b_mul ?_ ?_ | with_reducible refine i_fr0 ?_ | with_reducible refine i_fr1 ?_ | with_reducible refine e_call ?_ | with_reducible refine e_callK ?_ | with_reducible refine e_bi ?_ | with_reducible refine s_seq ?_ | with_reducible refine s_asg ?_ | with_reducible refine s_ret ?_ | with_reducible refine e_cmp ?_ | with_reducible refine c_eq ?_ | with_reducible refine c_ne ?_ | with_reducible refine c_lt ?_ | with_reducible refine c_le ?_ | with_reducible refine c_gt ?_ | with_reducible refine c_ge ?_ | with_reducible refine s_ife ?_ | with_reducible refine x_ifT ?_ | with_reducible refine x_ifF ?_ | with_reducible refine x_ifNT ?_ | with_reducible refine x_ifNF ?_ | with_reducible refine x_ifd (fun hc => ?_) (fun hc => ?_) | with_reducible refine x_ifn (fun hc => ?_) (fun hc => ?_) | with_reducible refine x_if (fun hc => ?_) (fun hc => ?_) | with_reducible refine s_skip ?_ | with_reducible refine s_expr ?_ | with_reducible refine e_mt ?_ | with_reducible refine b_div ?_ ?_ | with_reducible refine b_mod ?_ ?_ | with_reducible refine b_pow ?_ ?_ | with_reducible refine e_tup ?_ | with_reducible refine x_len (by simp only [List.length_cons, List.length_nil]; decide) ?_ | with_reducible refine e_neg ?_ | with_reducible refine x_int ?_ | with_reducible refine e_bl ?_ | with_reducible refine e_non ?_ | with_reducible refine e_str ?_ | with_reducible refine e_and ?_ | with_reducible refine e_or ?_ | with_reducible refine e_not ?_ | with_reducible refine e_truth ?_ | with_reducible refine x_bl ?_ | with_reducible refine t_bl ?_ | with_reducible refine t_int ?_ | with_reducible refine t_tup ?_ | with_reducible refine t_non ?_ | with_reducible refine e_ife ?_ | with_reducible refine e_isi ?_ | with_reducible refine f_abs ?_ | with_reducible refine f_int ?_ | with_reducible refine f_gcd ?_ | with_reducible refine f_max ?_ | with_reducible refine f_min ?_ | with_reducible refine f_tupT ?_ | with_reducible refine s_for ?_ | with_reducible refine w_rng ?_ | with_reducible refine x_rng ?_ ?_ | with_reducible refine w_it ?_ | with_reducible refine x_itT ?_ | with_reducible refine s_while ?_ | with_reducible refine e_lst ?_ | with_reducible refine e_cut ?_ | with_reducible refine e_absent ?_ | with_reducible refine e_asInt ?_ | with_reducible refine x_pI ?_ | with_reducible refine x_pN ?_ | with_reducible refine e_chain ?_ | with_reducible refine e_comp ?_ | with_reducible refine e_tcomp ?_ | with_reducible refine s_brk ?_ | with_reducible refine s_cont ?_ | ((with_reducible refine m_app (ds := ?_) ?_ ?_); rotate_left; (focus ((repeat (first | exact put_same | assumption | refine put_old ?_ (by assumption))); done))) | ((with_reducible refine m_app2 (ds := ?_) ?_ ?_ ?_); rotate_left; (focus ((repeat (first | exact put_same | assumption | refine put_old ?_ (by assumption))); done))) | ((with_reducible refine z_leniL (qs := ?_) ?_ ?_); rotate_left; first | exact Or.inl put_same | assumption | exact Or.inl (by assumption) | (refine Or.inl ?_; (focus ((repeat (first | exact put_same | assumption | refine put_old ?_ (by assumption))); done))) | exact listAt_put (by assumption) (by assumption) | exact listAt_sub (by assumption) (by assumption)) | ((with_reducible refine z_lenfL (qs := ?_) ?_ ?_); rotate_left; first | exact Or.inl put_same | assumption | exact Or.inl (by assumption) | (refine Or.inl ?_; (focus ((repeat (first | exact put_same | assumption | refine put_old ?_ (by assumption))); done))) | exact listAt_put (by assumption) (by assumption) | exact listAt_sub (by assumption) (by assumption)) | ((with_reducible refine f_lenL (ds := ?_) ?_ ?_); rotate_left; first | exact Or.inl put_same | assumption | exact Or.inl (by assumption) | (refine Or.inl ?_; (focus ((repeat (first | exact put_same | assumption | refine put_old ?_ (by assumption))); done))) | exact listAt_put (by assumption) (by assumption) | exact listAt_sub (by assumption) (by assumption)) | ((with_reducible refine i_iL (ns := ?_) ?_ ?_ ?_); rotate_left; first | exact Or.inl put_same | assumption | exact Or.inl (by assumption) | (refine Or.inl ?_; (focus ((repeat (first | exact put_same | assumption | refine put_old ?_ (by assumption))); done))) | exact listAt_put (by assumption) (by assumption) | exact listAt_sub (by assumption) (by assumption)) | ((with_reducible refine i_fL (ns := ?_) ?_ ?_ ?_); rotate_left; first | exact Or.inl put_same | assumption | exact Or.inl (by assumption) | (refine Or.inl ?_; (focus ((repeat (first | exact put_same | assumption | refine put_old ?_ (by assumption))); done))) | exact listAt_put (by assumption) (by assumption) | exact listAt_sub (by assumption) (by assumption)) | ((with_reducible refine f_tupL (ds := ?_) ?_ ?_); rotate_left; first | exact Or.inl put_same | assumption | exact Or.inl (by assumption) | (refine Or.inl ?_; (focus ((repeat (first | exact put_same | assumption | refine put_old ?_ (by assumption))); done))) | exact listAt_put (by assumption) (by assumption) | exact listAt_sub (by assumption) (by assumption)) | ((with_reducible refine x_itL (ds := ?_) ?_ ?_); rotate_left; first | exact Or.inl put_same | assumption | exact Or.inl (by assumption) | (refine Or.inl ?_; (focus ((repeat (first | exact put_same | assumption | refine put_old ?_ (by assumption))); done))) | exact listAt_put (by assumption) (by assumption) | exact listAt_sub (by assumption) (by assumption)) | with_reducible refine x_new (fun r nr => ?_) | ((with_reducible refine b_lst (ds := ?_) (es := ?_) ?_ ?_ ?_ ?_); rotate_left 2; (focus ((repeat (first | exact put_same | assumption | refine put_old ?_ (by assumption))); done)); (focus ((repeat (first | exact put_same | assumption | refine put_old ?_ (by assumption))); done))) | ((with_reducible refine b_rep (ds := ?_) ?_ ?_ ?_); rotate_left; (focus ((repeat (first | exact put_same | assumption | refine put_old ?_ (by assumption))); done))) | with_reducible refine f_lstT ?_ | with_reducible refine b_tup ?_ ?_ | with_reducible refine z_lenfT ?_ | with_reducible refine f_lenT ?_ | with_reducible refine i_fT ?_ ?_ | with_reducible refine z_isiI ?_ | with_reducible refine z_isiB ?_ | with_reducible refine z_isiF ?_ | with_reducible refine z_isiT ?_ | with_reducible refine z_lenF ?_)
  rw [abs_ite, abs_ite]
  refine while_inv (fun m σ M' => ∃ (x y : Nat) (o : Option D), σ = [some (.int a), some (.int b), some (.int x), some (.int y), o] ∧ Nat.gcd x y = Nat.gcd a.natAbs b.natAbs ∧ m = y ∧ M' = M) b.natAbs ⟨a.natAbs, b.natAbs, none, rfl, rfl, rfl, rfl⟩ ?_
  rintro m σ M' ⟨x, y, o, rfl, hg, rfl, rfl⟩
  repeat' (first | ((with_reducible refine e_var (d := ?_) ?_ ?_); rotate_left; exact rfl) | with_reducible refine e_cons ?_ | with_reducible refine x_tup ?_ | with_reducible refine e_nil ?_ | with_reducible refine e_int ?_ | with_reducible refine e_idx ?_ | with_reducible refine e_bin ?_ | with_reducible refine b_add ?_ | with_reducible refine b_sub ?_ | with_reducible refine b_mul ?_ ?_ | with_reducible refine i_fr0 ?_ | with_reducible refine i_fr1 ?_ | with_reducible refine e_call ?_ | with_reducible refine e_callK ?_ | with_reducible refine e_bi ?_ | with_reducible refine s_seq ?_ | with_reducible refine s_asg ?_ | with_reducible refine s_ret ?_ | with_reducible refine e_cmp ?_ | with_reducible refine c_eq ?_ | with_reducible refine c_ne ?_ | with_reducible refine c_lt ?_ | with_reducible refine c_le ?_ | with_reducible refine c_gt ?_ | with_reducible refine c_ge ?_ | with_reducible refine s_ife ?_ | with_reducible refine x_ifT ?_ | with_reducible refine x_ifF ?_ | with_reducible refine x_ifNT ?_ | with_reducible refine x_ifNF ?_ | with_reducible refine x_ifd (fun hc => ?_) (fun hc => ?_) | with_reducible refine x_ifn (fun hc => ?_) (fun hc => ?_) | with_reducible refine x_if (fun hc => ?_) (fun hc => ?_) | with_reducible refine s_skip ?_ | with_reducible refine s_expr ?_ | with_reducible refine e_mt ?_ | with_reducible refine b_div ?_ ?_ | with_reducible refine b_mod ?_ ?_ | with_reducible refine b_pow ?_ ?_ | with_reducible refine e_tup ?_ | with_reducible refine x_len (by simp only [List.length_cons, List.length_nil]; decide) ?_ | with_reducible refine e_neg ?_ | with_reducible refine x_int ?_ | with_reducible refine e_bl ?_ | with_reducible refine e_non ?_ | with_reducible refine e_str ?_ | with_reducible refine e_and ?_ | with_reducible refine e_or ?_ | with_reducible refine e_not ?_ | with_reducible refine e_truth ?_ | with_reducible refine x_bl ?_ | with_reducible refine t_bl ?_ | with_reducible refine t_int ?_ | with_reducible refine t_tup ?_ | with_reducible refine t_non ?_ | with_reducible refine e_ife ?_ | with_reducible refine e_isi ?_ | with_reducible refine f_abs ?_ | with_reducible refine f_int ?_ | with_reducible refine f_gcd ?_ | with_reducible refine f_max ?_ | with_reducible refine f_min ?_ | with_reducible refine f_tupT ?_ | with_reducible refine s_for ?_ | with_reducible refine w_rng ?_ | with_reducible refine x_rng ?_ ?_ | with_reducible refine w_it ?_ | with_reducible refine x_itT ?_ | with_reducible refine s_while ?_ | with_reducible refine e_lst ?_ | with_reducible refine e_cut ?_ | with_reducible refine e_absent ?_ | with_reducible refine e_asInt ?_ | with_reducible refine x_pI ?_ | with_reducible refine x_pN ?_ | with_reducible refine e_chain ?_ | with_reducible refine e_comp ?_ | with_reducible refine e_tcomp ?_ | with_reducible refine s_brk ?_ | with_reducible refine s_cont ?_ | ((with_reducible refine m_app (ds := ?_) ?_ ?_); rotate_left; (focus ((repeat (first | exact put_same | assumption | refine put_old ?_ (by assumption))); done))) | ((with_reducible refine m_app2 (ds := ?_) ?_ ?_ ?_); rotate_left; (focus ((repeat (first | exact put_same | assumption | refine put_old ?_ (by assumption))); done))) | ((with_reducible refine z_leniL (qs := ?_) ?_ ?_); rotate_left; first | exact Or.inl put_same | assumption | exact Or.inl (by assumption) | (refine Or.inl ?_; (focus ((repeat (first | exact put_same | assumption | refine put_old ?_ (by assumption))); done))) | exact listAt_put (by assumption) (by assumption) | exact listAt_sub (by assumption) (by assumption)) | ((with_reducible refine z_lenfL (qs := ?_) ?_ ?_); rotate_left; first | exact Or.inl put_same | assumption | exact Or.inl (by assumption) | (refine Or.inl ?_; (focus ((repeat (first | exact put_same | assumption | refine put_old ?_ (by assumption))); done))) | exact listAt_put (by assumption) (by assumption) | exact listAt_sub (by assumption) (by assumption)) | ((with_reducible refine f_lenL (ds := ?_) ?_ ?_); rotate_left; first | exact Or.inl put_same | assumption | exact Or.inl (by assumption) | (refine Or.inl ?_; (focus ((repeat (first | exact put_same | assumption | refine put_old ?_ (by assumption))); done))) | exact listAt_put (by assumption) (by assumption) | exact listAt_sub (by assumption) (by assumption)) | ((with_reducible refine i_iL (ns := ?_) ?_ ?_ ?_); rotate_left; first | exact Or.inl put_same | assumption | exact Or.inl (by assumption) | (refine Or.inl ?_; (focus ((repeat (first | exact put_same | assumption | refine put_old ?_ (by assumption))); done))) | exact listAt_put (by assumption) (by assumption) | exact listAt_sub (by assumption) (by assumption)) | ((with_reducible refine i_fL (ns := ?_) ?_ ?_ ?_); rotate_left; first | exact Or.inl put_same | assumption | exact Or.inl (by assumption) | (refine Or.inl ?_; (focus ((repeat (first | exact put_same | assumption | refine put_old ?_ (by assumption))); done))) | exact listAt_put (by assumption) (by assumption) | exact listAt_sub (by assumption) (by assumption)) | ((with_reducible refine f_tupL (ds := ?_) ?_ ?_); rotate_left; first | exact Or.inl put_same | assumption | exact Or.inl (by assumption) | (refine Or.inl ?_; (focus ((repeat (first | exact put_same | assumption | refine put_old ?_ (by assumption))); done))) | exact listAt_put (by assumption) (by assumption) | exact listAt_sub (by assumption) (by assumption)) | ((with_reducible refine x_itL (ds := ?_) ?_ ?_); rotate_left; first | exact Or.inl put_same | assumption | exact Or.inl (by assumption) | (refine Or.inl ?_; (focus ((repeat (first | exact put_same | assumption | refine put_old ?_ (by assumption))); done))) | exact listAt_put (by assumption) (by assumption) | exact listAt_sub (by assumption) (by assumption)) | with_reducible refine x_new (fun r nr => ?_) | ((with_reducible refine b_lst (ds := ?_) (es := ?_) ?_ ?_ ?_ ?_); rotate_left 2; (focus ((repeat (first | exact put_same | assumption | refine put_old ?_ (by assumption))); done)); (focus ((repeat (first | exact put_same | assumption | refine put_old ?_ (by assumption))); done))) | ((with_reducible refine b_rep (ds := ?_) ?_ ?_ ?_); rotate_left; (focus ((repeat (first | exact put_same | assumption | refine put_old ?_ (by assumption))); done))) | with_reducible refine f_lstT ?_ | with_reducible refine b_tup ?_ ?_ | with_reducible refine z_lenfT ?_ | with_reducible refine f_lenT ?_ | with_reducible refine i_fT ?_ ?_ | with_reducible refine z_isiI ?_ | with_reducible refine z_isiB ?_ | with_reducible refine z_isiF ?_ | with_reducible refine z_isiT ?_ | with_reducible refine z_lenF ?_)
  · assumption
  · have hy0 : 0 < m := by omega
    refine ⟨M', Sub.refl M', x % m, Nat.mod_lt _ hy0, m, x % m, some (.int ((x : Int).fmod m)), ?_, ?_, rfl, rfl⟩
    · show [some (D.int a), some (D.int b), some (D.int m), some (D.int ((x : Int).fmod m)), some (D.int ((x : Int).fmod m))] = _
      rw [Int.fmod_eq_emod_of_nonneg _ (by omega), ← Int.natCast_emod]
    · rw [← hg, Nat.gcd_comm x m, Nat.gcd_rec m x, Nat.gcd_comm]
  · have e : m = 0 := by have : (m : Int) = 0 := ‹_›; omega
    subst e
    rw [Nat.gcd_zero_right] at hg
    subst hg
    exact g0
  · have e : m = 0 := by have : (m : Int) = 0 := ‹_›; omega
    subst e
    rw [Nat.gcd_zero_right] at hg
    subst hg
    exact g0
  · have e : m = 0 := by have : (m : Int) = 0 := ‹_›; omega
    subst e
    rw [Nat.gcd_zero_right] at hg
    subst hg
    refine ⟨M', Sub.refl M', ?_⟩
    rw [← (fr_divInt_neg ‹b < 0›).2]; exact h
  · have e : m = 0 := by have : (m : Int) = 0 := ‹_›; omega
    subst e
    rw [Nat.gcd_zero_right] at hg
    subst hg
    exact g0
  · have e : m = 0 := by have : (m : Int) = 0 := ‹_›; omega
    subst e
    rw [Nat.gcd_zero_right] at hg
    subst hg
    exact g0
  · have e : m = 0 := by have : (m : Int) = 0 := ‹_›; omega
    subst e
    rw [Nat.gcd_zero_right] at hg
    subst hg
    refine ⟨M', Sub.refl M', ?_⟩
    rw [← fr_divInt_pos (by omega)]; exact h
theorem c__law_ratio {a b : Int} {M : Mp} {Q : DK} (hG : G "_law_ratio" = sp_ratio) (hb : b ≠ 0) (h : Q (fr (Rat.divInt a b)) M) : G "_law_ratio" [.int a, .int b] M Q := by rw [hG]; exact ⟨a, b, rfl, hb, h⟩

def p__law_whole : Ps := (.ret (.and (.isi (.var 0) .int) (.not (.truth (.isi (.var 0) .bool)))))
def sp__law_whole : DSp := fun ds M R => ∃ a : Int, ds = [.int a] ∧ R (.bl true) M
theorem ok__law_whole (ds M R) (h : sp__law_whole ds M R) : wBody G p__law_whole 1 ds M R := by
  obtain ⟨a, rfl, h⟩ := h
  unfold p__law_whole wBody
  repeat' (first | with_reducible refine z_isiI ?_ | with_reducible refine z_isiB ?_ | ((with_reducible refine e_var (d := ?_) ?_ ?_); rotate_left; exact rfl) | with_reducible refine e_cons ?_ | with_reducible refine x_tup ?_ | with_reducible refine e_nil ?_ | with_reducible refine e_int ?_ | with_reducible refine e_idx ?_ | with_reducible refine e_bin ?_ | with_reducible refine b_add ?_ | with_reducible refine b_sub ?_ | with_reducible refine b_mul ?_ ?_ | with_reducible refine i_fr0 ?_ | with_reducible refine i_fr1 ?_ | with_reducible refine e_call ?_ | with_reducible refine e_callK ?_ | with_reducible refine e_bi ?_ | with_reducible refine s_seq ?_ | with_reducible refine s_asg ?_ | with_reducible refine s_ret ?_ | with_reducible refine e_cmp ?_ | with_reducible refine c_eq ?_ | with_reducible refine c_ne ?_ | with_reducible refine c_lt ?_ | with_reducible refine c_le ?_ | with_reducible refine c_gt ?_ | with_reducible refine c_ge ?_ | with_reducible refine s_ife ?_ | with_reducible refine x_ifT ?_ | with_reducible refine x_ifF ?_ | with_reducible refine x_ifNT ?_ | with_reducible refine x_ifNF ?_ | with_reducible refine x_ifd (fun hc => ?_) (fun hc => ?_) | with_reducible refine x_ifn (fun hc => ?_) (fun hc => ?_) | with_reducible refine x_if (fun hc => ?_) (fun hc => ?_) | with_reducible refine s_skip ?_ | with_reducible refine s_expr ?_ | with_reducible refine e_mt ?_ | with_reducible refine b_div ?_ ?_ | with_reducible refine b_mod ?_ ?_ | with_reducible refine b_pow ?_ ?_ | with_reducible refine e_tup ?_ | with_reducible refine x_len (by simp only [List.length_cons, List.length_nil]; decide) ?_ | with_reducible refine e_neg ?_ | with_reducible refine x_int ?_ | with_reducible refine e_bl ?_ | with_reducible refine e_non ?_ | with_reducible refine e_str ?_ | with_reducible refine e_and ?_ | with_reducible refine e_or ?_ | with_reducible refine e_not ?_ | with_reducible refine e_truth ?_ | with_reducible refine x_bl ?_ | with_reducible refine t_bl ?_ | with_reducible refine t_int ?_ | with_reducible refine t_tup ?_ | with_reducible refine t_non ?_ | with_reducible refine e_ife ?_ | with_reducible refine e_isi ?_ | with_reducible refine f_abs ?_ | with_reducible refine f_int ?_ | with_reducible refine f_gcd ?_ | with_reducible refine f_max ?_ | with_reducible refine f_min ?_ | with_reducible refine f_tupT ?_ | with_reducible refine s_for ?_ | with_reducible refine w_rng ?_ | with_reducible refine x_rng ?_ ?_ | with_reducible refine w_it ?_ | with_reducible refine x_itT ?_ | with_reducible refine s_while ?_ | with_reducible refine e_lst ?_ | with_reducible refine e_cut ?_ | with_reducible refine e_absent ?_ | with_reducible refine e_asInt ?_ | with_reducible refine x_pI ?_ | with_reducible refine x_pN ?_ | with_reducible refine e_chain ?_ | with_reducible refine e_comp ?_ | with_reducible refine e_tcomp ?_ | with_reducible refine s_brk ?_ | with_reducible refine s_cont ?_ | ((with_reducible refine m_app (ds := ?_) ?_ ?_); rotate_left; (focus ((repeat (first | exact put_same | assumption | refine put_old ?_ (by assumption))); done))) | ((with_reducible refine m_app2 (ds := ?_) ?_ ?_ ?_); rotate_left; (focus ((repeat (first | exact put_same | assumption | refine put_old ?_ (by assumption))); done))) | ((with_reducible refine z_leniL (qs := ?_) ?_ ?_); rotate_left; first | exact Or.inl put_same | assumption | exact Or.inl (by assumption) | (refine Or.inl ?_; (focus ((repeat (first | exact put_same | assumption | refine put_old ?_ (by assumption))); done))) | exact listAt_put (by assumption) (by assumption) | exact listAt_sub (by assumption) (by assumption)) | ((with_reducible refine z_lenfL (qs := ?_) ?_ ?_); rotate_left; first | exact Or.inl put_same | assumption | exact Or.inl (by assumption) | (refine Or.inl ?_; (focus ((repeat (first | exact put_same | assumption | refine put_old ?_ (by assumption))); done))) | exact listAt_put (by assumption) (by assumption) | exact listAt_sub (by assumption) (by assumption)) | ((with_reducible refine f_lenL (ds := ?_) ?_ ?_); rotate_left; first | exact Or.inl put_same | assumption | exact Or.inl (by assumption) | (refine Or.inl ?_; (focus ((repeat (first | exact put_same | assumption | refine put_old ?_ (by assumption))); done))) | exact listAt_put (by assumption) (by assumption) | exact listAt_sub (by assumption) (by assumption)) | ((with_reducible refine i_iL (ns := ?_) ?_ ?_ ?_); rotate_left; first | exact Or.inl put_same | assumption | exact Or.inl (by assumption) | (refine Or.inl ?_; (focus ((repeat (first | exact put_same | assumption | refine put_old ?_ (by assumption))); done))) | exact listAt_put (by assumption) (by assumption) | exact listAt_sub (by assumption) (by assumption)) | ((with_reducible refine i_fL (ns := ?_) ?_ ?_ ?_); rotate_left; first | exact Or.inl put_same | assumption | exact Or.inl (by assumption) | (refine Or.inl ?_; (focus ((repeat (first | exact put_same | assumption | refine put_old ?_ (by assumption))); done))) | exact listAt_put (by assumption) (by assumption) | exact listAt_sub (by assumption) (by assumption)) | ((with_reducible refine f_tupL (ds := ?_) ?_ ?_); rotate_left; first | exact Or.inl put_same | assumption | exact Or.inl (by assumption) | (refine Or.inl ?_; (focus ((repeat (first | exact put_same | assumption | refine put_old ?_ (by assumption))); done))) | exact listAt_put (by assumption) (by assumption) | exact listAt_sub (by assumption) (by assumption)) | ((with_reducible refine x_itL (ds := ?_) ?_ ?_); rotate_left; first | exact Or.inl put_same | assumption | exact Or.inl (by assumption) | (refine Or.inl ?_; (focus ((repeat (first | exact put_same | assumption | refine put_old ?_ (by assumption))); done))) | exact listAt_put (by assumption) (by assumption) | exact listAt_sub (by assumption) (by assumption)) | with_reducible refine x_new (fun r nr => ?_) | ((with_reducible refine b_lst (ds := ?_) (es := ?_) ?_ ?_ ?_ ?_); rotate_left 2; (focus ((repeat (first | exact put_same | assumption | refine put_old ?_ (by assumption))); done)); (focus ((repeat (first | exact put_same | assumption | refine put_old ?_ (by assumption))); done))) | ((with_reducible refine b_rep (ds := ?_) ?_ ?_ ?_); rotate_left; (focus ((repeat (first | exact put_same | assumption | refine put_old ?_ (by assumption))); done))) | with_reducible refine f_lstT ?_ | with_reducible refine b_tup ?_ ?_ | with_reducible refine z_lenfT ?_ | with_reducible refine f_lenT ?_ | with_reducible refine i_fT ?_ ?_ | with_reducible refine z_isiI ?_ | with_reducible refine z_isiB ?_ | with_reducible refine z_isiF ?_ | with_reducible refine z_isiT ?_ | with_reducible refine z_lenF ?_)
  exact ⟨M, Sub.refl M, h⟩
theorem c__law_whole {a : Int} {M : Mp} {Q : DK} (hG : G "_law_whole" = sp__law_whole) (h : Q (.bl true) M) : G "_law_whole" [.int a] M Q := by rw [hG]; exact ⟨a, rfl, h⟩

def p__law_is_ratio : Ps := (.seq (.ife (.or (.not (.truth (.isi (.var 0) .tuple))) (.cmp .NotEq (.bi .len (.cons (.var 0) .nil)) (.int 2)))
    (.ret (.bl false))
    .skip)
  (.seq (.ife (.or (.not (.truth (.call "_law_whole" (.cons (.idx (.var 0) (.int 0)) .nil)))) (.or (.not (.truth (.call "_law_whole" (.cons (.idx (.var 0) (.int 1)) .nil)))) (.cmp .Lt (.idx (.var 0) (.int 1)) (.int 1))))
    (.ret (.bl false))
    .skip)
  (.ret (.cmp .Eq (.call "_law_ratio" (.cons (.idx (.var 0) (.int 0)) (.cons (.idx (.var 0) (.int 1)) .nil))) (.tup (.cons (.idx (.var 0) (.int 0)) (.cons (.idx (.var 0) (.int 1)) .nil)))))))
def sp__law_is_ratio : DSp := fun ds M R => ∃ q : Rat, ds = [fr q] ∧ R (.bl true) M
theorem ok__law_is_ratio (h1 : G "_law_whole" = sp__law_whole) (h2 : G "_law_ratio" = sp_ratio) (ds M R) (h : sp__law_is_ratio ds M R) : wBody G p__law_is_ratio 1 ds M R := by
  obtain ⟨q, rfl, h⟩ := h
  have hd := den_pos q
  unfold p__law_is_ratio wBody
  repeat' (first | with_reducible refine c__law_whole h1 ?_ | with_reducible refine c__law_ratio h2 ?_ ?_ | with_reducible refine z_isiF ?_ | with_reducible refine z_lenF ?_ | ((with_reducible refine e_var (d := ?_) ?_ ?_); rotate_left; exact rfl) | with_reducible refine e_cons ?_ | with_reducible refine x_tup ?_ | with_reducible refine e_nil ?_ | with_reducible refine e_int ?_ | with_reducible refine e_idx ?_ | with_reducible refine e_bin ?_ | with_reducible refine b_add ?_ | with_reducible refine b_sub ?_ | with_reducible refine b_mul ?_ ?_ | with_reducible refine i_fr0 ?_ | with_reducible refine i_fr1 ?_ | with_reducible refine e_call ?_ | with_reducible refine e_callK ?_ | with_reducible refine e_bi ?_ | with_reducible refine s_seq ?_ | with_reducible refine s_asg ?_ | with_reducible refine s_ret ?_ | with_reducible refine e_cmp ?_ | with_reducible refine c_eq ?_ | with_reducible refine c_ne ?_ | with_reducible refine c_lt ?_ | with_reducible refine c_le ?_ | with_reducible refine c_gt ?_ | with_reducible refine c_ge ?_ | with_reducible refine s_ife ?_ | with_reducible refine x_ifT ?_ | with_reducible refine x_ifF ?_ | with_reducible refine x_ifNT ?_ | with_reducible refine x_ifNF ?_ | with_reducible refine x_ifd (fun hc => ?_) (fun hc => ?_) | with_reducible refine x_ifn (fun hc => ?_) (fun hc => ?_) | with_reducible refine x_if (fun hc => ?_) (fun hc => ?_) | with_reducible refine s_skip ?_ | with_reducible refine s_expr ?_ | with_reducible refine e_mt ?_ | with_reducible refine b_div ?_ ?_ | with_reducible refine b_mod ?_ ?_ | with_reducible refine b_pow ?_ ?_ | with_reducible refine e_tup ?_ | with_reducible refine x_len (by simp only [List.length_cons, List.length_nil]; decide) ?_ | with_reducible refine e_neg ?_ | with_reducible refine x_int ?_ | with_reducible refine e_bl ?_ | with_reducible refine e_non ?_ | with_reducible refine e_str ?_ | with_reducible refine e_and ?_ | with_reducible refine e_or ?_ | with_reducible refine e_not ?_ | with_reducible refine e_truth ?_ | with_reducible refine x_bl ?_ | with_reducible refine t_bl ?_ | with_reducible refine t_int ?_ | with_reducible refine t_tup ?_ | with_reducible refine t_non ?_ | with_reducible refine e_ife ?_ | with_reducible refine e_isi ?_ | with_reducible refine f_abs ?_ | with_reducible refine f_int ?_ | with_reducible refine f_gcd ?_ | with_reducible refine f_max ?_ | with_reducible refine f_min ?_ | with_reducible refine f_tupT ?_ | with_reducible refine s_for ?_ | with_reducible refine w_rng ?_ | with_reducible refine x_rng ?_ ?_ | with_reducible refine w_it ?_ | with_reducible refine x_itT ?_ | with_reducible refine s_while ?_ | with_reducible refine e_lst ?_ | with_reducible refine e_cut ?_ | with_reducible refine e_absent ?_ | with_reducible refine e_asInt ?_ | with_reducible refine x_pI ?_ | with_reducible refine x_pN ?_ | with_reducible refine e_chain ?_ | with_reducible refine e_comp ?_ | with_reducible refine e_tcomp ?_ | with_reducible refine s_brk ?_ | with_reducible refine s_cont ?_ | ((with_reducible refine m_app (ds := ?_) ?_ ?_); rotate_left; (focus ((repeat (first | exact put_same | assumption | refine put_old ?_ (by assumption))); done))) | ((with_reducible refine m_app2 (ds := ?_) ?_ ?_ ?_); rotate_left; (focus ((repeat (first | exact put_same | assumption | refine put_old ?_ (by assumption))); done))) | ((with_reducible refine z_leniL (qs := ?_) ?_ ?_); rotate_left; first | exact Or.inl put_same | assumption | exact Or.inl (by assumption) | (refine Or.inl ?_; (focus ((repeat (first | exact put_same | assumption | refine put_old ?_ (by assumption))); done))) | exact listAt_put (by assumption) (by assumption) | exact listAt_sub (by assumption) (by assumption)) | ((with_reducible refine z_lenfL (qs := ?_) ?_ ?_); rotate_left; first | exact Or.inl put_same | assumption | exact Or.inl (by assumption) | (refine Or.inl ?_; (focus ((repeat (first | exact put_same | assumption | refine put_old ?_ (by assumption))); done))) | exact listAt_put (by assumption) (by assumption) | exact listAt_sub (by assumption) (by assumption)) | ((with_reducible refine f_lenL (ds := ?_) ?_ ?_); rotate_left; first | exact Or.inl put_same | assumption | exact Or.inl (by assumption) | (refine Or.inl ?_; (focus ((repeat (first | exact put_same | assumption | refine put_old ?_ (by assumption))); done))) | exact listAt_put (by assumption) (by assumption) | exact listAt_sub (by assumption) (by assumption)) | ((with_reducible refine i_iL (ns := ?_) ?_ ?_ ?_); rotate_left; first | exact Or.inl put_same | assumption | exact Or.inl (by assumption) | (refine Or.inl ?_; (focus ((repeat (first | exact put_same | assumption | refine put_old ?_ (by assumption))); done))) | exact listAt_put (by assumption) (by assumption) | exact listAt_sub (by assumption) (by assumption)) | ((with_reducible refine i_fL (ns := ?_) ?_ ?_ ?_); rotate_left; first | exact Or.inl put_same | assumption | exact Or.inl (by assumption) | (refine Or.inl ?_; (focus ((repeat (first | exact put_same | assumption | refine put_old ?_ (by assumption))); done))) | exact listAt_put (by assumption) (by assumption) | exact listAt_sub (by assumption) (by assumption)) | ((with_reducible refine f_tupL (ds := ?_) ?_ ?_); rotate_left; first | exact Or.inl put_same | assumption | exact Or.inl (by assumption) | (refine Or.inl ?_; (focus ((repeat (first | exact put_same | assumption | refine put_old ?_ (by assumption))); done))) | exact listAt_put (by assumption) (by assumption) | exact listAt_sub (by assumption) (by assumption)) | ((with_reducible refine x_itL (ds := ?_) ?_ ?_); rotate_left; first | exact Or.inl put_same | assumption | exact Or.inl (by assumption) | (refine Or.inl ?_; (focus ((repeat (first | exact put_same | assumption | refine put_old ?_ (by assumption))); done))) | exact listAt_put (by assumption) (by assumption) | exact listAt_sub (by assumption) (by assumption)) | with_reducible refine x_new (fun r nr => ?_) | ((with_reducible refine b_lst (ds := ?_) (es := ?_) ?_ ?_ ?_ ?_); rotate_left 2; (focus ((repeat (first | exact put_same | assumption | refine put_old ?_ (by assumption))); done)); (focus ((repeat (first | exact put_same | assumption | refine put_old ?_ (by assumption))); done))) | ((with_reducible refine b_rep (ds := ?_) ?_ ?_ ?_); rotate_left; (focus ((repeat (first | exact put_same | assumption | refine put_old ?_ (by assumption))); done))) | with_reducible refine f_lstT ?_ | with_reducible refine b_tup ?_ ?_ | with_reducible refine z_lenfT ?_ | with_reducible refine f_lenT ?_ | with_reducible refine i_fT ?_ ?_ | with_reducible refine z_isiI ?_ | with_reducible refine z_isiB ?_ | with_reducible refine z_isiF ?_ | with_reducible refine z_isiT ?_ | with_reducible refine z_lenF ?_)
  all_goals (try (exfalso; first | contradiction | omega))
  · exact den_ne q
  · rw [Rat.num_divInt_den]
    refine c_eqfr fun b hb => ⟨M, Sub.refl M, ?_⟩
    rw [hb.mpr rfl]; exact h
theorem c__law_is_ratio {q : Rat} {M : Mp} {Q : DK} (hG : G "_law_is_ratio" = sp__law_is_ratio) (h : Q (.bl true) M) : G "_law_is_ratio" [fr q] M Q := by rw [hG]; exact ⟨q, rfl, h⟩
end
end Pd

set_option maxHeartbeats 4000000
namespace Pd
open PySem PySem.Spec L2
section
variable {G : Str → DSp}
theorem getD_mem {ns : List Int} {i : Nat} (h : i < ns.length) : ns.getD i 0 ∈ ns := by
  rw [List.getD_eq_getElem?_getD, List.getElem?_eq_getElem h]
  exact List.getElem_mem _
theorem getD_memR {ns : List Rat} {i : Nat} (h : i < ns.length) : ns.getD i 0 ∈ ns := by
  rw [List.getD_eq_getElem?_getD, List.getElem?_eq_getElem h]
  exact List.getElem_mem _
theorem big_line {a : Nat} (h : a ≤ 1000000) : a < sizeLine := by
  have : (1000000 : Nat) < sizeLine := by decide
  omega
def p__law_cell : Ps := (.seq (.ife (.cmp .Lt (.var 1) (.bi .len (.cons (.var 0) .nil)))
    (.ret (.idx (.var 0) (.var 1)))
    .skip)
  (.seq (.asg [2] true (.int 17))
  (.seq (.for [3] true (.itE (.var 0))
    (.asg [2] true (.bin .Mod (.bi .int (.cons (.bin .Add (.bin .Mult (.var 2) (.int 31)) (.bin .Mod (.bi .int (.cons (.var 3) .nil)) (.int 1000003))) .nil)) (.int 1000003))))
  (.ret (.bin .Mod (.bi .int (.cons (.bin .Mult (.bin .Mult (.bin .Add (.var 2) (.int 7)) (.bin .Add (.var 1) (.int 3))) (.int 69621)) .nil)) (.int 2147483647))))))
/-- a cell of the script: any int of B bits -/
def sp__law_cell (B : Nat) : DSp := fun ds M R => ∃ (u : Addr) (ns : List Int) (k : Int), ds = [.ref u, .int k] ∧ listAt M u (iL ns) ∧ (∀ z ∈ ns, Bd B z) ∧ (0 ≤ k ∧ k < 1000000) ∧ 31 ≤ B ∧ ∀ c : Int, Bd B c → R (.int c) M
theorem ok__law_cell {B : Nat} (ds M R) (h : sp__law_cell B ds M R) : wBody G p__law_cell 4 ds M R := by
  obtain ⟨u, ns, k, rfl, hl, hb, hk, hB, h⟩ := h
  unfold p__law_cell wBody
  repeat' (first | ((with_reducible refine e_var (d := ?_) ?_ ?_); rotate_left; exact rfl) | with_reducible refine e_cons ?_ | with_reducible refine x_tup ?_ | with_reducible refine e_nil ?_ | with_reducible refine e_int ?_ | with_reducible refine e_idx ?_ | with_reducible refine e_bin ?_ | with_reducible refine b_add ?_ | with_reducible refine b_sub ?_ | with_reducible refine b_mul ?_ ?_ | with_reducible refine i_fr0 ?_ | with_reducible refine i_fr1 ?_ | with_reducible refine e_call ?_ | with_reducible refine e_callK ?_ | with_reducible refine e_bi ?_ | with_reducible refine s_seq ?_ | with_reducible refine s_asg ?_ | with_reducible refine s_ret ?_ | with_reducible refine e_cmp ?_ | with_reducible refine c_eq ?_ | with_reducible refine c_ne ?_ | with_reducible refine c_lt ?_ | with_reducible refine c_le ?_ | with_reducible refine c_gt ?_ | with_reducible refine c_ge ?_ | with_reducible refine s_ife ?_ | with_reducible refine x_ifT ?_ | with_reducible refine x_ifF ?_ | with_reducible refine x_ifNT ?_ | with_reducible refine x_ifNF ?_ | with_reducible refine x_ifd (fun hc => ?_) (fun hc => ?_) | with_reducible refine x_ifn (fun hc => ?_) (fun hc => ?_) | with_reducible refine x_if (fun hc => ?_) (fun hc => ?_) | with_reducible refine s_skip ?_ | with_reducible refine s_expr ?_ | with_reducible refine e_mt ?_ | with_reducible refine b_div ?_ ?_ | with_reducible refine b_mod ?_ ?_ | with_reducible refine b_pow ?_ ?_ | with_reducible refine e_tup ?_ | with_reducible refine x_len (by simp only [List.length_cons, List.length_nil]; decide) ?_ | with_reducible refine e_neg ?_ | with_reducible refine x_int ?_ | with_reducible refine e_bl ?_ | with_reducible refine e_non ?_ | with_reducible refine e_str ?_ | with_reducible refine e_and ?_ | with_reducible refine e_or ?_ | with_reducible refine e_not ?_ | with_reducible refine e_truth ?_ | with_reducible refine x_bl ?_ | with_reducible refine t_bl ?_ | with_reducible refine t_int ?_ | with_reducible refine t_tup ?_ | with_reducible refine t_non ?_ | with_reducible refine e_ife ?_ | with_reducible refine e_isi ?_ | with_reducible refine f_abs ?_ | with_reducible refine f_int ?_ | with_reducible refine f_gcd ?_ | with_reducible refine f_max ?_ | with_reducible refine f_min ?_ | with_reducible refine f_tupT ?_ | with_reducible refine s_for ?_ | with_reducible refine w_rng ?_ | with_reducible refine x_rng ?_ ?_ | with_reducible refine w_it ?_ | with_reducible refine x_itT ?_ | with_reducible refine s_while ?_ | with_reducible refine e_lst ?_ | with_reducible refine e_cut ?_ | with_reducible refine e_absent ?_ | with_reducible refine e_asInt ?_ | with_reducible refine x_pI ?_ | with_reducible refine x_pN ?_ | with_reducible refine e_chain ?_ | with_reducible refine e_comp ?_ | with_reducible refine e_tcomp ?_ | with_reducible refine s_brk ?_ | with_reducible refine s_cont ?_ | ((with_reducible refine m_app (ds := ?_) ?_ ?_); rotate_left; (focus ((repeat (first | exact put_same | assumption | refine put_old ?_ (by assumption))); done))) | ((with_reducible refine m_app2 (ds := ?_) ?_ ?_ ?_); rotate_left; (focus ((repeat (first | exact put_same | assumption | refine put_old ?_ (by assumption))); done))) | ((with_reducible refine z_leniL (qs := ?_) ?_ ?_); rotate_left; first | exact Or.inl put_same | assumption | exact Or.inl (by assumption) | (refine Or.inl ?_; (focus ((repeat (first | exact put_same | assumption | refine put_old ?_ (by assumption))); done))) | exact listAt_put (by assumption) (by assumption) | exact listAt_sub (by assumption) (by assumption)) | ((with_reducible refine z_lenfL (qs := ?_) ?_ ?_); rotate_left; first | exact Or.inl put_same | assumption | exact Or.inl (by assumption) | (refine Or.inl ?_; (focus ((repeat (first | exact put_same | assumption | refine put_old ?_ (by assumption))); done))) | exact listAt_put (by assumption) (by assumption) | exact listAt_sub (by assumption) (by assumption)) | ((with_reducible refine f_lenL (ds := ?_) ?_ ?_); rotate_left; first | exact Or.inl put_same | assumption | exact Or.inl (by assumption) | (refine Or.inl ?_; (focus ((repeat (first | exact put_same | assumption | refine put_old ?_ (by assumption))); done))) | exact listAt_put (by assumption) (by assumption) | exact listAt_sub (by assumption) (by assumption)) | ((with_reducible refine i_iL (ns := ?_) ?_ ?_ ?_); rotate_left; first | exact Or.inl put_same | assumption | exact Or.inl (by assumption) | (refine Or.inl ?_; (focus ((repeat (first | exact put_same | assumption | refine put_old ?_ (by assumption))); done))) | exact listAt_put (by assumption) (by assumption) | exact listAt_sub (by assumption) (by assumption)) | ((with_reducible refine i_fL (ns := ?_) ?_ ?_ ?_); rotate_left; first | exact Or.inl put_same | assumption | exact Or.inl (by assumption) | (refine Or.inl ?_; (focus ((repeat (first | exact put_same | assumption | refine put_old ?_ (by assumption))); done))) | exact listAt_put (by assumption) (by assumption) | exact listAt_sub (by assumption) (by assumption)) | ((with_reducible refine f_tupL (ds := ?_) ?_ ?_); rotate_left; first | exact Or.inl put_same | assumption | exact Or.inl (by assumption) | (refine Or.inl ?_; (focus ((repeat (first | exact put_same | assumption | refine put_old ?_ (by assumption))); done))) | exact listAt_put (by assumption) (by assumption) | exact listAt_sub (by assumption) (by assumption)) | ((with_reducible refine x_itL (ds := ?_) ?_ ?_); rotate_left; first | exact Or.inl put_same | assumption | exact Or.inl (by assumption) | (refine Or.inl ?_; (focus ((repeat (first | exact put_same | assumption | refine put_old ?_ (by assumption))); done))) | exact listAt_put (by assumption) (by assumption) | exact listAt_sub (by assumption) (by assumption)) | with_reducible refine x_new (fun r nr => ?_) | ((with_reducible refine b_lst (ds := ?_) (es := ?_) ?_ ?_ ?_ ?_); rotate_left 2; (focus ((repeat (first | exact put_same | assumption | refine put_old ?_ (by assumption))); done)); (focus ((repeat (first | exact put_same | assumption | refine put_old ?_ (by assumption))); done))) | ((with_reducible refine b_rep (ds := ?_) ?_ ?_ ?_); rotate_left; (focus ((repeat (first | exact put_same | assumption | refine put_old ?_ (by assumption))); done))) | with_reducible refine f_lstT ?_ | with_reducible refine b_tup ?_ ?_ | with_reducible refine z_lenfT ?_ | with_reducible refine f_lenT ?_ | with_reducible refine i_fT ?_ ?_ | with_reducible refine z_isiI ?_ | with_reducible refine z_isiB ?_ | with_reducible refine z_isiF ?_ | with_reducible refine z_isiT ?_ | with_reducible refine z_lenF ?_)
  · omega
  · exact ⟨M, Sub.refl M, h _ (hb _ (getD_mem (by omega)))⟩
  · refine for_iL ns (fun i σ M' => M' = M ∧ ∃ (s : Int) (o : Option D), σ = [some (.ref u), some (.int k), some (.int s), o] ∧ 0 ≤ s ∧ s < 1000003) ⟨rfl, 17, none, rfl, by decide, by decide⟩ (fun i σ M' h => by rw [h.1]; exact hl) ?_ ?_
    · rintro i hi σ M' ⟨rfl, s, o, rfl, h0, h1⟩
      repeat' (first | ((with_reducible refine e_var (d := ?_) ?_ ?_); rotate_left; exact rfl) | with_reducible refine e_cons ?_ | with_reducible refine x_tup ?_ | with_reducible refine e_nil ?_ | with_reducible refine e_int ?_ | with_reducible refine e_idx ?_ | with_reducible refine e_bin ?_ | with_reducible refine b_add ?_ | with_reducible refine b_sub ?_ | with_reducible refine b_mul ?_ ?_ | with_reducible refine i_fr0 ?_ | with_reducible refine i_fr1 ?_ | with_reducible refine e_call ?_ | with_reducible refine e_callK ?_ | with_reducible refine e_bi ?_ | with_reducible refine s_seq ?_ | with_reducible refine s_asg ?_ | with_reducible refine s_ret ?_ | with_reducible refine e_cmp ?_ | with_reducible refine c_eq ?_ | with_reducible refine c_ne ?_ | with_reducible refine c_lt ?_ | with_reducible refine c_le ?_ | with_reducible refine c_gt ?_ | with_reducible refine c_ge ?_ | with_reducible refine s_ife ?_ | with_reducible refine x_ifT ?_ | with_reducible refine x_ifF ?_ | with_reducible refine x_ifNT ?_ | with_reducible refine x_ifNF ?_ | with_reducible refine x_ifd (fun hc => ?_) (fun hc => ?_) | with_reducible refine x_ifn (fun hc => ?_) (fun hc => ?_) | with_reducible refine x_if (fun hc => ?_) (fun hc => ?_) | with_reducible refine s_skip ?_ | with_reducible refine s_expr ?_ | with_reducible refine e_mt ?_ | with_reducible refine b_div ?_ ?_ | with_reducible refine b_mod ?_ ?_ | with_reducible refine b_pow ?_ ?_ | with_reducible refine e_tup ?_ | with_reducible refine x_len (by simp only [List.length_cons, List.length_nil]; decide) ?_ | with_reducible refine e_neg ?_ | with_reducible refine x_int ?_ | with_reducible refine e_bl ?_ | with_reducible refine e_non ?_ | with_reducible refine e_str ?_ | with_reducible refine e_and ?_ | with_reducible refine e_or ?_ | with_reducible refine e_not ?_ | with_reducible refine e_truth ?_ | with_reducible refine x_bl ?_ | with_reducible refine t_bl ?_ | with_reducible refine t_int ?_ | with_reducible refine t_tup ?_ | with_reducible refine t_non ?_ | with_reducible refine e_ife ?_ | with_reducible refine e_isi ?_ | with_reducible refine f_abs ?_ | with_reducible refine f_int ?_ | with_reducible refine f_gcd ?_ | with_reducible refine f_max ?_ | with_reducible refine f_min ?_ | with_reducible refine f_tupT ?_ | with_reducible refine s_for ?_ | with_reducible refine w_rng ?_ | with_reducible refine x_rng ?_ ?_ | with_reducible refine w_it ?_ | with_reducible refine x_itT ?_ | with_reducible refine s_while ?_ | with_reducible refine e_lst ?_ | with_reducible refine e_cut ?_ | with_reducible refine e_absent ?_ | with_reducible refine e_asInt ?_ | with_reducible refine x_pI ?_ | with_reducible refine x_pN ?_ | with_reducible refine e_chain ?_ | with_reducible refine e_comp ?_ | with_reducible refine e_tcomp ?_ | with_reducible refine s_brk ?_ | with_reducible refine s_cont ?_ | ((with_reducible refine m_app (ds := ?_) ?_ ?_); rotate_left; (focus ((repeat (first | exact put_same | assumption | refine put_old ?_ (by assumption))); done))) | ((with_reducible refine m_app2 (ds := ?_) ?_ ?_ ?_); rotate_left; (focus ((repeat (first | exact put_same | assumption | refine put_old ?_ (by assumption))); done))) | ((with_reducible refine z_leniL (qs := ?_) ?_ ?_); rotate_left; first | exact Or.inl put_same | assumption | exact Or.inl (by assumption) | (refine Or.inl ?_; (focus ((repeat (first | exact put_same | assumption | refine put_old ?_ (by assumption))); done))) | exact listAt_put (by assumption) (by assumption) | exact listAt_sub (by assumption) (by assumption)) | ((with_reducible refine z_lenfL (qs := ?_) ?_ ?_); rotate_left; first | exact Or.inl put_same | assumption | exact Or.inl (by assumption) | (refine Or.inl ?_; (focus ((repeat (first | exact put_same | assumption | refine put_old ?_ (by assumption))); done))) | exact listAt_put (by assumption) (by assumption) | exact listAt_sub (by assumption) (by assumption)) | ((with_reducible refine f_lenL (ds := ?_) ?_ ?_); rotate_left; first | exact Or.inl put_same | assumption | exact Or.inl (by assumption) | (refine Or.inl ?_; (focus ((repeat (first | exact put_same | assumption | refine put_old ?_ (by assumption))); done))) | exact listAt_put (by assumption) (by assumption) | exact listAt_sub (by assumption) (by assumption)) | ((with_reducible refine i_iL (ns := ?_) ?_ ?_ ?_); rotate_left; first | exact Or.inl put_same | assumption | exact Or.inl (by assumption) | (refine Or.inl ?_; (focus ((repeat (first | exact put_same | assumption | refine put_old ?_ (by assumption))); done))) | exact listAt_put (by assumption) (by assumption) | exact listAt_sub (by assumption) (by assumption)) | ((with_reducible refine i_fL (ns := ?_) ?_ ?_ ?_); rotate_left; first | exact Or.inl put_same | assumption | exact Or.inl (by assumption) | (refine Or.inl ?_; (focus ((repeat (first | exact put_same | assumption | refine put_old ?_ (by assumption))); done))) | exact listAt_put (by assumption) (by assumption) | exact listAt_sub (by assumption) (by assumption)) | ((with_reducible refine f_tupL (ds := ?_) ?_ ?_); rotate_left; first | exact Or.inl put_same | assumption | exact Or.inl (by assumption) | (refine Or.inl ?_; (focus ((repeat (first | exact put_same | assumption | refine put_old ?_ (by assumption))); done))) | exact listAt_put (by assumption) (by assumption) | exact listAt_sub (by assumption) (by assumption)) | ((with_reducible refine x_itL (ds := ?_) ?_ ?_); rotate_left; first | exact Or.inl put_same | assumption | exact Or.inl (by assumption) | (refine Or.inl ?_; (focus ((repeat (first | exact put_same | assumption | refine put_old ?_ (by assumption))); done))) | exact listAt_put (by assumption) (by assumption) | exact listAt_sub (by assumption) (by assumption)) | with_reducible refine x_new (fun r nr => ?_) | ((with_reducible refine b_lst (ds := ?_) (es := ?_) ?_ ?_ ?_ ?_); rotate_left 2; (focus ((repeat (first | exact put_same | assumption | refine put_old ?_ (by assumption))); done)); (focus ((repeat (first | exact put_same | assumption | refine put_old ?_ (by assumption))); done))) | ((with_reducible refine b_rep (ds := ?_) ?_ ?_ ?_); rotate_left; (focus ((repeat (first | exact put_same | assumption | refine put_old ?_ (by assumption))); done))) | with_reducible refine f_lstT ?_ | with_reducible refine b_tup ?_ ?_ | with_reducible refine z_lenfT ?_ | with_reducible refine f_lenT ?_ | with_reducible refine i_fT ?_ ?_ | with_reducible refine z_isiI ?_ | with_reducible refine z_isiB ?_ | with_reducible refine z_isiF ?_ | with_reducible refine z_isiT ?_ | with_reducible refine z_lenF ?_)
      · exact (Bd.of_lt (n := 20) h0 (by omega)).mulOk (m := 5) (by decide) (by decide)
      · decide
      · decide
      · exact ⟨M', Sub.refl M', rfl, _, _, rfl, Int.fmod_nonneg_of_pos _ (by decide), Int.fmod_lt_of_pos _ (by decide)⟩
    · rintro σ M' ⟨rfl, s, o, rfl, h0, h1⟩
      have b1 : Bd 21 (s + 7) := Bd.of_lt (by omega) (by omega)
      have b2 : Bd 21 (k + 3) := Bd.of_lt (by omega) (by omega)
      repeat' (first | ((with_reducible refine e_var (d := ?_) ?_ ?_); rotate_left; exact rfl) | with_reducible refine e_cons ?_ | with_reducible refine x_tup ?_ | with_reducible refine e_nil ?_ | with_reducible refine e_int ?_ | with_reducible refine e_idx ?_ | with_reducible refine e_bin ?_ | with_reducible refine b_add ?_ | with_reducible refine b_sub ?_ | with_reducible refine b_mul ?_ ?_ | with_reducible refine i_fr0 ?_ | with_reducible refine i_fr1 ?_ | with_reducible refine e_call ?_ | with_reducible refine e_callK ?_ | with_reducible refine e_bi ?_ | with_reducible refine s_seq ?_ | with_reducible refine s_asg ?_ | with_reducible refine s_ret ?_ | with_reducible refine e_cmp ?_ | with_reducible refine c_eq ?_ | with_reducible refine c_ne ?_ | with_reducible refine c_lt ?_ | with_reducible refine c_le ?_ | with_reducible refine c_gt ?_ | with_reducible refine c_ge ?_ | with_reducible refine s_ife ?_ | with_reducible refine x_ifT ?_ | with_reducible refine x_ifF ?_ | with_reducible refine x_ifNT ?_ | with_reducible refine x_ifNF ?_ | with_reducible refine x_ifd (fun hc => ?_) (fun hc => ?_) | with_reducible refine x_ifn (fun hc => ?_) (fun hc => ?_) | with_reducible refine x_if (fun hc => ?_) (fun hc => ?_) | with_reducible refine s_skip ?_ | with_reducible refine s_expr ?_ | with_reducible refine e_mt ?_ | with_reducible refine b_div ?_ ?_ | with_reducible refine b_mod ?_ ?_ | with_reducible refine b_pow ?_ ?_ | with_reducible refine e_tup ?_ | with_reducible refine x_len (by simp only [List.length_cons, List.length_nil]; decide) ?_ | with_reducible refine e_neg ?_ | with_reducible refine x_int ?_ | with_reducible refine e_bl ?_ | with_reducible refine e_non ?_ | with_reducible refine e_str ?_ | with_reducible refine e_and ?_ | with_reducible refine e_or ?_ | with_reducible refine e_not ?_ | with_reducible refine e_truth ?_ | with_reducible refine x_bl ?_ | with_reducible refine t_bl ?_ | with_reducible refine t_int ?_ | with_reducible refine t_tup ?_ | with_reducible refine t_non ?_ | with_reducible refine e_ife ?_ | with_reducible refine e_isi ?_ | with_reducible refine f_abs ?_ | with_reducible refine f_int ?_ | with_reducible refine f_gcd ?_ | with_reducible refine f_max ?_ | with_reducible refine f_min ?_ | with_reducible refine f_tupT ?_ | with_reducible refine s_for ?_ | with_reducible refine w_rng ?_ | with_reducible refine x_rng ?_ ?_ | with_reducible refine w_it ?_ | with_reducible refine x_itT ?_ | with_reducible refine s_while ?_ | with_reducible refine e_lst ?_ | with_reducible refine e_cut ?_ | with_reducible refine e_absent ?_ | with_reducible refine e_asInt ?_ | with_reducible refine x_pI ?_ | with_reducible refine x_pN ?_ | with_reducible refine e_chain ?_ | with_reducible refine e_comp ?_ | with_reducible refine e_tcomp ?_ | with_reducible refine s_brk ?_ | with_reducible refine s_cont ?_ | ((with_reducible refine m_app (ds := ?_) ?_ ?_); rotate_left; (focus ((repeat (first | exact put_same | assumption | refine put_old ?_ (by assumption))); done))) | ((with_reducible refine m_app2 (ds := ?_) ?_ ?_ ?_); rotate_left; (focus ((repeat (first | exact put_same | assumption | refine put_old ?_ (by assumption))); done))) | ((with_reducible refine z_leniL (qs := ?_) ?_ ?_); rotate_left; first | exact Or.inl put_same | assumption | exact Or.inl (by assumption) | (refine Or.inl ?_; (focus ((repeat (first | exact put_same | assumption | refine put_old ?_ (by assumption))); done))) | exact listAt_put (by assumption) (by assumption) | exact listAt_sub (by assumption) (by assumption)) | ((with_reducible refine z_lenfL (qs := ?_) ?_ ?_); rotate_left; first | exact Or.inl put_same | assumption | exact Or.inl (by assumption) | (refine Or.inl ?_; (focus ((repeat (first | exact put_same | assumption | refine put_old ?_ (by assumption))); done))) | exact listAt_put (by assumption) (by assumption) | exact listAt_sub (by assumption) (by assumption)) | ((with_reducible refine f_lenL (ds := ?_) ?_ ?_); rotate_left; first | exact Or.inl put_same | assumption | exact Or.inl (by assumption) | (refine Or.inl ?_; (focus ((repeat (first | exact put_same | assumption | refine put_old ?_ (by assumption))); done))) | exact listAt_put (by assumption) (by assumption) | exact listAt_sub (by assumption) (by assumption)) | ((with_reducible refine i_iL (ns := ?_) ?_ ?_ ?_); rotate_left; first | exact Or.inl put_same | assumption | exact Or.inl (by assumption) | (refine Or.inl ?_; (focus ((repeat (first | exact put_same | assumption | refine put_old ?_ (by assumption))); done))) | exact listAt_put (by assumption) (by assumption) | exact listAt_sub (by assumption) (by assumption)) | ((with_reducible refine i_fL (ns := ?_) ?_ ?_ ?_); rotate_left; first | exact Or.inl put_same | assumption | exact Or.inl (by assumption) | (refine Or.inl ?_; (focus ((repeat (first | exact put_same | assumption | refine put_old ?_ (by assumption))); done))) | exact listAt_put (by assumption) (by assumption) | exact listAt_sub (by assumption) (by assumption)) | ((with_reducible refine f_tupL (ds := ?_) ?_ ?_); rotate_left; first | exact Or.inl put_same | assumption | exact Or.inl (by assumption) | (refine Or.inl ?_; (focus ((repeat (first | exact put_same | assumption | refine put_old ?_ (by assumption))); done))) | exact listAt_put (by assumption) (by assumption) | exact listAt_sub (by assumption) (by assumption)) | ((with_reducible refine x_itL (ds := ?_) ?_ ?_); rotate_left; first | exact Or.inl put_same | assumption | exact Or.inl (by assumption) | (refine Or.inl ?_; (focus ((repeat (first | exact put_same | assumption | refine put_old ?_ (by assumption))); done))) | exact listAt_put (by assumption) (by assumption) | exact listAt_sub (by assumption) (by assumption)) | with_reducible refine x_new (fun r nr => ?_) | ((with_reducible refine b_lst (ds := ?_) (es := ?_) ?_ ?_ ?_ ?_); rotate_left 2; (focus ((repeat (first | exact put_same | assumption | refine put_old ?_ (by assumption))); done)); (focus ((repeat (first | exact put_same | assumption | refine put_old ?_ (by assumption))); done))) | ((with_reducible refine b_rep (ds := ?_) ?_ ?_ ?_); rotate_left; (focus ((repeat (first | exact put_same | assumption | refine put_old ?_ (by assumption))); done))) | with_reducible refine f_lstT ?_ | with_reducible refine b_tup ?_ ?_ | with_reducible refine z_lenfT ?_ | with_reducible refine f_lenT ?_ | with_reducible refine i_fT ?_ ?_ | with_reducible refine z_isiI ?_ | with_reducible refine z_isiB ?_ | with_reducible refine z_isiF ?_ | with_reducible refine z_isiT ?_ | with_reducible refine z_lenF ?_)
      · exact b1.mulOk b2 (by decide)
      · exact (b1.mul b2).mulOk (m := 17) (by decide) (by decide)
      · decide
      · refine ⟨M', Sub.refl M', h _ ?_⟩
        refine Bd.mono (n := 31) (Bd.of_lt (Int.fmod_nonneg_of_pos _ (by decide)) ?_) hB
        have := Int.fmod_lt_of_pos ((s + 7) * (k + 3) * 69621) (b := 2147483647) (by decide)
        omega
theorem c__law_cell {B : Nat} {u : Addr} {ns : List Int} {k : Int} {M : Mp} {Q : DK} (hG : G "_law_cell" = sp__law_cell B) (hl : listAt M u (iL ns)) (hb : ∀ z ∈ ns, Bd B z) (hk : 0 ≤ k ∧ k < 1000000) (hB : 31 ≤ B) (h : ∀ c : Int, Bd B c → Q (.int c) M) : G "_law_cell" [.ref u, .int k] M Q := by
  rw [hG]
  exact ⟨u, ns, k, rfl, hl, hb, hk, hB, h⟩

def p__law_digits : Ps := (.seq (.asg [2] true (.lst .nil))
  (.seq (.asg [3] true (.bi .int (.cons (.var 0) .nil)))
  (.seq (.ife (.cmp .GtE (.var 3) (.bin .Pow (.int 10) (.int 18)))
    (.seq (.asg [3] true (.bin .Sub (.var 3) (.bin .Pow (.int 10) (.int 18))))
    (.seq (.for [4] true (.itE (.var 1))
      (.seq (.expr (.mt .append (.var 2) (.cons (.bin .Mod (.bi .int (.cons (.var 3) .nil)) (.var 4)) .nil)))
      (.asg [3] true (.bin .FloorDiv (.bi .int (.cons (.var 3) .nil)) (.var 4)))))
    (.ret (.var 2))))
    .skip)
  (.seq (.asg [5] true (.bin .Mod (.bi .int (.cons (.var 3) .nil)) (.int 2147483629)))
  (.seq (.for [6] true (.rng (.int 0) (.bi .len (.cons (.var 1) .nil)))
    (.seq (.asg [5] true (.bin .Mod (.bi .int (.cons (.bin .Add (.bin .Add (.bin .Mult (.var 5) (.int 48271)) (.bin .Mult (.int 974711) (.var 6))) (.int 12345)) .nil)) (.int 2147483647)))
    (.seq (.asg [7] true (.bin .Mod (.bi .int (.cons (.bin .Mult (.var 5) (.bin .Add (.bin .FloorDiv (.var 5) (.int 65537)) (.int 3))) .nil)) (.int 2147483629)))
    (.expr (.mt .append (.var 2) (.cons (.bin .Mod (.bin .FloorDiv (.var 7) (.int 19)) (.idx (.var 1) (.var 6))) .nil))))))
  (.ret (.var 2)))))))
/-- digits below the sizes -/
def Digs (zs ns : List Int) : Prop := ns.length = zs.length ∧ ∀ i : Nat, i < zs.length → 0 ≤ ns.getD i 0 ∧ ns.getD i 0 < zs.getD i 0
theorem getD_take {zs : List Int} {i j : Nat} (h : j < i) : (zs.take i).getD j 0 = zs.getD j 0 := by
  rw [List.getD_eq_getElem?_getD, List.getD_eq_getElem?_getD, List.getElem?_take_of_lt h]
theorem getD_snocL {ns : List Int} {n : Int} {j : Nat} (h : j < ns.length) : (ns ++ [n]).getD j 0 = ns.getD j 0 := by
  rw [List.getD_eq_getElem?_getD, List.getD_eq_getElem?_getD, List.getElem?_append_left h]
theorem getD_snocR {ns : List Int} {n : Int} : (ns ++ [n]).getD ns.length 0 = n := by
  rw [List.getD_eq_getElem?_getD, List.getElem?_append_right (Nat.le_refl _)]; simp
theorem Digs.snoc {zs ns : List Int} {i : Nat} {n : Int} (h : Digs (zs.take i) ns) (hi : i < zs.length) (h0 : 0 ≤ n) (h1 : n < zs.getD i 0) : Digs (zs.take (i + 1)) (ns ++ [n]) := by
  obtain ⟨hl, hd⟩ := h
  rw [List.length_take] at hl
  have hl' : ns.length = i := by omega
  refine ⟨by rw [List.length_append, List.length_take]; simp; omega, fun j hj => ?_⟩
  rw [List.length_take] at hj
  rw [getD_take (by omega)]
  by_cases e : j < i
  · rw [getD_snocL (by omega)]
    have := hd j (by rw [List.length_take]; omega)
    rw [getD_take e] at this
    exact this
  · have e : j = i := by omega
    subst e
    rw [← hl', getD_snocR]
    rw [hl']
    exact ⟨h0, h1⟩
/-- a new list of digits -/
def sp__law_digits : DSp := fun ds M R => ∃ (c : Int) (u : Addr) (zs : List Int), ds = [.int c, .ref u] ∧ listAt M u (iL zs) ∧ zs.length ≤ 1000000 ∧ (∀ z ∈ zs, 0 < z) ∧ ∀ r ns, M r = none → Digs zs ns → R (.ref r) (put M r (.lst (iL ns)))
theorem ok__law_digits (ds M R) (h : sp__law_digits ds M R) : wBody G p__law_digits 8 ds M R := by
  obtain ⟨c, u, zs, rfl, hl, hz, hp, h⟩ := h
  unfold p__law_digits wBody
  repeat' (first | ((with_reducible refine e_var (d := ?_) ?_ ?_); rotate_left; exact rfl) | with_reducible refine e_cons ?_ | with_reducible refine x_tup ?_ | with_reducible refine e_nil ?_ | with_reducible refine e_int ?_ | with_reducible refine e_idx ?_ | with_reducible refine e_bin ?_ | with_reducible refine b_add ?_ | with_reducible refine b_sub ?_ | with_reducible refine b_mul ?_ ?_ | with_reducible refine i_fr0 ?_ | with_reducible refine i_fr1 ?_ | with_reducible refine e_call ?_ | with_reducible refine e_callK ?_ | with_reducible refine e_bi ?_ | with_reducible refine s_seq ?_ | with_reducible refine s_asg ?_ | with_reducible refine s_ret ?_ | with_reducible refine e_cmp ?_ | with_reducible refine c_eq ?_ | with_reducible refine c_ne ?_ | with_reducible refine c_lt ?_ | with_reducible refine c_le ?_ | with_reducible refine c_gt ?_ | with_reducible refine c_ge ?_ | with_reducible refine s_ife ?_ | with_reducible refine x_ifT ?_ | with_reducible refine x_ifF ?_ | with_reducible refine x_ifNT ?_ | with_reducible refine x_ifNF ?_ | with_reducible refine x_ifd (fun hc => ?_) (fun hc => ?_) | with_reducible refine x_ifn (fun hc => ?_) (fun hc => ?_) | with_reducible refine x_if (fun hc => ?_) (fun hc => ?_) | with_reducible refine s_skip ?_ | with_reducible refine s_expr ?_ | with_reducible refine e_mt ?_ | with_reducible refine b_div ?_ ?_ | with_reducible refine b_mod ?_ ?_ | with_reducible refine b_pow ?_ ?_ | with_reducible refine e_tup ?_ | with_reducible refine x_len (by simp only [List.length_cons, List.length_nil]; decide) ?_ | with_reducible refine e_neg ?_ | with_reducible refine x_int ?_ | with_reducible refine e_bl ?_ | with_reducible refine e_non ?_ | with_reducible refine e_str ?_ | with_reducible refine e_and ?_ | with_reducible refine e_or ?_ | with_reducible refine e_not ?_ | with_reducible refine e_truth ?_ | with_reducible refine x_bl ?_ | with_reducible refine t_bl ?_ | with_reducible refine t_int ?_ | with_reducible refine t_tup ?_ | with_reducible refine t_non ?_ | with_reducible refine e_ife ?_ | with_reducible refine e_isi ?_ | with_reducible refine f_abs ?_ | with_reducible refine f_int ?_ | with_reducible refine f_gcd ?_ | with_reducible refine f_max ?_ | with_reducible refine f_min ?_ | with_reducible refine f_tupT ?_ | with_reducible refine s_for ?_ | with_reducible refine w_rng ?_ | with_reducible refine x_rng ?_ ?_ | with_reducible refine w_it ?_ | with_reducible refine x_itT ?_ | with_reducible refine s_while ?_ | with_reducible refine e_lst ?_ | with_reducible refine e_cut ?_ | with_reducible refine e_absent ?_ | with_reducible refine e_asInt ?_ | with_reducible refine x_pI ?_ | with_reducible refine x_pN ?_ | with_reducible refine e_chain ?_ | with_reducible refine e_comp ?_ | with_reducible refine e_tcomp ?_ | with_reducible refine s_brk ?_ | with_reducible refine s_cont ?_ | ((with_reducible refine m_app (ds := ?_) ?_ ?_); rotate_left; (focus ((repeat (first | exact put_same | assumption | refine put_old ?_ (by assumption))); done))) | ((with_reducible refine m_app2 (ds := ?_) ?_ ?_ ?_); rotate_left; (focus ((repeat (first | exact put_same | assumption | refine put_old ?_ (by assumption))); done))) | ((with_reducible refine z_leniL (qs := ?_) ?_ ?_); rotate_left; first | exact Or.inl put_same | assumption | exact Or.inl (by assumption) | (refine Or.inl ?_; (focus ((repeat (first | exact put_same | assumption | refine put_old ?_ (by assumption))); done))) | exact listAt_put (by assumption) (by assumption) | exact listAt_sub (by assumption) (by assumption)) | ((with_reducible refine z_lenfL (qs := ?_) ?_ ?_); rotate_left; first | exact Or.inl put_same | assumption | exact Or.inl (by assumption) | (refine Or.inl ?_; (focus ((repeat (first | exact put_same | assumption | refine put_old ?_ (by assumption))); done))) | exact listAt_put (by assumption) (by assumption) | exact listAt_sub (by assumption) (by assumption)) | ((with_reducible refine f_lenL (ds := ?_) ?_ ?_); rotate_left; first | exact Or.inl put_same | assumption | exact Or.inl (by assumption) | (refine Or.inl ?_; (focus ((repeat (first | exact put_same | assumption | refine put_old ?_ (by assumption))); done))) | exact listAt_put (by assumption) (by assumption) | exact listAt_sub (by assumption) (by assumption)) | ((with_reducible refine i_iL (ns := ?_) ?_ ?_ ?_); rotate_left; first | exact Or.inl put_same | assumption | exact Or.inl (by assumption) | (refine Or.inl ?_; (focus ((repeat (first | exact put_same | assumption | refine put_old ?_ (by assumption))); done))) | exact listAt_put (by assumption) (by assumption) | exact listAt_sub (by assumption) (by assumption)) | ((with_reducible refine i_fL (ns := ?_) ?_ ?_ ?_); rotate_left; first | exact Or.inl put_same | assumption | exact Or.inl (by assumption) | (refine Or.inl ?_; (focus ((repeat (first | exact put_same | assumption | refine put_old ?_ (by assumption))); done))) | exact listAt_put (by assumption) (by assumption) | exact listAt_sub (by assumption) (by assumption)) | ((with_reducible refine f_tupL (ds := ?_) ?_ ?_); rotate_left; first | exact Or.inl put_same | assumption | exact Or.inl (by assumption) | (refine Or.inl ?_; (focus ((repeat (first | exact put_same | assumption | refine put_old ?_ (by assumption))); done))) | exact listAt_put (by assumption) (by assumption) | exact listAt_sub (by assumption) (by assumption)) | ((with_reducible refine x_itL (ds := ?_) ?_ ?_); rotate_left; first | exact Or.inl put_same | assumption | exact Or.inl (by assumption) | (refine Or.inl ?_; (focus ((repeat (first | exact put_same | assumption | refine put_old ?_ (by assumption))); done))) | exact listAt_put (by assumption) (by assumption) | exact listAt_sub (by assumption) (by assumption)) | with_reducible refine x_new (fun r nr => ?_) | ((with_reducible refine b_lst (ds := ?_) (es := ?_) ?_ ?_ ?_ ?_); rotate_left 2; (focus ((repeat (first | exact put_same | assumption | refine put_old ?_ (by assumption))); done)); (focus ((repeat (first | exact put_same | assumption | refine put_old ?_ (by assumption))); done))) | ((with_reducible refine b_rep (ds := ?_) ?_ ?_ ?_); rotate_left; (focus ((repeat (first | exact put_same | assumption | refine put_old ?_ (by assumption))); done))) | with_reducible refine f_lstT ?_ | with_reducible refine b_tup ?_ ?_ | with_reducible refine z_lenfT ?_ | with_reducible refine f_lenT ?_ | with_reducible refine i_fT ?_ ?_ | with_reducible refine z_isiI ?_ | with_reducible refine z_isiB ?_ | with_reducible refine z_isiF ?_ | with_reducible refine z_isiT ?_ | with_reducible refine z_lenF ?_)
  · decide
  · decide
  · have hlr : ∀ o, listAt (put M r o) u (iL zs) := fun o => listAt_put hl nr
    refine for_iL zs (fun i σ M' => ∃ (rest : Int) (ns : List Int) (o : Option D), M' = put M r (.lst (iL ns)) ∧ σ = [some (.int c), some (.ref u), some (.ref r), some (.int rest), o, none, none, none] ∧ Digs (zs.take i) ns)
      ⟨_, [], none, rfl, rfl, rfl, fun i h => by simp at h⟩ (fun i σ M' ⟨_, ns, _, h, _⟩ => by rw [h]; exact hlr _) ?_ ?_
    · rintro i hi σ M' ⟨rest, ns, o, rfl, rfl, hd⟩
      have hz0 := hp _ (getD_mem hi)
      have hln : ns.length ≤ i := by have := hd.1; rw [List.length_take] at this; omega
      repeat' (first | ((with_reducible refine e_var (d := ?_) ?_ ?_); rotate_left; exact rfl) | with_reducible refine e_cons ?_ | with_reducible refine x_tup ?_ | with_reducible refine e_nil ?_ | with_reducible refine e_int ?_ | with_reducible refine e_idx ?_ | with_reducible refine e_bin ?_ | with_reducible refine b_add ?_ | with_reducible refine b_sub ?_ | with_reducible refine b_mul ?_ ?_ | with_reducible refine i_fr0 ?_ | with_reducible refine i_fr1 ?_ | with_reducible refine e_call ?_ | with_reducible refine e_callK ?_ | with_reducible refine e_bi ?_ | with_reducible refine s_seq ?_ | with_reducible refine s_asg ?_ | with_reducible refine s_ret ?_ | with_reducible refine e_cmp ?_ | with_reducible refine c_eq ?_ | with_reducible refine c_ne ?_ | with_reducible refine c_lt ?_ | with_reducible refine c_le ?_ | with_reducible refine c_gt ?_ | with_reducible refine c_ge ?_ | with_reducible refine s_ife ?_ | with_reducible refine x_ifT ?_ | with_reducible refine x_ifF ?_ | with_reducible refine x_ifNT ?_ | with_reducible refine x_ifNF ?_ | with_reducible refine x_ifd (fun hc => ?_) (fun hc => ?_) | with_reducible refine x_ifn (fun hc => ?_) (fun hc => ?_) | with_reducible refine x_if (fun hc => ?_) (fun hc => ?_) | with_reducible refine s_skip ?_ | with_reducible refine s_expr ?_ | with_reducible refine e_mt ?_ | with_reducible refine b_div ?_ ?_ | with_reducible refine b_mod ?_ ?_ | with_reducible refine b_pow ?_ ?_ | with_reducible refine e_tup ?_ | with_reducible refine x_len (by simp only [List.length_cons, List.length_nil]; decide) ?_ | with_reducible refine e_neg ?_ | with_reducible refine x_int ?_ | with_reducible refine e_bl ?_ | with_reducible refine e_non ?_ | with_reducible refine e_str ?_ | with_reducible refine e_and ?_ | with_reducible refine e_or ?_ | with_reducible refine e_not ?_ | with_reducible refine e_truth ?_ | with_reducible refine x_bl ?_ | with_reducible refine t_bl ?_ | with_reducible refine t_int ?_ | with_reducible refine t_tup ?_ | with_reducible refine t_non ?_ | with_reducible refine e_ife ?_ | with_reducible refine e_isi ?_ | with_reducible refine f_abs ?_ | with_reducible refine f_int ?_ | with_reducible refine f_gcd ?_ | with_reducible refine f_max ?_ | with_reducible refine f_min ?_ | with_reducible refine f_tupT ?_ | with_reducible refine s_for ?_ | with_reducible refine w_rng ?_ | with_reducible refine x_rng ?_ ?_ | with_reducible refine w_it ?_ | with_reducible refine x_itT ?_ | with_reducible refine s_while ?_ | with_reducible refine e_lst ?_ | with_reducible refine e_cut ?_ | with_reducible refine e_absent ?_ | with_reducible refine e_asInt ?_ | with_reducible refine x_pI ?_ | with_reducible refine x_pN ?_ | with_reducible refine e_chain ?_ | with_reducible refine e_comp ?_ | with_reducible refine e_tcomp ?_ | with_reducible refine s_brk ?_ | with_reducible refine s_cont ?_ | ((with_reducible refine m_app (ds := ?_) ?_ ?_); rotate_left; (focus ((repeat (first | exact put_same | assumption | refine put_old ?_ (by assumption))); done))) | ((with_reducible refine m_app2 (ds := ?_) ?_ ?_ ?_); rotate_left; (focus ((repeat (first | exact put_same | assumption | refine put_old ?_ (by assumption))); done))) | ((with_reducible refine z_leniL (qs := ?_) ?_ ?_); rotate_left; first | exact Or.inl put_same | assumption | exact Or.inl (by assumption) | (refine Or.inl ?_; (focus ((repeat (first | exact put_same | assumption | refine put_old ?_ (by assumption))); done))) | exact listAt_put (by assumption) (by assumption) | exact listAt_sub (by assumption) (by assumption)) | ((with_reducible refine z_lenfL (qs := ?_) ?_ ?_); rotate_left; first | exact Or.inl put_same | assumption | exact Or.inl (by assumption) | (refine Or.inl ?_; (focus ((repeat (first | exact put_same | assumption | refine put_old ?_ (by assumption))); done))) | exact listAt_put (by assumption) (by assumption) | exact listAt_sub (by assumption) (by assumption)) | ((with_reducible refine f_lenL (ds := ?_) ?_ ?_); rotate_left; first | exact Or.inl put_same | assumption | exact Or.inl (by assumption) | (refine Or.inl ?_; (focus ((repeat (first | exact put_same | assumption | refine put_old ?_ (by assumption))); done))) | exact listAt_put (by assumption) (by assumption) | exact listAt_sub (by assumption) (by assumption)) | ((with_reducible refine i_iL (ns := ?_) ?_ ?_ ?_); rotate_left; first | exact Or.inl put_same | assumption | exact Or.inl (by assumption) | (refine Or.inl ?_; (focus ((repeat (first | exact put_same | assumption | refine put_old ?_ (by assumption))); done))) | exact listAt_put (by assumption) (by assumption) | exact listAt_sub (by assumption) (by assumption)) | ((with_reducible refine i_fL (ns := ?_) ?_ ?_ ?_); rotate_left; first | exact Or.inl put_same | assumption | exact Or.inl (by assumption) | (refine Or.inl ?_; (focus ((repeat (first | exact put_same | assumption | refine put_old ?_ (by assumption))); done))) | exact listAt_put (by assumption) (by assumption) | exact listAt_sub (by assumption) (by assumption)) | ((with_reducible refine f_tupL (ds := ?_) ?_ ?_); rotate_left; first | exact Or.inl put_same | assumption | exact Or.inl (by assumption) | (refine Or.inl ?_; (focus ((repeat (first | exact put_same | assumption | refine put_old ?_ (by assumption))); done))) | exact listAt_put (by assumption) (by assumption) | exact listAt_sub (by assumption) (by assumption)) | ((with_reducible refine x_itL (ds := ?_) ?_ ?_); rotate_left; first | exact Or.inl put_same | assumption | exact Or.inl (by assumption) | (refine Or.inl ?_; (focus ((repeat (first | exact put_same | assumption | refine put_old ?_ (by assumption))); done))) | exact listAt_put (by assumption) (by assumption) | exact listAt_sub (by assumption) (by assumption)) | with_reducible refine x_new (fun r nr => ?_) | ((with_reducible refine b_lst (ds := ?_) (es := ?_) ?_ ?_ ?_ ?_); rotate_left 2; (focus ((repeat (first | exact put_same | assumption | refine put_old ?_ (by assumption))); done)); (focus ((repeat (first | exact put_same | assumption | refine put_old ?_ (by assumption))); done))) | ((with_reducible refine b_rep (ds := ?_) ?_ ?_ ?_); rotate_left; (focus ((repeat (first | exact put_same | assumption | refine put_old ?_ (by assumption))); done))) | with_reducible refine f_lstT ?_ | with_reducible refine b_tup ?_ ?_ | with_reducible refine z_lenfT ?_ | with_reducible refine f_lenT ?_ | with_reducible refine i_fT ?_ ?_ | with_reducible refine z_isiI ?_ | with_reducible refine z_isiB ?_ | with_reducible refine z_isiF ?_ | with_reducible refine z_isiT ?_ | with_reducible refine z_lenF ?_)
      · omega
      · rw [iL_len]
        exact big_line (by omega)
      · omega
      · refine ⟨_, Sub.refl _, _, ns ++ [rest.fmod (zs.getD i 0)], _, ?_, rfl, hd.snoc hi (Int.fmod_nonneg_of_pos _ hz0) (Int.fmod_lt_of_pos _ hz0)⟩
        rw [put_put, iL_snoc]
    · rintro σ M' ⟨rest, ns, o, rfl, rfl, hd⟩
      repeat' (first | ((with_reducible refine e_var (d := ?_) ?_ ?_); rotate_left; exact rfl) | with_reducible refine e_cons ?_ | with_reducible refine x_tup ?_ | with_reducible refine e_nil ?_ | with_reducible refine e_int ?_ | with_reducible refine e_idx ?_ | with_reducible refine e_bin ?_ | with_reducible refine b_add ?_ | with_reducible refine b_sub ?_ | with_reducible refine b_mul ?_ ?_ | with_reducible refine i_fr0 ?_ | with_reducible refine i_fr1 ?_ | with_reducible refine e_call ?_ | with_reducible refine e_callK ?_ | with_reducible refine e_bi ?_ | with_reducible refine s_seq ?_ | with_reducible refine s_asg ?_ | with_reducible refine s_ret ?_ | with_reducible refine e_cmp ?_ | with_reducible refine c_eq ?_ | with_reducible refine c_ne ?_ | with_reducible refine c_lt ?_ | with_reducible refine c_le ?_ | with_reducible refine c_gt ?_ | with_reducible refine c_ge ?_ | with_reducible refine s_ife ?_ | with_reducible refine x_ifT ?_ | with_reducible refine x_ifF ?_ | with_reducible refine x_ifNT ?_ | with_reducible refine x_ifNF ?_ | with_reducible refine x_ifd (fun hc => ?_) (fun hc => ?_) | with_reducible refine x_ifn (fun hc => ?_) (fun hc => ?_) | with_reducible refine x_if (fun hc => ?_) (fun hc => ?_) | with_reducible refine s_skip ?_ | with_reducible refine s_expr ?_ | with_reducible refine e_mt ?_ | with_reducible refine b_div ?_ ?_ | with_reducible refine b_mod ?_ ?_ | with_reducible refine b_pow ?_ ?_ | with_reducible refine e_tup ?_ | with_reducible refine x_len (by simp only [List.length_cons, List.length_nil]; decide) ?_ | with_reducible refine e_neg ?_ | with_reducible refine x_int ?_ | with_reducible refine e_bl ?_ | with_reducible refine e_non ?_ | with_reducible refine e_str ?_ | with_reducible refine e_and ?_ | with_reducible refine e_or ?_ | with_reducible refine e_not ?_ | with_reducible refine e_truth ?_ | with_reducible refine x_bl ?_ | with_reducible refine t_bl ?_ | with_reducible refine t_int ?_ | with_reducible refine t_tup ?_ | with_reducible refine t_non ?_ | with_reducible refine e_ife ?_ | with_reducible refine e_isi ?_ | with_reducible refine f_abs ?_ | with_reducible refine f_int ?_ | with_reducible refine f_gcd ?_ | with_reducible refine f_max ?_ | with_reducible refine f_min ?_ | with_reducible refine f_tupT ?_ | with_reducible refine s_for ?_ | with_reducible refine w_rng ?_ | with_reducible refine x_rng ?_ ?_ | with_reducible refine w_it ?_ | with_reducible refine x_itT ?_ | with_reducible refine s_while ?_ | with_reducible refine e_lst ?_ | with_reducible refine e_cut ?_ | with_reducible refine e_absent ?_ | with_reducible refine e_asInt ?_ | with_reducible refine x_pI ?_ | with_reducible refine x_pN ?_ | with_reducible refine e_chain ?_ | with_reducible refine e_comp ?_ | with_reducible refine e_tcomp ?_ | with_reducible refine s_brk ?_ | with_reducible refine s_cont ?_ | ((with_reducible refine m_app (ds := ?_) ?_ ?_); rotate_left; (focus ((repeat (first | exact put_same | assumption | refine put_old ?_ (by assumption))); done))) | ((with_reducible refine m_app2 (ds := ?_) ?_ ?_ ?_); rotate_left; (focus ((repeat (first | exact put_same | assumption | refine put_old ?_ (by assumption))); done))) | ((with_reducible refine z_leniL (qs := ?_) ?_ ?_); rotate_left; first | exact Or.inl put_same | assumption | exact Or.inl (by assumption) | (refine Or.inl ?_; (focus ((repeat (first | exact put_same | assumption | refine put_old ?_ (by assumption))); done))) | exact listAt_put (by assumption) (by assumption) | exact listAt_sub (by assumption) (by assumption)) | ((with_reducible refine z_lenfL (qs := ?_) ?_ ?_); rotate_left; first | exact Or.inl put_same | assumption | exact Or.inl (by assumption) | (refine Or.inl ?_; (focus ((repeat (first | exact put_same | assumption | refine put_old ?_ (by assumption))); done))) | exact listAt_put (by assumption) (by assumption) | exact listAt_sub (by assumption) (by assumption)) | ((with_reducible refine f_lenL (ds := ?_) ?_ ?_); rotate_left; first | exact Or.inl put_same | assumption | exact Or.inl (by assumption) | (refine Or.inl ?_; (focus ((repeat (first | exact put_same | assumption | refine put_old ?_ (by assumption))); done))) | exact listAt_put (by assumption) (by assumption) | exact listAt_sub (by assumption) (by assumption)) | ((with_reducible refine i_iL (ns := ?_) ?_ ?_ ?_); rotate_left; first | exact Or.inl put_same | assumption | exact Or.inl (by assumption) | (refine Or.inl ?_; (focus ((repeat (first | exact put_same | assumption | refine put_old ?_ (by assumption))); done))) | exact listAt_put (by assumption) (by assumption) | exact listAt_sub (by assumption) (by assumption)) | ((with_reducible refine i_fL (ns := ?_) ?_ ?_ ?_); rotate_left; first | exact Or.inl put_same | assumption | exact Or.inl (by assumption) | (refine Or.inl ?_; (focus ((repeat (first | exact put_same | assumption | refine put_old ?_ (by assumption))); done))) | exact listAt_put (by assumption) (by assumption) | exact listAt_sub (by assumption) (by assumption)) | ((with_reducible refine f_tupL (ds := ?_) ?_ ?_); rotate_left; first | exact Or.inl put_same | assumption | exact Or.inl (by assumption) | (refine Or.inl ?_; (focus ((repeat (first | exact put_same | assumption | refine put_old ?_ (by assumption))); done))) | exact listAt_put (by assumption) (by assumption) | exact listAt_sub (by assumption) (by assumption)) | ((with_reducible refine x_itL (ds := ?_) ?_ ?_); rotate_left; first | exact Or.inl put_same | assumption | exact Or.inl (by assumption) | (refine Or.inl ?_; (focus ((repeat (first | exact put_same | assumption | refine put_old ?_ (by assumption))); done))) | exact listAt_put (by assumption) (by assumption) | exact listAt_sub (by assumption) (by assumption)) | with_reducible refine x_new (fun r nr => ?_) | ((with_reducible refine b_lst (ds := ?_) (es := ?_) ?_ ?_ ?_ ?_); rotate_left 2; (focus ((repeat (first | exact put_same | assumption | refine put_old ?_ (by assumption))); done)); (focus ((repeat (first | exact put_same | assumption | refine put_old ?_ (by assumption))); done))) | ((with_reducible refine b_rep (ds := ?_) ?_ ?_ ?_); rotate_left; (focus ((repeat (first | exact put_same | assumption | refine put_old ?_ (by assumption))); done))) | with_reducible refine f_lstT ?_ | with_reducible refine b_tup ?_ ?_ | with_reducible refine z_lenfT ?_ | with_reducible refine f_lenT ?_ | with_reducible refine i_fT ?_ ?_ | with_reducible refine z_isiI ?_ | with_reducible refine z_isiB ?_ | with_reducible refine z_isiF ?_ | with_reducible refine z_isiT ?_ | with_reducible refine z_lenF ?_)
      refine ⟨_, Sub.refl _, h r ns nr ?_⟩
      rw [List.take_length] at hd
      exact hd
  · decide
  · omega
  · have hlr : ∀ o, listAt (put M r o) u (iL zs) := fun o => listAt_put hl nr
    refine for_rng (fun i σ M' => ∃ (s : Int) (ns : List Int) (o o' : Option D), M' = put M r (.lst (iL ns)) ∧ σ = [some (.int c), some (.ref u), some (.ref r), some (.int c), none, some (.int s), o, o'] ∧ Digs (zs.take i) ns ∧ 0 ≤ s ∧ s < 2147483647)
      ⟨_, [], none, none, rfl, rfl, ⟨rfl, fun i h => by simp at h⟩, Int.fmod_nonneg_of_pos _ (by decide), by have := Int.fmod_lt_of_pos c (b := 2147483629) (by decide); omega⟩ ?_ ?_
    · rintro i σ M' hi ⟨s, ns, o, o', rfl, rfl, hd, s0, s1⟩
      have hi' : i < zs.length := by omega
      have hz0 := hp _ (getD_mem hi')
      have hln : ns.length ≤ i := by have := hd.1; rw [List.length_take] at this; omega
      have b1 : Bd 31 s := Bd.of_lt s0 (by omega)
      have b2 : Bd 31 ((0 : Int) + i) := Bd.of_lt (by omega) (by omega)
      have n1 := fun x : Int => Int.fmod_nonneg_of_pos x (b := 2147483647) (by decide)
      have n2 := fun x : Int => Int.fmod_lt_of_pos x (b := 2147483647) (by decide)
      have hl1 := hlr (.lst (iL ns))
      have e0 : ((0 : Int) + i).toNat = i := by omega
      repeat' (first | ((with_reducible refine e_var (d := ?_) ?_ ?_); rotate_left; exact rfl) | with_reducible refine e_cons ?_ | with_reducible refine x_tup ?_ | with_reducible refine e_nil ?_ | with_reducible refine e_int ?_ | with_reducible refine e_idx ?_ | with_reducible refine e_bin ?_ | with_reducible refine b_add ?_ | with_reducible refine b_sub ?_ | with_reducible refine b_mul ?_ ?_ | with_reducible refine i_fr0 ?_ | with_reducible refine i_fr1 ?_ | with_reducible refine e_call ?_ | with_reducible refine e_callK ?_ | with_reducible refine e_bi ?_ | with_reducible refine s_seq ?_ | with_reducible refine s_asg ?_ | with_reducible refine s_ret ?_ | with_reducible refine e_cmp ?_ | with_reducible refine c_eq ?_ | with_reducible refine c_ne ?_ | with_reducible refine c_lt ?_ | with_reducible refine c_le ?_ | with_reducible refine c_gt ?_ | with_reducible refine c_ge ?_ | with_reducible refine s_ife ?_ | with_reducible refine x_ifT ?_ | with_reducible refine x_ifF ?_ | with_reducible refine x_ifNT ?_ | with_reducible refine x_ifNF ?_ | with_reducible refine x_ifd (fun hc => ?_) (fun hc => ?_) | with_reducible refine x_ifn (fun hc => ?_) (fun hc => ?_) | with_reducible refine x_if (fun hc => ?_) (fun hc => ?_) | with_reducible refine s_skip ?_ | with_reducible refine s_expr ?_ | with_reducible refine e_mt ?_ | with_reducible refine b_div ?_ ?_ | with_reducible refine b_mod ?_ ?_ | with_reducible refine b_pow ?_ ?_ | with_reducible refine e_tup ?_ | with_reducible refine x_len (by simp only [List.length_cons, List.length_nil]; decide) ?_ | with_reducible refine e_neg ?_ | with_reducible refine x_int ?_ | with_reducible refine e_bl ?_ | with_reducible refine e_non ?_ | with_reducible refine e_str ?_ | with_reducible refine e_and ?_ | with_reducible refine e_or ?_ | with_reducible refine e_not ?_ | with_reducible refine e_truth ?_ | with_reducible refine x_bl ?_ | with_reducible refine t_bl ?_ | with_reducible refine t_int ?_ | with_reducible refine t_tup ?_ | with_reducible refine t_non ?_ | with_reducible refine e_ife ?_ | with_reducible refine e_isi ?_ | with_reducible refine f_abs ?_ | with_reducible refine f_int ?_ | with_reducible refine f_gcd ?_ | with_reducible refine f_max ?_ | with_reducible refine f_min ?_ | with_reducible refine f_tupT ?_ | with_reducible refine s_for ?_ | with_reducible refine w_rng ?_ | with_reducible refine x_rng ?_ ?_ | with_reducible refine w_it ?_ | with_reducible refine x_itT ?_ | with_reducible refine s_while ?_ | with_reducible refine e_lst ?_ | with_reducible refine e_cut ?_ | with_reducible refine e_absent ?_ | with_reducible refine e_asInt ?_ | with_reducible refine x_pI ?_ | with_reducible refine x_pN ?_ | with_reducible refine e_chain ?_ | with_reducible refine e_comp ?_ | with_reducible refine e_tcomp ?_ | with_reducible refine s_brk ?_ | with_reducible refine s_cont ?_ | ((with_reducible refine m_app (ds := ?_) ?_ ?_); rotate_left; (focus ((repeat (first | exact put_same | assumption | refine put_old ?_ (by assumption))); done))) | ((with_reducible refine m_app2 (ds := ?_) ?_ ?_ ?_); rotate_left; (focus ((repeat (first | exact put_same | assumption | refine put_old ?_ (by assumption))); done))) | ((with_reducible refine z_leniL (qs := ?_) ?_ ?_); rotate_left; first | exact Or.inl put_same | assumption | exact Or.inl (by assumption) | (refine Or.inl ?_; (focus ((repeat (first | exact put_same | assumption | refine put_old ?_ (by assumption))); done))) | exact listAt_put (by assumption) (by assumption) | exact listAt_sub (by assumption) (by assumption)) | ((with_reducible refine z_lenfL (qs := ?_) ?_ ?_); rotate_left; first | exact Or.inl put_same | assumption | exact Or.inl (by assumption) | (refine Or.inl ?_; (focus ((repeat (first | exact put_same | assumption | refine put_old ?_ (by assumption))); done))) | exact listAt_put (by assumption) (by assumption) | exact listAt_sub (by assumption) (by assumption)) | ((with_reducible refine f_lenL (ds := ?_) ?_ ?_); rotate_left; first | exact Or.inl put_same | assumption | exact Or.inl (by assumption) | (refine Or.inl ?_; (focus ((repeat (first | exact put_same | assumption | refine put_old ?_ (by assumption))); done))) | exact listAt_put (by assumption) (by assumption) | exact listAt_sub (by assumption) (by assumption)) | ((with_reducible refine i_iL (ns := ?_) ?_ ?_ ?_); rotate_left; first | exact Or.inl put_same | assumption | exact Or.inl (by assumption) | (refine Or.inl ?_; (focus ((repeat (first | exact put_same | assumption | refine put_old ?_ (by assumption))); done))) | exact listAt_put (by assumption) (by assumption) | exact listAt_sub (by assumption) (by assumption)) | ((with_reducible refine i_fL (ns := ?_) ?_ ?_ ?_); rotate_left; first | exact Or.inl put_same | assumption | exact Or.inl (by assumption) | (refine Or.inl ?_; (focus ((repeat (first | exact put_same | assumption | refine put_old ?_ (by assumption))); done))) | exact listAt_put (by assumption) (by assumption) | exact listAt_sub (by assumption) (by assumption)) | ((with_reducible refine f_tupL (ds := ?_) ?_ ?_); rotate_left; first | exact Or.inl put_same | assumption | exact Or.inl (by assumption) | (refine Or.inl ?_; (focus ((repeat (first | exact put_same | assumption | refine put_old ?_ (by assumption))); done))) | exact listAt_put (by assumption) (by assumption) | exact listAt_sub (by assumption) (by assumption)) | ((with_reducible refine x_itL (ds := ?_) ?_ ?_); rotate_left; first | exact Or.inl put_same | assumption | exact Or.inl (by assumption) | (refine Or.inl ?_; (focus ((repeat (first | exact put_same | assumption | refine put_old ?_ (by assumption))); done))) | exact listAt_put (by assumption) (by assumption) | exact listAt_sub (by assumption) (by assumption)) | with_reducible refine x_new (fun r nr => ?_) | ((with_reducible refine b_lst (ds := ?_) (es := ?_) ?_ ?_ ?_ ?_); rotate_left 2; (focus ((repeat (first | exact put_same | assumption | refine put_old ?_ (by assumption))); done)); (focus ((repeat (first | exact put_same | assumption | refine put_old ?_ (by assumption))); done))) | ((with_reducible refine b_rep (ds := ?_) ?_ ?_ ?_); rotate_left; (focus ((repeat (first | exact put_same | assumption | refine put_old ?_ (by assumption))); done))) | with_reducible refine f_lstT ?_ | with_reducible refine b_tup ?_ ?_ | with_reducible refine z_lenfT ?_ | with_reducible refine f_lenT ?_ | with_reducible refine i_fT ?_ ?_ | with_reducible refine z_isiI ?_ | with_reducible refine z_isiB ?_ | with_reducible refine z_isiF ?_ | with_reducible refine z_isiT ?_ | with_reducible refine z_lenF ?_)
      · exact b1.mulOk (m := 16) (by decide) (by decide)
      · exact Bd.mulOk (n := 20) (by decide) b2 (by decide)
      · decide
      · decide
      · refine Bd.mulOk (n := 31) (m := 32) (Bd.of_lt (n1 _) (by have := n2 (s * 48271 + 974711 * (0 + ↑i) + 12345); omega)) (Bd.of_lt ?_ ?_) (by decide)
        · have := n1 (s * 48271 + 974711 * (0 + ↑i) + 12345)
          have := Int.fdiv_nonneg this (b := 65537) (by decide)
          omega
        · have a1 := n1 (s * 48271 + 974711 * (0 + ↑i) + 12345)
          have a2 := n2 (s * 48271 + 974711 * (0 + ↑i) + 12345)
          rw [Int.fdiv_eq_ediv_of_nonneg _ (by decide)]
          omega
      · decide
      · decide
      · omega
      · rw [e0]; omega
      · rw [iL_len]
        exact big_line (by omega)
      · rw [put_put, iL_snoc, e0]
        exact ⟨_, Sub.refl _, _, _, _, _, rfl, rfl, hd.snoc hi' (Int.fmod_nonneg_of_pos _ hz0) (Int.fmod_lt_of_pos _ hz0), n1 _, n2 _⟩
    · rintro σ M' ⟨s, ns, o, o', rfl, rfl, hd, s0, s1⟩
      repeat' (first | ((with_reducible refine e_var (d := ?_) ?_ ?_); rotate_left; exact rfl) | with_reducible refine e_cons ?_ | with_reducible refine x_tup ?_ | with_reducible refine e_nil ?_ | with_reducible refine e_int ?_ | with_reducible refine e_idx ?_ | with_reducible refine e_bin ?_ | with_reducible refine b_add ?_ | with_reducible refine b_sub ?_ | with_reducible refine b_mul ?_ ?_ | with_reducible refine i_fr0 ?_ | with_reducible refine i_fr1 ?_ | with_reducible refine e_call ?_ | with_reducible refine e_callK ?_ | with_reducible refine e_bi ?_ | with_reducible refine s_seq ?_ | with_reducible refine s_asg ?_ | with_reducible refine s_ret ?_ | with_reducible refine e_cmp ?_ | with_reducible refine c_eq ?_ | with_reducible refine c_ne ?_ | with_reducible refine c_lt ?_ | with_reducible refine c_le ?_ | with_reducible refine c_gt ?_ | with_reducible refine c_ge ?_ | with_reducible refine s_ife ?_ | with_reducible refine x_ifT ?_ | with_reducible refine x_ifF ?_ | with_reducible refine x_ifNT ?_ | with_reducible refine x_ifNF ?_ | with_reducible refine x_ifd (fun hc => ?_) (fun hc => ?_) | with_reducible refine x_ifn (fun hc => ?_) (fun hc => ?_) | with_reducible refine x_if (fun hc => ?_) (fun hc => ?_) | with_reducible refine s_skip ?_ | with_reducible refine s_expr ?_ | with_reducible refine e_mt ?_ | with_reducible refine b_div ?_ ?_ | with_reducible refine b_mod ?_ ?_ | with_reducible refine b_pow ?_ ?_ | with_reducible refine e_tup ?_ | with_reducible refine x_len (by simp only [List.length_cons, List.length_nil]; decide) ?_ | with_reducible refine e_neg ?_ | with_reducible refine x_int ?_ | with_reducible refine e_bl ?_ | with_reducible refine e_non ?_ | with_reducible refine e_str ?_ | with_reducible refine e_and ?_ | with_reducible refine e_or ?_ | with_reducible refine e_not ?_ | with_reducible refine e_truth ?_ | with_reducible refine x_bl ?_ | with_reducible refine t_bl ?_ | with_reducible refine t_int ?_ | with_reducible refine t_tup ?_ | with_reducible refine t_non ?_ | with_reducible refine e_ife ?_ | with_reducible refine e_isi ?_ | with_reducible refine f_abs ?_ | with_reducible refine f_int ?_ | with_reducible refine f_gcd ?_ | with_reducible refine f_max ?_ | with_reducible refine f_min ?_ | with_reducible refine f_tupT ?_ | with_reducible refine s_for ?_ | with_reducible refine w_rng ?_ | with_reducible refine x_rng ?_ ?_ | with_reducible refine w_it ?_ | with_reducible refine x_itT ?_ | with_reducible refine s_while ?_ | with_reducible refine e_lst ?_ | with_reducible refine e_cut ?_ | with_reducible refine e_absent ?_ | with_reducible refine e_asInt ?_ | with_reducible refine x_pI ?_ | with_reducible refine x_pN ?_ | with_reducible refine e_chain ?_ | with_reducible refine e_comp ?_ | with_reducible refine e_tcomp ?_ | with_reducible refine s_brk ?_ | with_reducible refine s_cont ?_ | ((with_reducible refine m_app (ds := ?_) ?_ ?_); rotate_left; (focus ((repeat (first | exact put_same | assumption | refine put_old ?_ (by assumption))); done))) | ((with_reducible refine m_app2 (ds := ?_) ?_ ?_ ?_); rotate_left; (focus ((repeat (first | exact put_same | assumption | refine put_old ?_ (by assumption))); done))) | ((with_reducible refine z_leniL (qs := ?_) ?_ ?_); rotate_left; first | exact Or.inl put_same | assumption | exact Or.inl (by assumption) | (refine Or.inl ?_; (focus ((repeat (first | exact put_same | assumption | refine put_old ?_ (by assumption))); done))) | exact listAt_put (by assumption) (by assumption) | exact listAt_sub (by assumption) (by assumption)) | ((with_reducible refine z_lenfL (qs := ?_) ?_ ?_); rotate_left; first | exact Or.inl put_same | assumption | exact Or.inl (by assumption) | (refine Or.inl ?_; (focus ((repeat (first | exact put_same | assumption | refine put_old ?_ (by assumption))); done))) | exact listAt_put (by assumption) (by assumption) | exact listAt_sub (by assumption) (by assumption)) | ((with_reducible refine f_lenL (ds := ?_) ?_ ?_); rotate_left; first | exact Or.inl put_same | assumption | exact Or.inl (by assumption) | (refine Or.inl ?_; (focus ((repeat (first | exact put_same | assumption | refine put_old ?_ (by assumption))); done))) | exact listAt_put (by assumption) (by assumption) | exact listAt_sub (by assumption) (by assumption)) | ((with_reducible refine i_iL (ns := ?_) ?_ ?_ ?_); rotate_left; first | exact Or.inl put_same | assumption | exact Or.inl (by assumption) | (refine Or.inl ?_; (focus ((repeat (first | exact put_same | assumption | refine put_old ?_ (by assumption))); done))) | exact listAt_put (by assumption) (by assumption) | exact listAt_sub (by assumption) (by assumption)) | ((with_reducible refine i_fL (ns := ?_) ?_ ?_ ?_); rotate_left; first | exact Or.inl put_same | assumption | exact Or.inl (by assumption) | (refine Or.inl ?_; (focus ((repeat (first | exact put_same | assumption | refine put_old ?_ (by assumption))); done))) | exact listAt_put (by assumption) (by assumption) | exact listAt_sub (by assumption) (by assumption)) | ((with_reducible refine f_tupL (ds := ?_) ?_ ?_); rotate_left; first | exact Or.inl put_same | assumption | exact Or.inl (by assumption) | (refine Or.inl ?_; (focus ((repeat (first | exact put_same | assumption | refine put_old ?_ (by assumption))); done))) | exact listAt_put (by assumption) (by assumption) | exact listAt_sub (by assumption) (by assumption)) | ((with_reducible refine x_itL (ds := ?_) ?_ ?_); rotate_left; first | exact Or.inl put_same | assumption | exact Or.inl (by assumption) | (refine Or.inl ?_; (focus ((repeat (first | exact put_same | assumption | refine put_old ?_ (by assumption))); done))) | exact listAt_put (by assumption) (by assumption) | exact listAt_sub (by assumption) (by assumption)) | with_reducible refine x_new (fun r nr => ?_) | ((with_reducible refine b_lst (ds := ?_) (es := ?_) ?_ ?_ ?_ ?_); rotate_left 2; (focus ((repeat (first | exact put_same | assumption | refine put_old ?_ (by assumption))); done)); (focus ((repeat (first | exact put_same | assumption | refine put_old ?_ (by assumption))); done))) | ((with_reducible refine b_rep (ds := ?_) ?_ ?_ ?_); rotate_left; (focus ((repeat (first | exact put_same | assumption | refine put_old ?_ (by assumption))); done))) | with_reducible refine f_lstT ?_ | with_reducible refine b_tup ?_ ?_ | with_reducible refine z_lenfT ?_ | with_reducible refine f_lenT ?_ | with_reducible refine i_fT ?_ ?_ | with_reducible refine z_isiI ?_ | with_reducible refine z_isiB ?_ | with_reducible refine z_isiF ?_ | with_reducible refine z_isiT ?_ | with_reducible refine z_lenF ?_)
      refine ⟨_, Sub.refl _, h r ns nr ?_⟩
      have e : ((zs.length : Int) - 0).toNat = zs.length := by omega
      rw [e, List.take_length] at hd
      exact hd
theorem c__law_digits {c : Int} {u : Addr} {zs : List Int} {M : Mp} {Q : DK} (hG : G "_law_digits" = sp__law_digits) (hl : listAt M u (iL zs)) (hz : zs.length ≤ 1000000) (hp : ∀ z ∈ zs, 0 < z) (h : ∀ r ns, M r = none → Digs zs ns → Q (.ref r) (put M r (.lst (iL ns)))) : G "_law_digits" [.int c, .ref u] M Q := by
  rw [hG]; exact ⟨c, u, zs, rfl, hl, hz, hp, h⟩
end
end Pd

set_option maxHeartbeats 4000000
namespace Pd
open PySem PySem.Spec L2
section
variable {G : Str → DSp} {σ : DSt} {M : Mp} {R : List D → Mp → Prop}
theorem filterMap_true {n : Nat} {g : Nat → D} : ((List.range n).filterMap fun i => if true = true then some (g i) else none) = (List.range n).map g := by
  rw [← List.filterMap_eq_map]
  rfl
/-- [elt for v in range(lo, hi)] -/
theorem comp_rng {v : Nat} {lo hi : Int} {elt : Px} (g : Nat → D) (hz : (hi - lo).toNat ≤ sizeLine)
    (hx : ∀ (i : Nat) M2, (i : Int) < hi - lo → Sub M M2 → ∀ Q : DK, (∀ M3, Sub M M3 → Q (g i) M3) → wE G elt (σ.set v (some (.int (lo + i)))) M2 Q)
    (hR : R ((List.range (hi - lo).toNat).map g) M) : ∃ k, compN (wE G elt) (wE G (.bl true)) [v] true (nRng lo hi) σ R k 0 [] M := by
  refine comp_pure (hi - lo).toNat (fun i => .int (lo + i)) g (fun _ => true) hz (fun i h => by unfold nRng; rw [if_pos h]) (by unfold nRng; rw [if_neg (Nat.lt_irrefl _)]) (fun i h => ⟨_, rfl, fun Q k => e_bl (k M (Sub.refl M))⟩) ?_ (by rw [filterMap_true]; exact hR)
  intro i σ' M2 hi _ hb sb Q k
  cases hb
  exact hx i M2 (by omega) sb Q k
/-- [elt for v in (fractions)] -/
theorem comp_fT {v : Nat} {qs : List Rat} {elt : Px} (g : Nat → D) (hz : qs.length ≤ sizeLine)
    (hx : ∀ (i : Nat) M2, i < qs.length → Sub M M2 → ∀ Q : DK, (∀ M3, Sub M M3 → Q (g i) M3) → wE G elt (σ.set v (some (fr (qs.getD i 0)))) M2 Q)
    (hR : R ((List.range qs.length).map g) M) : ∃ k, compN (wE G elt) (wE G (.bl true)) [v] true (nSeq (.tup (fL qs))) σ R k 0 [] M := by
  refine comp_pure qs.length (fun i => fr (qs.getD i 0)) g (fun _ => true) hz (fun i h => ?_) ?_ (fun i h => ⟨_, rfl, fun Q k => e_bl (k M (Sub.refl M))⟩) ?_ (by rw [filterMap_true]; exact hR)
  · show some (fL qs)[i]? = _
    rw [List.getElem?_eq_getElem (by rw [fL_len]; exact h), fL_at]
  · show some (fL qs)[qs.length]? = _
    rw [List.getElem?_eq_none (by rw [fL_len]; exact Nat.le_refl _)]
  intro i σ' M2 hi _ hb sb Q k
  cases hb
  exact hx i M2 hi sb Q k
/-- .. over a list of fractions -/
theorem comp_fL {v : Nat} {u : Addr} {qs : List Rat} {elt : Px} (l : listAt M u (fL qs)) (g : Nat → D) (hz : qs.length ≤ sizeLine)
    (hx : ∀ (i : Nat) M2, i < qs.length → Sub M M2 → ∀ Q : DK, (∀ M3, Sub M M3 → Q (g i) M3) → wE G elt (σ.set v (some (fr (qs.getD i 0)))) M2 Q)
    (hR : R ((List.range qs.length).map g) M) : ∃ k, compN (wE G elt) (wE G (.bl true)) [v] true (nSeq (.ref u)) σ R k 0 [] M := by
  refine comp_pure qs.length (fun i => fr (qs.getD i 0)) g (fun _ => true) hz (fun i h => ?_) ?_ (fun i h => ⟨_, rfl, fun Q k => e_bl (k M (Sub.refl M))⟩) ?_ (by rw [filterMap_true]; exact hR)
  · show (itemsAt M (.ref u)).map (fun ds => ds[i]?) = _
    rw [itemsAt_of l]
    show some (fL qs)[i]? = _
    rw [List.getElem?_eq_getElem (by rw [fL_len]; exact h), fL_at]
  · show (itemsAt M (.ref u)).map (fun ds => ds[qs.length]?) = _
    rw [itemsAt_of l]
    show some (fL qs)[qs.length]? = _
    rw [List.getElem?_eq_none (by rw [fL_len]; exact Nat.le_refl _)]
  intro i σ' M2 hi _ hb sb Q k
  cases hb
  exact hx i M2 hi sb Q k
theorem map_fr {n : Nat} {f : Nat → Rat} : (List.range n).map (fun i => fr (f i)) = fL ((List.range n).map f) := by unfold fL; rw [List.map_map]; rfl
theorem map_int {n : Nat} {f : Nat → Int} : (List.range n).map (fun i => D.int (f i)) = iL ((List.range n).map f) := by unfold iL; rw [List.map_map]; rfl
theorem range_getD {n : Nat} {qs : List Rat} (h : n ≤ qs.length) : (List.range n).map (fun i => qs.getD i 0) = qs.take n := by
  refine List.ext_getElem (by simp; omega) fun i h1 h2 => ?_
  simp at h1
  rw [List.getElem_map, List.getElem_range, List.getElem_take, List.getD_eq_getElem?_getD, List.getElem?_eq_getElem (by omega)]; rfl
end
section
variable {G : Str → DSp} {M : Mp} {Q : DK} {d : D} {qs : List Rat} {n : Int}
/-- a row of fractions: a tuple or a list -/
def Sq (M : Mp) (d : D) (qs : List Rat) : Prop := d = .tup (fL qs) ∨ ∃ u, d = .ref u ∧ listAt M u (fL qs)
theorem z_lenSq (h : Sq M d qs) (k : Q (.int qs.length) M) : biD .len [d] M Q := by
  rcases h with rfl | ⟨u, rfl, l⟩
  · exact z_lenfT k
  · exact z_lenfL l k
theorem i_Sq (h : Sq M d qs) (hi : 0 ≤ n ∧ n < qs.length) (k : Q (fr (qs.getD n.toNat 0)) M) : idxD d (.int n) M Q := by
  rcases h with rfl | ⟨u, rfl, l⟩
  · exact i_fT hi k
  · exact i_fL l hi k
theorem Sq.sub {M' : Mp} (h : Sq M d qs) (s : Sub M M') : Sq M' d qs := by
  rcases h with h | ⟨u, h, l⟩
  · exact .inl h
  · exact .inr ⟨u, h, listAt_sub l s⟩
theorem Sq.put {r : Addr} {o : MO} (h : Sq M d qs) (n : M r = none) : Sq (put M r o) d qs := h.sub ((Sub.refl M).put n)
/-- the size without the zeros at the end, looking at k items -/
def szTo (qs : List Rat) : Nat → Nat
  | 0 => 0
  | k + 1 => if qs.getD k 0 = 0 then szTo qs k else k + 1
theorem szTo_le (qs : List Rat) : ∀ k, szTo qs k ≤ k
  | 0 => Nat.le_refl _
  | k + 1 => by
    unfold szTo
    have := szTo_le qs k
    split <;> omega
def trimQ (qs : List Rat) : List Rat := qs.take (szTo qs qs.length)
theorem szTo_zero {qs : List Rat} : ∀ {k j : Nat}, szTo qs k ≤ j → j < k → qs.getD j 0 = 0
  | 0, j, _, h => by omega
  | k + 1, j, h1, h2 => by
    unfold szTo at h1
    split at h1
    · by_cases e : j = k
      · subst e; assumption
      · exact szTo_zero (k := k) h1 (by omega)
    · omega
theorem szTo_last {qs : List Rat} : ∀ {k : Nat}, szTo qs k ≠ 0 → qs.getD (szTo qs k - 1) 0 ≠ 0
  | 0, h => absurd rfl h
  | k + 1, h => by
    unfold szTo at h ⊢
    split
    · rename_i e
      rw [if_pos e] at h
      exact szTo_last (k := k) h
    · rename_i e
      rw [Nat.add_sub_cancel]; exact e
theorem trimQ_len (qs : List Rat) : (trimQ qs).length = szTo qs qs.length := by
  unfold trimQ
  rw [List.length_take]
  have := szTo_le qs qs.length
  omega
theorem getD_out {qs : List Rat} {j : Nat} (h : qs.length ≤ j) : qs.getD j 0 = 0 := by
  rw [List.getD_eq_getElem?_getD, List.getElem?_eq_none h]; rfl
theorem getD_takeR {qs : List Rat} {i j : Nat} : (qs.take i).getD j 0 = if j < i then qs.getD j 0 else 0 := by
  by_cases h : j < i
  · rw [if_pos h, List.getD_eq_getElem?_getD, List.getD_eq_getElem?_getD, List.getElem?_take_of_lt h]
  · rw [if_neg h, getD_out (by rw [List.length_take]; omega)]
theorem trimQ_getD (qs : List Rat) (j : Nat) : (trimQ qs).getD j 0 = qs.getD j 0 := by
  unfold trimQ
  rw [getD_takeR]
  split
  · rfl
  · by_cases h : j < qs.length
    · exact (szTo_zero (by omega) h).symm
    · rw [getD_out (by omega)]
/-- no zero at the end -/
def Trim (qs : List Rat) : Prop := qs.length ≠ 0 → qs.getD (qs.length - 1) 0 ≠ 0
theorem trimQ_trim (qs : List Rat) : Trim (trimQ qs) := fun h => by
  rw [trimQ_len] at h ⊢
  rw [trimQ_getD]
  exact szTo_last h
/-- rows without zeros at the end are told by their items -/
theorem Trim.ext {ps qs : List Rat} (hp : Trim ps) (hq : Trim qs) (h : ∀ j, ps.getD j 0 = qs.getD j 0) : ps = qs := by
  have hl : ps.length = qs.length := by
    apply Nat.le_antisymm
    · refine Nat.le_of_not_lt fun c => ?_
      have := hp (by omega)
      rw [h, getD_out (by omega)] at this
      exact this rfl
    · refine Nat.le_of_not_lt fun c => ?_
      have := hq (by omega)
      rw [← h, getD_out (by omega)] at this
      exact this rfl
  refine List.ext_getElem hl fun i h1 h2 => ?_
  have := h i
  rw [List.getD_eq_getElem?_getD, List.getD_eq_getElem?_getD, List.getElem?_eq_getElem h1, List.getElem?_eq_getElem h2] at this
  exact this
theorem trimQ_ext {ps qs : List Rat} (h : ∀ j, ps.getD j 0 = qs.getD j 0) : trimQ ps = trimQ qs := (trimQ_trim ps).ext (trimQ_trim qs) fun j => by rw [trimQ_getD, trimQ_getD, h]
theorem trimQ_of {ps : List Rat} (h : Trim ps) : trimQ ps = ps := (trimQ_trim ps).ext h fun j => trimQ_getD ps j

def p__law_trim : Ps := (.seq (.asg [1] true (.int 0))
  (.seq (.for [2] true (.rng (.int 0) (.bi .len (.cons (.var 0) .nil)))
    (.ife (.cmp .NotEq (.idx (.idx (.var 0) (.var 2)) (.int 0)) (.int 0))
      (.asg [1] true (.bin .Add (.var 2) (.int 1)))
      .skip))
  (.ret (.tcomp [2] [2] true (.rng (.int 0) (.var 1)) (.bl true) (.idx (.var 0) (.var 2))))))
def sp__law_trim : DSp := fun ds M R => ∃ (d : D) (qs : List Rat), ds = [d] ∧ Sq M d qs ∧ qs.length ≤ 1000000 ∧ R (.tup (fL (trimQ qs))) M
theorem ok__law_trim (ds M R) (h : sp__law_trim ds M R) : wBody G p__law_trim 3 ds M R := by
  obtain ⟨d, qs, rfl, hs, hz, h⟩ := h
  unfold p__law_trim wBody
  repeat' (first | with_reducible refine z_lenSq hs ?_ | ((with_reducible refine e_var (d := ?_) ?_ ?_); rotate_left; exact rfl) | with_reducible refine e_cons ?_ | with_reducible refine x_tup ?_ | with_reducible refine e_nil ?_ | with_reducible refine e_int ?_ | with_reducible refine e_idx ?_ | with_reducible refine e_bin ?_ | with_reducible refine b_add ?_ | with_reducible refine b_sub ?_ | with_reducible refine b_mul ?_ ?_ | with_reducible refine i_fr0 ?_ | with_reducible refine i_fr1 ?_ | with_reducible refine e_call ?_ | with_reducible refine e_callK ?_ | with_reducible refine e_bi ?_ | with_reducible refine s_seq ?_ | with_reducible refine s_asg ?_ | with_reducible refine s_ret ?_ | with_reducible refine e_cmp ?_ | with_reducible refine c_eq ?_ | with_reducible refine c_ne ?_ | with_reducible refine c_lt ?_ | with_reducible refine c_le ?_ | with_reducible refine c_gt ?_ | with_reducible refine c_ge ?_ | with_reducible refine s_ife ?_ | with_reducible refine x_ifT ?_ | with_reducible refine x_ifF ?_ | with_reducible refine x_ifNT ?_ | with_reducible refine x_ifNF ?_ | with_reducible refine x_ifd (fun hc => ?_) (fun hc => ?_) | with_reducible refine x_ifn (fun hc => ?_) (fun hc => ?_) | with_reducible refine x_if (fun hc => ?_) (fun hc => ?_) | with_reducible refine s_skip ?_ | with_reducible refine s_expr ?_ | with_reducible refine e_mt ?_ | with_reducible refine b_div ?_ ?_ | with_reducible refine b_mod ?_ ?_ | with_reducible refine b_pow ?_ ?_ | with_reducible refine e_tup ?_ | with_reducible refine x_len (by simp only [List.length_cons, List.length_nil]; decide) ?_ | with_reducible refine e_neg ?_ | with_reducible refine x_int ?_ | with_reducible refine e_bl ?_ | with_reducible refine e_non ?_ | with_reducible refine e_str ?_ | with_reducible refine e_and ?_ | with_reducible refine e_or ?_ | with_reducible refine e_not ?_ | with_reducible refine e_truth ?_ | with_reducible refine x_bl ?_ | with_reducible refine t_bl ?_ | with_reducible refine t_int ?_ | with_reducible refine t_tup ?_ | with_reducible refine t_non ?_ | with_reducible refine e_ife ?_ | with_reducible refine e_isi ?_ | with_reducible refine f_abs ?_ | with_reducible refine f_int ?_ | with_reducible refine f_gcd ?_ | with_reducible refine f_max ?_ | with_reducible refine f_min ?_ | with_reducible refine f_tupT ?_ | with_reducible refine s_for ?_ | with_reducible refine w_rng ?_ | with_reducible refine x_rng ?_ ?_ | with_reducible refine w_it ?_ | with_reducible refine x_itT ?_ | with_reducible refine s_while ?_ | with_reducible refine e_lst ?_ | with_reducible refine e_cut ?_ | with_reducible refine e_absent ?_ | with_reducible refine e_asInt ?_ | with_reducible refine x_pI ?_ | with_reducible refine x_pN ?_ | with_reducible refine e_chain ?_ | with_reducible refine e_comp ?_ | with_reducible refine e_tcomp ?_ | with_reducible refine s_brk ?_ | with_reducible refine s_cont ?_ | ((with_reducible refine m_app (ds := ?_) ?_ ?_); rotate_left; (focus ((repeat (first | exact put_same | assumption | refine put_old ?_ (by assumption))); done))) | ((with_reducible refine m_app2 (ds := ?_) ?_ ?_ ?_); rotate_left; (focus ((repeat (first | exact put_same | assumption | refine put_old ?_ (by assumption))); done))) | ((with_reducible refine z_leniL (qs := ?_) ?_ ?_); rotate_left; first | exact Or.inl put_same | assumption | exact Or.inl (by assumption) | (refine Or.inl ?_; (focus ((repeat (first | exact put_same | assumption | refine put_old ?_ (by assumption))); done))) | exact listAt_put (by assumption) (by assumption) | exact listAt_sub (by assumption) (by assumption)) | ((with_reducible refine z_lenfL (qs := ?_) ?_ ?_); rotate_left; first | exact Or.inl put_same | assumption | exact Or.inl (by assumption) | (refine Or.inl ?_; (focus ((repeat (first | exact put_same | assumption | refine put_old ?_ (by assumption))); done))) | exact listAt_put (by assumption) (by assumption) | exact listAt_sub (by assumption) (by assumption)) | ((with_reducible refine f_lenL (ds := ?_) ?_ ?_); rotate_left; first | exact Or.inl put_same | assumption | exact Or.inl (by assumption) | (refine Or.inl ?_; (focus ((repeat (first | exact put_same | assumption | refine put_old ?_ (by assumption))); done))) | exact listAt_put (by assumption) (by assumption) | exact listAt_sub (by assumption) (by assumption)) | ((with_reducible refine i_iL (ns := ?_) ?_ ?_ ?_); rotate_left; first | exact Or.inl put_same | assumption | exact Or.inl (by assumption) | (refine Or.inl ?_; (focus ((repeat (first | exact put_same | assumption | refine put_old ?_ (by assumption))); done))) | exact listAt_put (by assumption) (by assumption) | exact listAt_sub (by assumption) (by assumption)) | ((with_reducible refine i_fL (ns := ?_) ?_ ?_ ?_); rotate_left; first | exact Or.inl put_same | assumption | exact Or.inl (by assumption) | (refine Or.inl ?_; (focus ((repeat (first | exact put_same | assumption | refine put_old ?_ (by assumption))); done))) | exact listAt_put (by assumption) (by assumption) | exact listAt_sub (by assumption) (by assumption)) | ((with_reducible refine f_tupL (ds := ?_) ?_ ?_); rotate_left; first | exact Or.inl put_same | assumption | exact Or.inl (by assumption) | (refine Or.inl ?_; (focus ((repeat (first | exact put_same | assumption | refine put_old ?_ (by assumption))); done))) | exact listAt_put (by assumption) (by assumption) | exact listAt_sub (by assumption) (by assumption)) | ((with_reducible refine x_itL (ds := ?_) ?_ ?_); rotate_left; first | exact Or.inl put_same | assumption | exact Or.inl (by assumption) | (refine Or.inl ?_; (focus ((repeat (first | exact put_same | assumption | refine put_old ?_ (by assumption))); done))) | exact listAt_put (by assumption) (by assumption) | exact listAt_sub (by assumption) (by assumption)) | with_reducible refine x_new (fun r nr => ?_) | ((with_reducible refine b_lst (ds := ?_) (es := ?_) ?_ ?_ ?_ ?_); rotate_left 2; (focus ((repeat (first | exact put_same | assumption | refine put_old ?_ (by assumption))); done)); (focus ((repeat (first | exact put_same | assumption | refine put_old ?_ (by assumption))); done))) | ((with_reducible refine b_rep (ds := ?_) ?_ ?_ ?_); rotate_left; (focus ((repeat (first | exact put_same | assumption | refine put_old ?_ (by assumption))); done))) | with_reducible refine f_lstT ?_ | with_reducible refine b_tup ?_ ?_ | with_reducible refine z_lenfT ?_ | with_reducible refine f_lenT ?_ | with_reducible refine i_fT ?_ ?_ | with_reducible refine z_isiI ?_ | with_reducible refine z_isiB ?_ | with_reducible refine z_isiF ?_ | with_reducible refine z_isiT ?_ | with_reducible refine z_lenF ?_)
  · omega
  · refine for_rng (fun i σ M' => M' = M ∧ ∃ o, σ = [some d, some (.int (szTo qs i)), o]) ⟨rfl, none, rfl⟩ ?_ ?_
    · rintro i σ M' hi ⟨rfl, o, rfl⟩
      have e0 : ((0 : Int) + i).toNat = i := by omega
      repeat' (first | with_reducible refine i_Sq hs ?_ ?_ | ((with_reducible refine e_var (d := ?_) ?_ ?_); rotate_left; exact rfl) | with_reducible refine e_cons ?_ | with_reducible refine x_tup ?_ | with_reducible refine e_nil ?_ | with_reducible refine e_int ?_ | with_reducible refine e_idx ?_ | with_reducible refine e_bin ?_ | with_reducible refine b_add ?_ | with_reducible refine b_sub ?_ | with_reducible refine b_mul ?_ ?_ | with_reducible refine i_fr0 ?_ | with_reducible refine i_fr1 ?_ | with_reducible refine e_call ?_ | with_reducible refine e_callK ?_ | with_reducible refine e_bi ?_ | with_reducible refine s_seq ?_ | with_reducible refine s_asg ?_ | with_reducible refine s_ret ?_ | with_reducible refine e_cmp ?_ | with_reducible refine c_eq ?_ | with_reducible refine c_ne ?_ | with_reducible refine c_lt ?_ | with_reducible refine c_le ?_ | with_reducible refine c_gt ?_ | with_reducible refine c_ge ?_ | with_reducible refine s_ife ?_ | with_reducible refine x_ifT ?_ | with_reducible refine x_ifF ?_ | with_reducible refine x_ifNT ?_ | with_reducible refine x_ifNF ?_ | with_reducible refine x_ifd (fun hc => ?_) (fun hc => ?_) | with_reducible refine x_ifn (fun hc => ?_) (fun hc => ?_) | with_reducible refine x_if (fun hc => ?_) (fun hc => ?_) | with_reducible refine s_skip ?_ | with_reducible refine s_expr ?_ | with_reducible refine e_mt ?_ | with_reducible refine b_div ?_ ?_ | with_reducible refine b_mod ?_ ?_ | with_reducible refine b_pow ?_ ?_ | with_reducible refine e_tup ?_ | with_reducible refine x_len (by simp only [List.length_cons, List.length_nil]; decide) ?_ | with_reducible refine e_neg ?_ | with_reducible refine x_int ?_ | with_reducible refine e_bl ?_ | with_reducible refine e_non ?_ | with_reducible refine e_str ?_ | with_reducible refine e_and ?_ | with_reducible refine e_or ?_ | with_reducible refine e_not ?_ | with_reducible refine e_truth ?_ | with_reducible refine x_bl ?_ | with_reducible refine t_bl ?_ | with_reducible refine t_int ?_ | with_reducible refine t_tup ?_ | with_reducible refine t_non ?_ | with_reducible refine e_ife ?_ | with_reducible refine e_isi ?_ | with_reducible refine f_abs ?_ | with_reducible refine f_int ?_ | with_reducible refine f_gcd ?_ | with_reducible refine f_max ?_ | with_reducible refine f_min ?_ | with_reducible refine f_tupT ?_ | with_reducible refine s_for ?_ | with_reducible refine w_rng ?_ | with_reducible refine x_rng ?_ ?_ | with_reducible refine w_it ?_ | with_reducible refine x_itT ?_ | with_reducible refine s_while ?_ | with_reducible refine e_lst ?_ | with_reducible refine e_cut ?_ | with_reducible refine e_absent ?_ | with_reducible refine e_asInt ?_ | with_reducible refine x_pI ?_ | with_reducible refine x_pN ?_ | with_reducible refine e_chain ?_ | with_reducible refine e_comp ?_ | with_reducible refine e_tcomp ?_ | with_reducible refine s_brk ?_ | with_reducible refine s_cont ?_ | ((with_reducible refine m_app (ds := ?_) ?_ ?_); rotate_left; (focus ((repeat (first | exact put_same | assumption | refine put_old ?_ (by assumption))); done))) | ((with_reducible refine m_app2 (ds := ?_) ?_ ?_ ?_); rotate_left; (focus ((repeat (first | exact put_same | assumption | refine put_old ?_ (by assumption))); done))) | ((with_reducible refine z_leniL (qs := ?_) ?_ ?_); rotate_left; first | exact Or.inl put_same | assumption | exact Or.inl (by assumption) | (refine Or.inl ?_; (focus ((repeat (first | exact put_same | assumption | refine put_old ?_ (by assumption))); done))) | exact listAt_put (by assumption) (by assumption) | exact listAt_sub (by assumption) (by assumption)) | ((with_reducible refine z_lenfL (qs := ?_) ?_ ?_); rotate_left; first | exact Or.inl put_same | assumption | exact Or.inl (by assumption) | (refine Or.inl ?_; (focus ((repeat (first | exact put_same | assumption | refine put_old ?_ (by assumption))); done))) | exact listAt_put (by assumption) (by assumption) | exact listAt_sub (by assumption) (by assumption)) | ((with_reducible refine f_lenL (ds := ?_) ?_ ?_); rotate_left; first | exact Or.inl put_same | assumption | exact Or.inl (by assumption) | (refine Or.inl ?_; (focus ((repeat (first | exact put_same | assumption | refine put_old ?_ (by assumption))); done))) | exact listAt_put (by assumption) (by assumption) | exact listAt_sub (by assumption) (by assumption)) | ((with_reducible refine i_iL (ns := ?_) ?_ ?_ ?_); rotate_left; first | exact Or.inl put_same | assumption | exact Or.inl (by assumption) | (refine Or.inl ?_; (focus ((repeat (first | exact put_same | assumption | refine put_old ?_ (by assumption))); done))) | exact listAt_put (by assumption) (by assumption) | exact listAt_sub (by assumption) (by assumption)) | ((with_reducible refine i_fL (ns := ?_) ?_ ?_ ?_); rotate_left; first | exact Or.inl put_same | assumption | exact Or.inl (by assumption) | (refine Or.inl ?_; (focus ((repeat (first | exact put_same | assumption | refine put_old ?_ (by assumption))); done))) | exact listAt_put (by assumption) (by assumption) | exact listAt_sub (by assumption) (by assumption)) | ((with_reducible refine f_tupL (ds := ?_) ?_ ?_); rotate_left; first | exact Or.inl put_same | assumption | exact Or.inl (by assumption) | (refine Or.inl ?_; (focus ((repeat (first | exact put_same | assumption | refine put_old ?_ (by assumption))); done))) | exact listAt_put (by assumption) (by assumption) | exact listAt_sub (by assumption) (by assumption)) | ((with_reducible refine x_itL (ds := ?_) ?_ ?_); rotate_left; first | exact Or.inl put_same | assumption | exact Or.inl (by assumption) | (refine Or.inl ?_; (focus ((repeat (first | exact put_same | assumption | refine put_old ?_ (by assumption))); done))) | exact listAt_put (by assumption) (by assumption) | exact listAt_sub (by assumption) (by assumption)) | with_reducible refine x_new (fun r nr => ?_) | ((with_reducible refine b_lst (ds := ?_) (es := ?_) ?_ ?_ ?_ ?_); rotate_left 2; (focus ((repeat (first | exact put_same | assumption | refine put_old ?_ (by assumption))); done)); (focus ((repeat (first | exact put_same | assumption | refine put_old ?_ (by assumption))); done))) | ((with_reducible refine b_rep (ds := ?_) ?_ ?_ ?_); rotate_left; (focus ((repeat (first | exact put_same | assumption | refine put_old ?_ (by assumption))); done))) | with_reducible refine f_lstT ?_ | with_reducible refine b_tup ?_ ?_ | with_reducible refine z_lenfT ?_ | with_reducible refine f_lenT ?_ | with_reducible refine i_fT ?_ ?_ | with_reducible refine z_isiI ?_ | with_reducible refine z_isiB ?_ | with_reducible refine z_isiF ?_ | with_reducible refine z_isiT ?_ | with_reducible refine z_lenF ?_)
      · omega
      · rw [e0] at hc
        refine ⟨M', Sub.refl M', rfl, some (.int (0 + i)), ?_⟩
        have e3 : szTo qs (i + 1) = i + 1 := if_neg (fun e => hc (Rat.num_eq_zero.mpr e))
        rw [e3]
        have : ((0 : Int) + i + 1) = ((i + 1 : Nat) : Int) := by omega
        rw [this]
        rfl
      · rw [e0] at hc
        refine ⟨M', Sub.refl M', rfl, some (.int (0 + i)), ?_⟩
        have e3 : szTo qs (i + 1) = szTo qs i := if_pos (Rat.num_eq_zero.mp hc)
        rw [e3]
        rfl
    · rintro σ M' ⟨rfl, o, rfl⟩
      have e1 : ((qs.length : Int) - 0).toNat = qs.length := by omega
      rw [e1]
      have hle := szTo_le qs qs.length
      repeat' (first | ((with_reducible refine e_var (d := ?_) ?_ ?_); rotate_left; exact rfl) | with_reducible refine e_cons ?_ | with_reducible refine x_tup ?_ | with_reducible refine e_nil ?_ | with_reducible refine e_int ?_ | with_reducible refine e_idx ?_ | with_reducible refine e_bin ?_ | with_reducible refine b_add ?_ | with_reducible refine b_sub ?_ | with_reducible refine b_mul ?_ ?_ | with_reducible refine i_fr0 ?_ | with_reducible refine i_fr1 ?_ | with_reducible refine e_call ?_ | with_reducible refine e_callK ?_ | with_reducible refine e_bi ?_ | with_reducible refine s_seq ?_ | with_reducible refine s_asg ?_ | with_reducible refine s_ret ?_ | with_reducible refine e_cmp ?_ | with_reducible refine c_eq ?_ | with_reducible refine c_ne ?_ | with_reducible refine c_lt ?_ | with_reducible refine c_le ?_ | with_reducible refine c_gt ?_ | with_reducible refine c_ge ?_ | with_reducible refine s_ife ?_ | with_reducible refine x_ifT ?_ | with_reducible refine x_ifF ?_ | with_reducible refine x_ifNT ?_ | with_reducible refine x_ifNF ?_ | with_reducible refine x_ifd (fun hc => ?_) (fun hc => ?_) | with_reducible refine x_ifn (fun hc => ?_) (fun hc => ?_) | with_reducible refine x_if (fun hc => ?_) (fun hc => ?_) | with_reducible refine s_skip ?_ | with_reducible refine s_expr ?_ | with_reducible refine e_mt ?_ | with_reducible refine b_div ?_ ?_ | with_reducible refine b_mod ?_ ?_ | with_reducible refine b_pow ?_ ?_ | with_reducible refine e_tup ?_ | with_reducible refine x_len (by simp only [List.length_cons, List.length_nil]; decide) ?_ | with_reducible refine e_neg ?_ | with_reducible refine x_int ?_ | with_reducible refine e_bl ?_ | with_reducible refine e_non ?_ | with_reducible refine e_str ?_ | with_reducible refine e_and ?_ | with_reducible refine e_or ?_ | with_reducible refine e_not ?_ | with_reducible refine e_truth ?_ | with_reducible refine x_bl ?_ | with_reducible refine t_bl ?_ | with_reducible refine t_int ?_ | with_reducible refine t_tup ?_ | with_reducible refine t_non ?_ | with_reducible refine e_ife ?_ | with_reducible refine e_isi ?_ | with_reducible refine f_abs ?_ | with_reducible refine f_int ?_ | with_reducible refine f_gcd ?_ | with_reducible refine f_max ?_ | with_reducible refine f_min ?_ | with_reducible refine f_tupT ?_ | with_reducible refine s_for ?_ | with_reducible refine w_rng ?_ | with_reducible refine x_rng ?_ ?_ | with_reducible refine w_it ?_ | with_reducible refine x_itT ?_ | with_reducible refine s_while ?_ | with_reducible refine e_lst ?_ | with_reducible refine e_cut ?_ | with_reducible refine e_absent ?_ | with_reducible refine e_asInt ?_ | with_reducible refine x_pI ?_ | with_reducible refine x_pN ?_ | with_reducible refine e_chain ?_ | with_reducible refine e_comp ?_ | with_reducible refine e_tcomp ?_ | with_reducible refine s_brk ?_ | with_reducible refine s_cont ?_ | ((with_reducible refine m_app (ds := ?_) ?_ ?_); rotate_left; (focus ((repeat (first | exact put_same | assumption | refine put_old ?_ (by assumption))); done))) | ((with_reducible refine m_app2 (ds := ?_) ?_ ?_ ?_); rotate_left; (focus ((repeat (first | exact put_same | assumption | refine put_old ?_ (by assumption))); done))) | ((with_reducible refine z_leniL (qs := ?_) ?_ ?_); rotate_left; first | exact Or.inl put_same | assumption | exact Or.inl (by assumption) | (refine Or.inl ?_; (focus ((repeat (first | exact put_same | assumption | refine put_old ?_ (by assumption))); done))) | exact listAt_put (by assumption) (by assumption) | exact listAt_sub (by assumption) (by assumption)) | ((with_reducible refine z_lenfL (qs := ?_) ?_ ?_); rotate_left; first | exact Or.inl put_same | assumption | exact Or.inl (by assumption) | (refine Or.inl ?_; (focus ((repeat (first | exact put_same | assumption | refine put_old ?_ (by assumption))); done))) | exact listAt_put (by assumption) (by assumption) | exact listAt_sub (by assumption) (by assumption)) | ((with_reducible refine f_lenL (ds := ?_) ?_ ?_); rotate_left; first | exact Or.inl put_same | assumption | exact Or.inl (by assumption) | (refine Or.inl ?_; (focus ((repeat (first | exact put_same | assumption | refine put_old ?_ (by assumption))); done))) | exact listAt_put (by assumption) (by assumption) | exact listAt_sub (by assumption) (by assumption)) | ((with_reducible refine i_iL (ns := ?_) ?_ ?_ ?_); rotate_left; first | exact Or.inl put_same | assumption | exact Or.inl (by assumption) | (refine Or.inl ?_; (focus ((repeat (first | exact put_same | assumption | refine put_old ?_ (by assumption))); done))) | exact listAt_put (by assumption) (by assumption) | exact listAt_sub (by assumption) (by assumption)) | ((with_reducible refine i_fL (ns := ?_) ?_ ?_ ?_); rotate_left; first | exact Or.inl put_same | assumption | exact Or.inl (by assumption) | (refine Or.inl ?_; (focus ((repeat (first | exact put_same | assumption | refine put_old ?_ (by assumption))); done))) | exact listAt_put (by assumption) (by assumption) | exact listAt_sub (by assumption) (by assumption)) | ((with_reducible refine f_tupL (ds := ?_) ?_ ?_); rotate_left; first | exact Or.inl put_same | assumption | exact Or.inl (by assumption) | (refine Or.inl ?_; (focus ((repeat (first | exact put_same | assumption | refine put_old ?_ (by assumption))); done))) | exact listAt_put (by assumption) (by assumption) | exact listAt_sub (by assumption) (by assumption)) | ((with_reducible refine x_itL (ds := ?_) ?_ ?_); rotate_left; first | exact Or.inl put_same | assumption | exact Or.inl (by assumption) | (refine Or.inl ?_; (focus ((repeat (first | exact put_same | assumption | refine put_old ?_ (by assumption))); done))) | exact listAt_put (by assumption) (by assumption) | exact listAt_sub (by assumption) (by assumption)) | with_reducible refine x_new (fun r nr => ?_) | ((with_reducible refine b_lst (ds := ?_) (es := ?_) ?_ ?_ ?_ ?_); rotate_left 2; (focus ((repeat (first | exact put_same | assumption | refine put_old ?_ (by assumption))); done)); (focus ((repeat (first | exact put_same | assumption | refine put_old ?_ (by assumption))); done))) | ((with_reducible refine b_rep (ds := ?_) ?_ ?_ ?_); rotate_left; (focus ((repeat (first | exact put_same | assumption | refine put_old ?_ (by assumption))); done))) | with_reducible refine f_lstT ?_ | with_reducible refine b_tup ?_ ?_ | with_reducible refine z_lenfT ?_ | with_reducible refine f_lenT ?_ | with_reducible refine i_fT ?_ ?_ | with_reducible refine z_isiI ?_ | with_reducible refine z_isiB ?_ | with_reducible refine z_isiF ?_ | with_reducible refine z_isiT ?_ | with_reducible refine z_lenF ?_)
      · omega
      · refine comp_rng (fun i => fr (qs.getD i 0)) ?_ ?_ ?_
        · have := big_line hz
          omega
        · intro i M2 hi sb Q k
          have e0 : ((0 : Int) + i).toNat = i := by omega
          repeat' (first | with_reducible refine i_Sq (hs.sub sb) ?_ ?_ | ((with_reducible refine e_var (d := ?_) ?_ ?_); rotate_left; exact rfl) | with_reducible refine e_cons ?_ | with_reducible refine x_tup ?_ | with_reducible refine e_nil ?_ | with_reducible refine e_int ?_ | with_reducible refine e_idx ?_ | with_reducible refine e_bin ?_ | with_reducible refine b_add ?_ | with_reducible refine b_sub ?_ | with_reducible refine b_mul ?_ ?_ | with_reducible refine i_fr0 ?_ | with_reducible refine i_fr1 ?_ | with_reducible refine e_call ?_ | with_reducible refine e_callK ?_ | with_reducible refine e_bi ?_ | with_reducible refine s_seq ?_ | with_reducible refine s_asg ?_ | with_reducible refine s_ret ?_ | with_reducible refine e_cmp ?_ | with_reducible refine c_eq ?_ | with_reducible refine c_ne ?_ | with_reducible refine c_lt ?_ | with_reducible refine c_le ?_ | with_reducible refine c_gt ?_ | with_reducible refine c_ge ?_ | with_reducible refine s_ife ?_ | with_reducible refine x_ifT ?_ | with_reducible refine x_ifF ?_ | with_reducible refine x_ifNT ?_ | with_reducible refine x_ifNF ?_ | with_reducible refine x_ifd (fun hc => ?_) (fun hc => ?_) | with_reducible refine x_ifn (fun hc => ?_) (fun hc => ?_) | with_reducible refine x_if (fun hc => ?_) (fun hc => ?_) | with_reducible refine s_skip ?_ | with_reducible refine s_expr ?_ | with_reducible refine e_mt ?_ | with_reducible refine b_div ?_ ?_ | with_reducible refine b_mod ?_ ?_ | with_reducible refine b_pow ?_ ?_ | with_reducible refine e_tup ?_ | with_reducible refine x_len (by simp only [List.length_cons, List.length_nil]; decide) ?_ | with_reducible refine e_neg ?_ | with_reducible refine x_int ?_ | with_reducible refine e_bl ?_ | with_reducible refine e_non ?_ | with_reducible refine e_str ?_ | with_reducible refine e_and ?_ | with_reducible refine e_or ?_ | with_reducible refine e_not ?_ | with_reducible refine e_truth ?_ | with_reducible refine x_bl ?_ | with_reducible refine t_bl ?_ | with_reducible refine t_int ?_ | with_reducible refine t_tup ?_ | with_reducible refine t_non ?_ | with_reducible refine e_ife ?_ | with_reducible refine e_isi ?_ | with_reducible refine f_abs ?_ | with_reducible refine f_int ?_ | with_reducible refine f_gcd ?_ | with_reducible refine f_max ?_ | with_reducible refine f_min ?_ | with_reducible refine f_tupT ?_ | with_reducible refine s_for ?_ | with_reducible refine w_rng ?_ | with_reducible refine x_rng ?_ ?_ | with_reducible refine w_it ?_ | with_reducible refine x_itT ?_ | with_reducible refine s_while ?_ | with_reducible refine e_lst ?_ | with_reducible refine e_cut ?_ | with_reducible refine e_absent ?_ | with_reducible refine e_asInt ?_ | with_reducible refine x_pI ?_ | with_reducible refine x_pN ?_ | with_reducible refine e_chain ?_ | with_reducible refine e_comp ?_ | with_reducible refine e_tcomp ?_ | with_reducible refine s_brk ?_ | with_reducible refine s_cont ?_ | ((with_reducible refine m_app (ds := ?_) ?_ ?_); rotate_left; (focus ((repeat (first | exact put_same | assumption | refine put_old ?_ (by assumption))); done))) | ((with_reducible refine m_app2 (ds := ?_) ?_ ?_ ?_); rotate_left; (focus ((repeat (first | exact put_same | assumption | refine put_old ?_ (by assumption))); done))) | ((with_reducible refine z_leniL (qs := ?_) ?_ ?_); rotate_left; first | exact Or.inl put_same | assumption | exact Or.inl (by assumption) | (refine Or.inl ?_; (focus ((repeat (first | exact put_same | assumption | refine put_old ?_ (by assumption))); done))) | exact listAt_put (by assumption) (by assumption) | exact listAt_sub (by assumption) (by assumption)) | ((with_reducible refine z_lenfL (qs := ?_) ?_ ?_); rotate_left; first | exact Or.inl put_same | assumption | exact Or.inl (by assumption) | (refine Or.inl ?_; (focus ((repeat (first | exact put_same | assumption | refine put_old ?_ (by assumption))); done))) | exact listAt_put (by assumption) (by assumption) | exact listAt_sub (by assumption) (by assumption)) | ((with_reducible refine f_lenL (ds := ?_) ?_ ?_); rotate_left; first | exact Or.inl put_same | assumption | exact Or.inl (by assumption) | (refine Or.inl ?_; (focus ((repeat (first | exact put_same | assumption | refine put_old ?_ (by assumption))); done))) | exact listAt_put (by assumption) (by assumption) | exact listAt_sub (by assumption) (by assumption)) | ((with_reducible refine i_iL (ns := ?_) ?_ ?_ ?_); rotate_left; first | exact Or.inl put_same | assumption | exact Or.inl (by assumption) | (refine Or.inl ?_; (focus ((repeat (first | exact put_same | assumption | refine put_old ?_ (by assumption))); done))) | exact listAt_put (by assumption) (by assumption) | exact listAt_sub (by assumption) (by assumption)) | ((with_reducible refine i_fL (ns := ?_) ?_ ?_ ?_); rotate_left; first | exact Or.inl put_same | assumption | exact Or.inl (by assumption) | (refine Or.inl ?_; (focus ((repeat (first | exact put_same | assumption | refine put_old ?_ (by assumption))); done))) | exact listAt_put (by assumption) (by assumption) | exact listAt_sub (by assumption) (by assumption)) | ((with_reducible refine f_tupL (ds := ?_) ?_ ?_); rotate_left; first | exact Or.inl put_same | assumption | exact Or.inl (by assumption) | (refine Or.inl ?_; (focus ((repeat (first | exact put_same | assumption | refine put_old ?_ (by assumption))); done))) | exact listAt_put (by assumption) (by assumption) | exact listAt_sub (by assumption) (by assumption)) | ((with_reducible refine x_itL (ds := ?_) ?_ ?_); rotate_left; first | exact Or.inl put_same | assumption | exact Or.inl (by assumption) | (refine Or.inl ?_; (focus ((repeat (first | exact put_same | assumption | refine put_old ?_ (by assumption))); done))) | exact listAt_put (by assumption) (by assumption) | exact listAt_sub (by assumption) (by assumption)) | with_reducible refine x_new (fun r nr => ?_) | ((with_reducible refine b_lst (ds := ?_) (es := ?_) ?_ ?_ ?_ ?_); rotate_left 2; (focus ((repeat (first | exact put_same | assumption | refine put_old ?_ (by assumption))); done)); (focus ((repeat (first | exact put_same | assumption | refine put_old ?_ (by assumption))); done))) | ((with_reducible refine b_rep (ds := ?_) ?_ ?_ ?_); rotate_left; (focus ((repeat (first | exact put_same | assumption | refine put_old ?_ (by assumption))); done))) | with_reducible refine f_lstT ?_ | with_reducible refine b_tup ?_ ?_ | with_reducible refine z_lenfT ?_ | with_reducible refine f_lenT ?_ | with_reducible refine i_fT ?_ ?_ | with_reducible refine z_isiI ?_ | with_reducible refine z_isiB ?_ | with_reducible refine z_isiF ?_ | with_reducible refine z_isiT ?_ | with_reducible refine z_lenF ?_)
          · omega
          · rw [e0]; exact k M2 sb
        · have e2 : ((szTo qs qs.length : Int) - 0).toNat = szTo qs qs.length := by omega
          rw [e2, map_fr, range_getD hle]
          exact ⟨M', Sub.refl M', h⟩
theorem c__law_trim {M : Mp} {Q : DK} (hG : G "_law_trim" = sp__law_trim) (hs : Sq M d qs) (hz : qs.length ≤ 1000000) (h : Q (.tup (fL (trimQ qs))) M) : G "_law_trim" [d] M Q := by rw [hG]; exact ⟨d, qs, rfl, hs, hz, h⟩
end
end Pd

set_option maxHeartbeats 4000000
namespace Pd
open PySem PySem.Spec L2
/-- binomials -/
def ch : Nat → Nat → Nat
  | _, 0 => 1
  | 0, _ + 1 => 0
  | n + 1, k + 1 => ch n k + ch n (k + 1)
theorem ch_zero (n : Nat) : ch n 0 = 1 := by cases n <;> rfl
theorem ch_succ (n k : Nat) : ch (n + 1) (k + 1) = ch n k + ch n (k + 1) := rfl
theorem ch_out : ∀ {n k : Nat}, n < k → ch n k = 0
  | _, 0, h => by omega
  | 0, _ + 1, _ => rfl
  | n + 1, k + 1, h => by rw [ch_succ, ch_out (by omega), ch_out (by omega)]
theorem ch_self : ∀ n : Nat, ch n n = 1
  | 0 => rfl
  | n + 1 => by rw [ch_succ, ch_self n, ch_out (Nat.lt_succ_self n)]
theorem ch_le : ∀ n k : Nat, ch n k ≤ 2 ^ n
  | n, 0 => by rw [ch_zero]; exact Nat.pow_pos (by decide)
  | 0, _ + 1 => by show 0 ≤ _; exact Nat.zero_le _
  | n + 1, k + 1 => by
    have h1 := ch_le n k
    have h2 := ch_le n (k + 1)
    rw [ch_succ, Nat.pow_succ]; omega
theorem ch_pos : ∀ {n k : Nat}, k ≤ n → 0 < ch n k
  | n, 0, _ => by rw [ch_zero]; decide
  | 0, _ + 1, h => by omega
  | n + 1, k + 1, h => by
    have := ch_pos (n := n) (k := k) (by omega)
    rw [ch_succ]; omega
def pasc (k : Nat) : List Int := (List.range (k + 1)).map fun j => (ch k j : Int)
theorem pasc_len (k : Nat) : (pasc k).length = k + 1 := by unfold pasc; simp
theorem pasc_getD {k j : Nat} (h : j ≤ k) : (pasc k).getD j 0 = ch k j := by
  unfold pasc
  rw [List.getD_eq_getElem?_getD, List.getElem?_eq_getElem (by simp; omega), List.getElem_map, List.getElem_range]
  rfl
theorem pasc_next (k : Nat) : [1] ++ ((List.range k).map fun j => ((ch k j : Int) + ch k (j + 1))) ++ [1] = pasc (k + 1) := by
  refine List.ext_getElem (by simp [pasc]) fun i h1 h2 => ?_
  have hi : i < k + 2 := by simp [pasc] at h2; omega
  have e2 : (pasc (k + 1))[i] = (ch (k + 1) i : Int) := by simp [pasc]
  rw [e2]
  cases i with
  | zero => rw [ch_zero]; rfl
  | succ i =>
    by_cases e : i < k
    · rw [List.getElem_append_left (by simp; omega), List.getElem_append_right (by simp)]
      simp only [List.length_cons, List.length_nil, Nat.zero_add, Nat.add_sub_cancel]
      rw [List.getElem_map, List.getElem_range, ch_succ]; simp
    · have e : i = k := by omega
      subst e
      rw [List.getElem_append_right (by simp)]
      simp [ch_self]
section
variable {G : Str → DSp} {M : Mp} {Q : DK} {n : Int}
/-- the rows 0 .. n of Pascal's triangle -/
def Pas (M : Mp) (r : Addr) (n : Nat) : Prop := ∃ us : List Addr, listAt M r (us.map D.ref) ∧ us.length = n + 1 ∧ ∀ k : Nat, k ≤ n → ∃ u, us[k]? = some u ∧ listAt M u (iL (pasc k))
theorem Pas.sub {M' : Mp} {r : Addr} {n : Nat} (h : Pas M r n) (s : Sub M M') : Pas M' r n := by
  obtain ⟨us, l, e, h⟩ := h
  exact ⟨us, listAt_sub l s, e, fun k hk => let ⟨u, e1, e2⟩ := h k hk; ⟨u, e1, listAt_sub e2 s⟩⟩
theorem i_Pas {r : Addr} {m : Nat} (h : Pas M r m) (hi : 0 ≤ n ∧ n ≤ m) (k : ∀ u, listAt M u (iL (pasc n.toNat)) → Q (.ref u) M) : idxD (.ref r) (.int n) M Q := by
  obtain ⟨us, l, e, h⟩ := h
  obtain ⟨u, e1, e2⟩ := h n.toNat (by omega)
  refine ⟨_, .ref u, l, ?_, k u e2⟩
  unfold atI
  rw [ixN_in (by rw [List.length_map, e]; omega)]
  show (us.map D.ref)[n.toNat]? = _
  rw [List.getElem?_map, e1]; rfl
def p__law_pascal : Ps := (.seq (.asg [1] true (.lst (.cons (.lst (.cons (.int 1) .nil)) .nil)))
  (.seq (.for [2] true (.rng (.int 0) (.var 0))
    (.seq (.asg [3] true (.idx (.var 1) (.var 2)))
    (.expr (.mt .append (.var 1) (.cons (.bin .Add (.bin .Add (.lst (.cons (.int 1) .nil)) (.comp [4] [4] true (.rng (.int 0) (.var 2)) (.bl true) (.bin .Add (.idx (.var 3) (.var 4)) (.idx (.var 3) (.bin .Add (.var 4) (.int 1)))))) (.lst (.cons (.int 1) .nil))) .nil)))))
  (.ret (.var 1))))
def sp__law_pascal : DSp := fun ds M R => ∃ n : Nat, ds = [.int n] ∧ n ≤ 100000 ∧ ∀ r M', Sub M M' → Pas M' r n → R (.ref r) M'
theorem sub_new {M M' : Mp} {r : Addr} {o : MO} (s : Sub M M') (n : M' r = none) : Sub M (put M' r o) := s.put (s.none n)
theorem sub_put2 {M M' : Mp} {r : Addr} {o : MO} (s : Sub M M') (n : M r = none) : Sub M (put M' r o) := fun a u e => by
  have : a ≠ r := fun z => by subst z; rw [n] at e; cases e
  rw [put_ne this]; exact s a u e
theorem ok__law_pascal (ds M R) (h : sp__law_pascal ds M R) : wBody G p__law_pascal 5 ds M R := by
  obtain ⟨n, rfl, hn, h⟩ := h
  unfold p__law_pascal wBody
  repeat' (first | ((with_reducible refine e_var (d := ?_) ?_ ?_); rotate_left; exact rfl) | with_reducible refine e_cons ?_ | with_reducible refine x_tup ?_ | with_reducible refine e_nil ?_ | with_reducible refine e_int ?_ | with_reducible refine e_idx ?_ | with_reducible refine e_bin ?_ | with_reducible refine b_add ?_ | with_reducible refine b_sub ?_ | with_reducible refine b_mul ?_ ?_ | with_reducible refine i_fr0 ?_ | with_reducible refine i_fr1 ?_ | with_reducible refine e_call ?_ | with_reducible refine e_callK ?_ | with_reducible refine e_bi ?_ | with_reducible refine s_seq ?_ | with_reducible refine s_asg ?_ | with_reducible refine s_ret ?_ | with_reducible refine e_cmp ?_ | with_reducible refine c_eq ?_ | with_reducible refine c_ne ?_ | with_reducible refine c_lt ?_ | with_reducible refine c_le ?_ | with_reducible refine c_gt ?_ | with_reducible refine c_ge ?_ | with_reducible refine s_ife ?_ | with_reducible refine x_ifT ?_ | with_reducible refine x_ifF ?_ | with_reducible refine x_ifNT ?_ | with_reducible refine x_ifNF ?_ | with_reducible refine x_ifd (fun hc => ?_) (fun hc => ?_) | with_reducible refine x_ifn (fun hc => ?_) (fun hc => ?_) | with_reducible refine x_if (fun hc => ?_) (fun hc => ?_) | with_reducible refine s_skip ?_ | with_reducible refine s_expr ?_ | with_reducible refine e_mt ?_ | with_reducible refine b_div ?_ ?_ | with_reducible refine b_mod ?_ ?_ | with_reducible refine b_pow ?_ ?_ | with_reducible refine e_tup ?_ | with_reducible refine x_len (by simp only [List.length_cons, List.length_nil]; decide) ?_ | with_reducible refine e_neg ?_ | with_reducible refine x_int ?_ | with_reducible refine e_bl ?_ | with_reducible refine e_non ?_ | with_reducible refine e_str ?_ | with_reducible refine e_and ?_ | with_reducible refine e_or ?_ | with_reducible refine e_not ?_ | with_reducible refine e_truth ?_ | with_reducible refine x_bl ?_ | with_reducible refine t_bl ?_ | with_reducible refine t_int ?_ | with_reducible refine t_tup ?_ | with_reducible refine t_non ?_ | with_reducible refine e_ife ?_ | with_reducible refine e_isi ?_ | with_reducible refine f_abs ?_ | with_reducible refine f_int ?_ | with_reducible refine f_gcd ?_ | with_reducible refine f_max ?_ | with_reducible refine f_min ?_ | with_reducible refine f_tupT ?_ | with_reducible refine s_for ?_ | with_reducible refine w_rng ?_ | with_reducible refine x_rng ?_ ?_ | with_reducible refine w_it ?_ | with_reducible refine x_itT ?_ | with_reducible refine s_while ?_ | with_reducible refine e_lst ?_ | with_reducible refine e_cut ?_ | with_reducible refine e_absent ?_ | with_reducible refine e_asInt ?_ | with_reducible refine x_pI ?_ | with_reducible refine x_pN ?_ | with_reducible refine e_chain ?_ | with_reducible refine e_comp ?_ | with_reducible refine e_tcomp ?_ | with_reducible refine s_brk ?_ | with_reducible refine s_cont ?_ | ((with_reducible refine m_app (ds := ?_) ?_ ?_); rotate_left; (focus ((repeat (first | exact put_same | assumption | refine put_old ?_ (by assumption))); done))) | ((with_reducible refine m_app2 (ds := ?_) ?_ ?_ ?_); rotate_left; (focus ((repeat (first | exact put_same | assumption | refine put_old ?_ (by assumption))); done))) | ((with_reducible refine z_leniL (qs := ?_) ?_ ?_); rotate_left; first | exact Or.inl put_same | assumption | exact Or.inl (by assumption) | (refine Or.inl ?_; (focus ((repeat (first | exact put_same | assumption | refine put_old ?_ (by assumption))); done))) | exact listAt_put (by assumption) (by assumption) | exact listAt_sub (by assumption) (by assumption)) | ((with_reducible refine z_lenfL (qs := ?_) ?_ ?_); rotate_left; first | exact Or.inl put_same | assumption | exact Or.inl (by assumption) | (refine Or.inl ?_; (focus ((repeat (first | exact put_same | assumption | refine put_old ?_ (by assumption))); done))) | exact listAt_put (by assumption) (by assumption) | exact listAt_sub (by assumption) (by assumption)) | ((with_reducible refine f_lenL (ds := ?_) ?_ ?_); rotate_left; first | exact Or.inl put_same | assumption | exact Or.inl (by assumption) | (refine Or.inl ?_; (focus ((repeat (first | exact put_same | assumption | refine put_old ?_ (by assumption))); done))) | exact listAt_put (by assumption) (by assumption) | exact listAt_sub (by assumption) (by assumption)) | ((with_reducible refine i_iL (ns := ?_) ?_ ?_ ?_); rotate_left; first | exact Or.inl put_same | assumption | exact Or.inl (by assumption) | (refine Or.inl ?_; (focus ((repeat (first | exact put_same | assumption | refine put_old ?_ (by assumption))); done))) | exact listAt_put (by assumption) (by assumption) | exact listAt_sub (by assumption) (by assumption)) | ((with_reducible refine i_fL (ns := ?_) ?_ ?_ ?_); rotate_left; first | exact Or.inl put_same | assumption | exact Or.inl (by assumption) | (refine Or.inl ?_; (focus ((repeat (first | exact put_same | assumption | refine put_old ?_ (by assumption))); done))) | exact listAt_put (by assumption) (by assumption) | exact listAt_sub (by assumption) (by assumption)) | ((with_reducible refine f_tupL (ds := ?_) ?_ ?_); rotate_left; first | exact Or.inl put_same | assumption | exact Or.inl (by assumption) | (refine Or.inl ?_; (focus ((repeat (first | exact put_same | assumption | refine put_old ?_ (by assumption))); done))) | exact listAt_put (by assumption) (by assumption) | exact listAt_sub (by assumption) (by assumption)) | ((with_reducible refine x_itL (ds := ?_) ?_ ?_); rotate_left; first | exact Or.inl put_same | assumption | exact Or.inl (by assumption) | (refine Or.inl ?_; (focus ((repeat (first | exact put_same | assumption | refine put_old ?_ (by assumption))); done))) | exact listAt_put (by assumption) (by assumption) | exact listAt_sub (by assumption) (by assumption)) | with_reducible refine x_new (fun r nr => ?_) | ((with_reducible refine b_lst (ds := ?_) (es := ?_) ?_ ?_ ?_ ?_); rotate_left 2; (focus ((repeat (first | exact put_same | assumption | refine put_old ?_ (by assumption))); done)); (focus ((repeat (first | exact put_same | assumption | refine put_old ?_ (by assumption))); done))) | ((with_reducible refine b_rep (ds := ?_) ?_ ?_ ?_); rotate_left; (focus ((repeat (first | exact put_same | assumption | refine put_old ?_ (by assumption))); done))) | with_reducible refine f_lstT ?_ | with_reducible refine b_tup ?_ ?_ | with_reducible refine z_lenfT ?_ | with_reducible refine f_lenT ?_ | with_reducible refine i_fT ?_ ?_ | with_reducible refine z_isiI ?_ | with_reducible refine z_isiB ?_ | with_reducible refine z_isiF ?_ | with_reducible refine z_isiT ?_ | with_reducible refine z_lenF ?_)
  · omega
  · rename_i r0 n0
    revert nr
    revert r
    intro a na
    have hr0 : a ≠ r0 := fun e => by subst e; rw [put_same] at na; cases na
    have hMr : M a = none := by rw [put_ne hr0] at na; exact na
    refine for_rng (fun i σ M' => ∃ (us : List Addr) (o o' : Option D), σ = [some (.int n), some (.ref a), o, o', none] ∧ Sub M M' ∧ M' a = some (.lst (us.map D.ref)) ∧ us.length = i + 1 ∧ ∀ k : Nat, k ≤ i → ∃ u, us[k]? = some u ∧ u ≠ a ∧ listAt M' u (iL (pasc k)))
      ⟨[r0], none, none, rfl, sub_put2 ((Sub.refl M).put n0) hMr, put_same, rfl, fun k hk => ⟨r0, by rw [Nat.le_zero.mp hk]; rfl, Ne.symm hr0, by rw [Nat.le_zero.mp hk]; exact .inl (put_old put_same na)⟩⟩ ?_ ?_
    · rintro i σ M' hi ⟨us, o, o', rfl, sb, hr, hl, hu⟩
      obtain ⟨u, e1, hur, lu⟩ := hu i (Nat.le_refl i)
      have e0 : ((0 : Int) + i).toNat = i := by omega
      have hat : atI (us.map D.ref) (0 + (i : Int)) = some (.ref u) := by
        unfold atI
        rw [ixN_in (by rw [List.length_map, hl]; omega), e0]
        show (us.map D.ref)[i]? = _
        rw [List.getElem?_map, e1]; rfl
      have l0 : listAt M' a (us.map D.ref) := .inl hr
      repeat' (first | with_reducible refine i_ref l0 hat ?_ | ((with_reducible refine e_var (d := ?_) ?_ ?_); rotate_left; exact rfl) | with_reducible refine e_cons ?_ | with_reducible refine x_tup ?_ | with_reducible refine e_nil ?_ | with_reducible refine e_int ?_ | with_reducible refine e_idx ?_ | with_reducible refine e_bin ?_ | with_reducible refine b_add ?_ | with_reducible refine b_sub ?_ | with_reducible refine b_mul ?_ ?_ | with_reducible refine i_fr0 ?_ | with_reducible refine i_fr1 ?_ | with_reducible refine e_call ?_ | with_reducible refine e_callK ?_ | with_reducible refine e_bi ?_ | with_reducible refine s_seq ?_ | with_reducible refine s_asg ?_ | with_reducible refine s_ret ?_ | with_reducible refine e_cmp ?_ | with_reducible refine c_eq ?_ | with_reducible refine c_ne ?_ | with_reducible refine c_lt ?_ | with_reducible refine c_le ?_ | with_reducible refine c_gt ?_ | with_reducible refine c_ge ?_ | with_reducible refine s_ife ?_ | with_reducible refine x_ifT ?_ | with_reducible refine x_ifF ?_ | with_reducible refine x_ifNT ?_ | with_reducible refine x_ifNF ?_ | with_reducible refine x_ifd (fun hc => ?_) (fun hc => ?_) | with_reducible refine x_ifn (fun hc => ?_) (fun hc => ?_) | with_reducible refine x_if (fun hc => ?_) (fun hc => ?_) | with_reducible refine s_skip ?_ | with_reducible refine s_expr ?_ | with_reducible refine e_mt ?_ | with_reducible refine b_div ?_ ?_ | with_reducible refine b_mod ?_ ?_ | with_reducible refine b_pow ?_ ?_ | with_reducible refine e_tup ?_ | with_reducible refine x_len (by simp only [List.length_cons, List.length_nil]; decide) ?_ | with_reducible refine e_neg ?_ | with_reducible refine x_int ?_ | with_reducible refine e_bl ?_ | with_reducible refine e_non ?_ | with_reducible refine e_str ?_ | with_reducible refine e_and ?_ | with_reducible refine e_or ?_ | with_reducible refine e_not ?_ | with_reducible refine e_truth ?_ | with_reducible refine x_bl ?_ | with_reducible refine t_bl ?_ | with_reducible refine t_int ?_ | with_reducible refine t_tup ?_ | with_reducible refine t_non ?_ | with_reducible refine e_ife ?_ | with_reducible refine e_isi ?_ | with_reducible refine f_abs ?_ | with_reducible refine f_int ?_ | with_reducible refine f_gcd ?_ | with_reducible refine f_max ?_ | with_reducible refine f_min ?_ | with_reducible refine f_tupT ?_ | with_reducible refine s_for ?_ | with_reducible refine w_rng ?_ | with_reducible refine x_rng ?_ ?_ | with_reducible refine w_it ?_ | with_reducible refine x_itT ?_ | with_reducible refine s_while ?_ | with_reducible refine e_lst ?_ | with_reducible refine e_cut ?_ | with_reducible refine e_absent ?_ | with_reducible refine e_asInt ?_ | with_reducible refine x_pI ?_ | with_reducible refine x_pN ?_ | with_reducible refine e_chain ?_ | with_reducible refine e_comp ?_ | with_reducible refine e_tcomp ?_ | with_reducible refine s_brk ?_ | with_reducible refine s_cont ?_ | ((with_reducible refine m_app (ds := ?_) ?_ ?_); rotate_left; (focus ((repeat (first | exact put_same | assumption | refine put_old ?_ (by assumption))); done))) | ((with_reducible refine m_app2 (ds := ?_) ?_ ?_ ?_); rotate_left; (focus ((repeat (first | exact put_same | assumption | refine put_old ?_ (by assumption))); done))) | ((with_reducible refine z_leniL (qs := ?_) ?_ ?_); rotate_left; first | exact Or.inl put_same | assumption | exact Or.inl (by assumption) | (refine Or.inl ?_; (focus ((repeat (first | exact put_same | assumption | refine put_old ?_ (by assumption))); done))) | exact listAt_put (by assumption) (by assumption) | exact listAt_sub (by assumption) (by assumption)) | ((with_reducible refine z_lenfL (qs := ?_) ?_ ?_); rotate_left; first | exact Or.inl put_same | assumption | exact Or.inl (by assumption) | (refine Or.inl ?_; (focus ((repeat (first | exact put_same | assumption | refine put_old ?_ (by assumption))); done))) | exact listAt_put (by assumption) (by assumption) | exact listAt_sub (by assumption) (by assumption)) | ((with_reducible refine f_lenL (ds := ?_) ?_ ?_); rotate_left; first | exact Or.inl put_same | assumption | exact Or.inl (by assumption) | (refine Or.inl ?_; (focus ((repeat (first | exact put_same | assumption | refine put_old ?_ (by assumption))); done))) | exact listAt_put (by assumption) (by assumption) | exact listAt_sub (by assumption) (by assumption)) | ((with_reducible refine i_iL (ns := ?_) ?_ ?_ ?_); rotate_left; first | exact Or.inl put_same | assumption | exact Or.inl (by assumption) | (refine Or.inl ?_; (focus ((repeat (first | exact put_same | assumption | refine put_old ?_ (by assumption))); done))) | exact listAt_put (by assumption) (by assumption) | exact listAt_sub (by assumption) (by assumption)) | ((with_reducible refine i_fL (ns := ?_) ?_ ?_ ?_); rotate_left; first | exact Or.inl put_same | assumption | exact Or.inl (by assumption) | (refine Or.inl ?_; (focus ((repeat (first | exact put_same | assumption | refine put_old ?_ (by assumption))); done))) | exact listAt_put (by assumption) (by assumption) | exact listAt_sub (by assumption) (by assumption)) | ((with_reducible refine f_tupL (ds := ?_) ?_ ?_); rotate_left; first | exact Or.inl put_same | assumption | exact Or.inl (by assumption) | (refine Or.inl ?_; (focus ((repeat (first | exact put_same | assumption | refine put_old ?_ (by assumption))); done))) | exact listAt_put (by assumption) (by assumption) | exact listAt_sub (by assumption) (by assumption)) | ((with_reducible refine x_itL (ds := ?_) ?_ ?_); rotate_left; first | exact Or.inl put_same | assumption | exact Or.inl (by assumption) | (refine Or.inl ?_; (focus ((repeat (first | exact put_same | assumption | refine put_old ?_ (by assumption))); done))) | exact listAt_put (by assumption) (by assumption) | exact listAt_sub (by assumption) (by assumption)) | with_reducible refine x_new (fun r nr => ?_) | ((with_reducible refine b_lst (ds := ?_) (es := ?_) ?_ ?_ ?_ ?_); rotate_left 2; (focus ((repeat (first | exact put_same | assumption | refine put_old ?_ (by assumption))); done)); (focus ((repeat (first | exact put_same | assumption | refine put_old ?_ (by assumption))); done))) | ((with_reducible refine b_rep (ds := ?_) ?_ ?_ ?_); rotate_left; (focus ((repeat (first | exact put_same | assumption | refine put_old ?_ (by assumption))); done))) | with_reducible refine f_lstT ?_ | with_reducible refine b_tup ?_ ?_ | with_reducible refine z_lenfT ?_ | with_reducible refine f_lenT ?_ | with_reducible refine i_fT ?_ ?_ | with_reducible refine z_isiI ?_ | with_reducible refine z_isiB ?_ | with_reducible refine z_isiF ?_ | with_reducible refine z_isiT ?_ | with_reducible refine z_lenF ?_)
      · omega
      · refine comp_rng (fun j => .int ((ch i j : Int) + ch i (j + 1))) ?_ ?_ ?_
        · have := big_line (show n ≤ 1000000 by omega)
          omega
        · intro j M2 hj sb2 Q k
          have l2 : listAt M2 u (iL (pasc i)) := listAt_sub (listAt_put lu nr) sb2
          repeat' (first | ((with_reducible refine e_var (d := ?_) ?_ ?_); rotate_left; exact rfl) | with_reducible refine e_cons ?_ | with_reducible refine x_tup ?_ | with_reducible refine e_nil ?_ | with_reducible refine e_int ?_ | with_reducible refine e_idx ?_ | with_reducible refine e_bin ?_ | with_reducible refine b_add ?_ | with_reducible refine b_sub ?_ | with_reducible refine b_mul ?_ ?_ | with_reducible refine i_fr0 ?_ | with_reducible refine i_fr1 ?_ | with_reducible refine e_call ?_ | with_reducible refine e_callK ?_ | with_reducible refine e_bi ?_ | with_reducible refine s_seq ?_ | with_reducible refine s_asg ?_ | with_reducible refine s_ret ?_ | with_reducible refine e_cmp ?_ | with_reducible refine c_eq ?_ | with_reducible refine c_ne ?_ | with_reducible refine c_lt ?_ | with_reducible refine c_le ?_ | with_reducible refine c_gt ?_ | with_reducible refine c_ge ?_ | with_reducible refine s_ife ?_ | with_reducible refine x_ifT ?_ | with_reducible refine x_ifF ?_ | with_reducible refine x_ifNT ?_ | with_reducible refine x_ifNF ?_ | with_reducible refine x_ifd (fun hc => ?_) (fun hc => ?_) | with_reducible refine x_ifn (fun hc => ?_) (fun hc => ?_) | with_reducible refine x_if (fun hc => ?_) (fun hc => ?_) | with_reducible refine s_skip ?_ | with_reducible refine s_expr ?_ | with_reducible refine e_mt ?_ | with_reducible refine b_div ?_ ?_ | with_reducible refine b_mod ?_ ?_ | with_reducible refine b_pow ?_ ?_ | with_reducible refine e_tup ?_ | with_reducible refine x_len (by simp only [List.length_cons, List.length_nil]; decide) ?_ | with_reducible refine e_neg ?_ | with_reducible refine x_int ?_ | with_reducible refine e_bl ?_ | with_reducible refine e_non ?_ | with_reducible refine e_str ?_ | with_reducible refine e_and ?_ | with_reducible refine e_or ?_ | with_reducible refine e_not ?_ | with_reducible refine e_truth ?_ | with_reducible refine x_bl ?_ | with_reducible refine t_bl ?_ | with_reducible refine t_int ?_ | with_reducible refine t_tup ?_ | with_reducible refine t_non ?_ | with_reducible refine e_ife ?_ | with_reducible refine e_isi ?_ | with_reducible refine f_abs ?_ | with_reducible refine f_int ?_ | with_reducible refine f_gcd ?_ | with_reducible refine f_max ?_ | with_reducible refine f_min ?_ | with_reducible refine f_tupT ?_ | with_reducible refine s_for ?_ | with_reducible refine w_rng ?_ | with_reducible refine x_rng ?_ ?_ | with_reducible refine w_it ?_ | with_reducible refine x_itT ?_ | with_reducible refine s_while ?_ | with_reducible refine e_lst ?_ | with_reducible refine e_cut ?_ | with_reducible refine e_absent ?_ | with_reducible refine e_asInt ?_ | with_reducible refine x_pI ?_ | with_reducible refine x_pN ?_ | with_reducible refine e_chain ?_ | with_reducible refine e_comp ?_ | with_reducible refine e_tcomp ?_ | with_reducible refine s_brk ?_ | with_reducible refine s_cont ?_ | ((with_reducible refine m_app (ds := ?_) ?_ ?_); rotate_left; (focus ((repeat (first | exact put_same | assumption | refine put_old ?_ (by assumption))); done))) | ((with_reducible refine m_app2 (ds := ?_) ?_ ?_ ?_); rotate_left; (focus ((repeat (first | exact put_same | assumption | refine put_old ?_ (by assumption))); done))) | ((with_reducible refine z_leniL (qs := ?_) ?_ ?_); rotate_left; first | exact Or.inl put_same | assumption | exact Or.inl (by assumption) | (refine Or.inl ?_; (focus ((repeat (first | exact put_same | assumption | refine put_old ?_ (by assumption))); done))) | exact listAt_put (by assumption) (by assumption) | exact listAt_sub (by assumption) (by assumption)) | ((with_reducible refine z_lenfL (qs := ?_) ?_ ?_); rotate_left; first | exact Or.inl put_same | assumption | exact Or.inl (by assumption) | (refine Or.inl ?_; (focus ((repeat (first | exact put_same | assumption | refine put_old ?_ (by assumption))); done))) | exact listAt_put (by assumption) (by assumption) | exact listAt_sub (by assumption) (by assumption)) | ((with_reducible refine f_lenL (ds := ?_) ?_ ?_); rotate_left; first | exact Or.inl put_same | assumption | exact Or.inl (by assumption) | (refine Or.inl ?_; (focus ((repeat (first | exact put_same | assumption | refine put_old ?_ (by assumption))); done))) | exact listAt_put (by assumption) (by assumption) | exact listAt_sub (by assumption) (by assumption)) | ((with_reducible refine i_iL (ns := ?_) ?_ ?_ ?_); rotate_left; first | exact Or.inl put_same | assumption | exact Or.inl (by assumption) | (refine Or.inl ?_; (focus ((repeat (first | exact put_same | assumption | refine put_old ?_ (by assumption))); done))) | exact listAt_put (by assumption) (by assumption) | exact listAt_sub (by assumption) (by assumption)) | ((with_reducible refine i_fL (ns := ?_) ?_ ?_ ?_); rotate_left; first | exact Or.inl put_same | assumption | exact Or.inl (by assumption) | (refine Or.inl ?_; (focus ((repeat (first | exact put_same | assumption | refine put_old ?_ (by assumption))); done))) | exact listAt_put (by assumption) (by assumption) | exact listAt_sub (by assumption) (by assumption)) | ((with_reducible refine f_tupL (ds := ?_) ?_ ?_); rotate_left; first | exact Or.inl put_same | assumption | exact Or.inl (by assumption) | (refine Or.inl ?_; (focus ((repeat (first | exact put_same | assumption | refine put_old ?_ (by assumption))); done))) | exact listAt_put (by assumption) (by assumption) | exact listAt_sub (by assumption) (by assumption)) | ((with_reducible refine x_itL (ds := ?_) ?_ ?_); rotate_left; first | exact Or.inl put_same | assumption | exact Or.inl (by assumption) | (refine Or.inl ?_; (focus ((repeat (first | exact put_same | assumption | refine put_old ?_ (by assumption))); done))) | exact listAt_put (by assumption) (by assumption) | exact listAt_sub (by assumption) (by assumption)) | with_reducible refine x_new (fun r nr => ?_) | ((with_reducible refine b_lst (ds := ?_) (es := ?_) ?_ ?_ ?_ ?_); rotate_left 2; (focus ((repeat (first | exact put_same | assumption | refine put_old ?_ (by assumption))); done)); (focus ((repeat (first | exact put_same | assumption | refine put_old ?_ (by assumption))); done))) | ((with_reducible refine b_rep (ds := ?_) ?_ ?_ ?_); rotate_left; (focus ((repeat (first | exact put_same | assumption | refine put_old ?_ (by assumption))); done))) | with_reducible refine f_lstT ?_ | with_reducible refine b_tup ?_ ?_ | with_reducible refine z_lenfT ?_ | with_reducible refine f_lenT ?_ | with_reducible refine i_fT ?_ ?_ | with_reducible refine z_isiI ?_ | with_reducible refine z_isiB ?_ | with_reducible refine z_isiF ?_ | with_reducible refine z_isiT ?_ | with_reducible refine z_lenF ?_)
          · rw [pasc_len]; omega
          · rw [pasc_len]; omega
          · have a1 : ((0 : Int) + j).toNat = j := by omega
            have a2 : ((0 : Int) + j + 1).toNat = j + 1 := by omega
            rw [a1, a2, pasc_getD (by omega), pasc_getD (by omega)]
            exact k M2 sb2
        · have e4 : ((0 : Int) + i - 0).toNat = i := by omega
          rw [e4, map_int]
          have hz := big_line (show i + 3 ≤ 1000000 by omega)
          repeat' (first | ((with_reducible refine e_var (d := ?_) ?_ ?_); rotate_left; exact rfl) | with_reducible refine e_cons ?_ | with_reducible refine x_tup ?_ | with_reducible refine e_nil ?_ | with_reducible refine e_int ?_ | with_reducible refine e_idx ?_ | with_reducible refine e_bin ?_ | with_reducible refine b_add ?_ | with_reducible refine b_sub ?_ | with_reducible refine b_mul ?_ ?_ | with_reducible refine i_fr0 ?_ | with_reducible refine i_fr1 ?_ | with_reducible refine e_call ?_ | with_reducible refine e_callK ?_ | with_reducible refine e_bi ?_ | with_reducible refine s_seq ?_ | with_reducible refine s_asg ?_ | with_reducible refine s_ret ?_ | with_reducible refine e_cmp ?_ | with_reducible refine c_eq ?_ | with_reducible refine c_ne ?_ | with_reducible refine c_lt ?_ | with_reducible refine c_le ?_ | with_reducible refine c_gt ?_ | with_reducible refine c_ge ?_ | with_reducible refine s_ife ?_ | with_reducible refine x_ifT ?_ | with_reducible refine x_ifF ?_ | with_reducible refine x_ifNT ?_ | with_reducible refine x_ifNF ?_ | with_reducible refine x_ifd (fun hc => ?_) (fun hc => ?_) | with_reducible refine x_ifn (fun hc => ?_) (fun hc => ?_) | with_reducible refine x_if (fun hc => ?_) (fun hc => ?_) | with_reducible refine s_skip ?_ | with_reducible refine s_expr ?_ | with_reducible refine e_mt ?_ | with_reducible refine b_div ?_ ?_ | with_reducible refine b_mod ?_ ?_ | with_reducible refine b_pow ?_ ?_ | with_reducible refine e_tup ?_ | with_reducible refine x_len (by simp only [List.length_cons, List.length_nil]; decide) ?_ | with_reducible refine e_neg ?_ | with_reducible refine x_int ?_ | with_reducible refine e_bl ?_ | with_reducible refine e_non ?_ | with_reducible refine e_str ?_ | with_reducible refine e_and ?_ | with_reducible refine e_or ?_ | with_reducible refine e_not ?_ | with_reducible refine e_truth ?_ | with_reducible refine x_bl ?_ | with_reducible refine t_bl ?_ | with_reducible refine t_int ?_ | with_reducible refine t_tup ?_ | with_reducible refine t_non ?_ | with_reducible refine e_ife ?_ | with_reducible refine e_isi ?_ | with_reducible refine f_abs ?_ | with_reducible refine f_int ?_ | with_reducible refine f_gcd ?_ | with_reducible refine f_max ?_ | with_reducible refine f_min ?_ | with_reducible refine f_tupT ?_ | with_reducible refine s_for ?_ | with_reducible refine w_rng ?_ | with_reducible refine x_rng ?_ ?_ | with_reducible refine w_it ?_ | with_reducible refine x_itT ?_ | with_reducible refine s_while ?_ | with_reducible refine e_lst ?_ | with_reducible refine e_cut ?_ | with_reducible refine e_absent ?_ | with_reducible refine e_asInt ?_ | with_reducible refine x_pI ?_ | with_reducible refine x_pN ?_ | with_reducible refine e_chain ?_ | with_reducible refine e_comp ?_ | with_reducible refine e_tcomp ?_ | with_reducible refine s_brk ?_ | with_reducible refine s_cont ?_ | ((with_reducible refine m_app (ds := ?_) ?_ ?_); rotate_left; (focus ((repeat (first | exact put_same | assumption | refine put_old ?_ (by assumption))); done))) | ((with_reducible refine m_app2 (ds := ?_) ?_ ?_ ?_); rotate_left; (focus ((repeat (first | exact put_same | assumption | refine put_old ?_ (by assumption))); done))) | ((with_reducible refine z_leniL (qs := ?_) ?_ ?_); rotate_left; first | exact Or.inl put_same | assumption | exact Or.inl (by assumption) | (refine Or.inl ?_; (focus ((repeat (first | exact put_same | assumption | refine put_old ?_ (by assumption))); done))) | exact listAt_put (by assumption) (by assumption) | exact listAt_sub (by assumption) (by assumption)) | ((with_reducible refine z_lenfL (qs := ?_) ?_ ?_); rotate_left; first | exact Or.inl put_same | assumption | exact Or.inl (by assumption) | (refine Or.inl ?_; (focus ((repeat (first | exact put_same | assumption | refine put_old ?_ (by assumption))); done))) | exact listAt_put (by assumption) (by assumption) | exact listAt_sub (by assumption) (by assumption)) | ((with_reducible refine f_lenL (ds := ?_) ?_ ?_); rotate_left; first | exact Or.inl put_same | assumption | exact Or.inl (by assumption) | (refine Or.inl ?_; (focus ((repeat (first | exact put_same | assumption | refine put_old ?_ (by assumption))); done))) | exact listAt_put (by assumption) (by assumption) | exact listAt_sub (by assumption) (by assumption)) | ((with_reducible refine i_iL (ns := ?_) ?_ ?_ ?_); rotate_left; first | exact Or.inl put_same | assumption | exact Or.inl (by assumption) | (refine Or.inl ?_; (focus ((repeat (first | exact put_same | assumption | refine put_old ?_ (by assumption))); done))) | exact listAt_put (by assumption) (by assumption) | exact listAt_sub (by assumption) (by assumption)) | ((with_reducible refine i_fL (ns := ?_) ?_ ?_ ?_); rotate_left; first | exact Or.inl put_same | assumption | exact Or.inl (by assumption) | (refine Or.inl ?_; (focus ((repeat (first | exact put_same | assumption | refine put_old ?_ (by assumption))); done))) | exact listAt_put (by assumption) (by assumption) | exact listAt_sub (by assumption) (by assumption)) | ((with_reducible refine f_tupL (ds := ?_) ?_ ?_); rotate_left; first | exact Or.inl put_same | assumption | exact Or.inl (by assumption) | (refine Or.inl ?_; (focus ((repeat (first | exact put_same | assumption | refine put_old ?_ (by assumption))); done))) | exact listAt_put (by assumption) (by assumption) | exact listAt_sub (by assumption) (by assumption)) | ((with_reducible refine x_itL (ds := ?_) ?_ ?_); rotate_left; first | exact Or.inl put_same | assumption | exact Or.inl (by assumption) | (refine Or.inl ?_; (focus ((repeat (first | exact put_same | assumption | refine put_old ?_ (by assumption))); done))) | exact listAt_put (by assumption) (by assumption) | exact listAt_sub (by assumption) (by assumption)) | with_reducible refine x_new (fun r nr => ?_) | ((with_reducible refine b_lst (ds := ?_) (es := ?_) ?_ ?_ ?_ ?_); rotate_left 2; (focus ((repeat (first | exact put_same | assumption | refine put_old ?_ (by assumption))); done)); (focus ((repeat (first | exact put_same | assumption | refine put_old ?_ (by assumption))); done))) | ((with_reducible refine b_rep (ds := ?_) ?_ ?_ ?_); rotate_left; (focus ((repeat (first | exact put_same | assumption | refine put_old ?_ (by assumption))); done))) | with_reducible refine f_lstT ?_ | with_reducible refine b_tup ?_ ?_ | with_reducible refine z_lenfT ?_ | with_reducible refine f_lenT ?_ | with_reducible refine i_fT ?_ ?_ | with_reducible refine z_isiI ?_ | with_reducible refine z_isiB ?_ | with_reducible refine z_isiF ?_ | with_reducible refine z_isiT ?_ | with_reducible refine z_lenF ?_)
          · simp [iL_len]; omega
          · simp [iL_len]; omega
          · simp [hl]; omega
          · rename_i b nb c nc d nd e ne
            have s0 := fun oe => sub_new (o := oe) (sub_new (sub_new (sub_new (Sub.refl M') nb) nc) nd) ne
            have s1 := fun oe => sub_new (o := oe) (s0 (.lst [.int 1])) nr
            have hra : r ≠ a := fun z => by
              subst z
              have := s0 (.lst [.int 1]) _ _ hr
              rw [nr] at this; cases this
            refine ⟨_, Sub.refl _, us ++ [r], _, _, rfl, sub_put2 (sb.trans (s1 _)) hMr, ?_, by simp [hl], fun k hk => ?_⟩
            · rw [put_same]; simp
            · by_cases q : k ≤ i
              · obtain ⟨v, v1, v2, v3⟩ := hu k q
                refine ⟨v, by rw [List.getElem?_append_left (by omega)]; exact v1, v2, ?_⟩
                have l4 := listAt_sub v3 (s1 (.lst ([.int 1] ++ iL (List.map (fun j => (ch i j : Int) + ch i (j + 1)) (List.range i)) ++ [.int 1])))
                rcases l4 with l4 | l4
                · exact .inl (by rw [put_ne v2]; exact l4)
                · exact .inr (by rw [put_ne v2]; exact l4)
              · have q : k = i + 1 := by omega
                subst q
                refine ⟨r, by rw [← hl, List.getElem?_append_right (Nat.le_refl _)]; simp, hra, .inl ?_⟩
                rw [put_ne hra, put_same]
                have e5 : [D.int 1] = iL [1] := rfl
                rw [e5, iL_app, iL_app, pasc_next]
    · rintro σ M' ⟨us, o, o', rfl, sb, hr, hl, hu⟩
      have e1 : ((n : Int) - 0).toNat = n := by omega
      rw [e1] at hl hu
      repeat' (first | ((with_reducible refine e_var (d := ?_) ?_ ?_); rotate_left; exact rfl) | with_reducible refine e_cons ?_ | with_reducible refine x_tup ?_ | with_reducible refine e_nil ?_ | with_reducible refine e_int ?_ | with_reducible refine e_idx ?_ | with_reducible refine e_bin ?_ | with_reducible refine b_add ?_ | with_reducible refine b_sub ?_ | with_reducible refine b_mul ?_ ?_ | with_reducible refine i_fr0 ?_ | with_reducible refine i_fr1 ?_ | with_reducible refine e_call ?_ | with_reducible refine e_callK ?_ | with_reducible refine e_bi ?_ | with_reducible refine s_seq ?_ | with_reducible refine s_asg ?_ | with_reducible refine s_ret ?_ | with_reducible refine e_cmp ?_ | with_reducible refine c_eq ?_ | with_reducible refine c_ne ?_ | with_reducible refine c_lt ?_ | with_reducible refine c_le ?_ | with_reducible refine c_gt ?_ | with_reducible refine c_ge ?_ | with_reducible refine s_ife ?_ | with_reducible refine x_ifT ?_ | with_reducible refine x_ifF ?_ | with_reducible refine x_ifNT ?_ | with_reducible refine x_ifNF ?_ | with_reducible refine x_ifd (fun hc => ?_) (fun hc => ?_) | with_reducible refine x_ifn (fun hc => ?_) (fun hc => ?_) | with_reducible refine x_if (fun hc => ?_) (fun hc => ?_) | with_reducible refine s_skip ?_ | with_reducible refine s_expr ?_ | with_reducible refine e_mt ?_ | with_reducible refine b_div ?_ ?_ | with_reducible refine b_mod ?_ ?_ | with_reducible refine b_pow ?_ ?_ | with_reducible refine e_tup ?_ | with_reducible refine x_len (by simp only [List.length_cons, List.length_nil]; decide) ?_ | with_reducible refine e_neg ?_ | with_reducible refine x_int ?_ | with_reducible refine e_bl ?_ | with_reducible refine e_non ?_ | with_reducible refine e_str ?_ | with_reducible refine e_and ?_ | with_reducible refine e_or ?_ | with_reducible refine e_not ?_ | with_reducible refine e_truth ?_ | with_reducible refine x_bl ?_ | with_reducible refine t_bl ?_ | with_reducible refine t_int ?_ | with_reducible refine t_tup ?_ | with_reducible refine t_non ?_ | with_reducible refine e_ife ?_ | with_reducible refine e_isi ?_ | with_reducible refine f_abs ?_ | with_reducible refine f_int ?_ | with_reducible refine f_gcd ?_ | with_reducible refine f_max ?_ | with_reducible refine f_min ?_ | with_reducible refine f_tupT ?_ | with_reducible refine s_for ?_ | with_reducible refine w_rng ?_ | with_reducible refine x_rng ?_ ?_ | with_reducible refine w_it ?_ | with_reducible refine x_itT ?_ | with_reducible refine s_while ?_ | with_reducible refine e_lst ?_ | with_reducible refine e_cut ?_ | with_reducible refine e_absent ?_ | with_reducible refine e_asInt ?_ | with_reducible refine x_pI ?_ | with_reducible refine x_pN ?_ | with_reducible refine e_chain ?_ | with_reducible refine e_comp ?_ | with_reducible refine e_tcomp ?_ | with_reducible refine s_brk ?_ | with_reducible refine s_cont ?_ | ((with_reducible refine m_app (ds := ?_) ?_ ?_); rotate_left; (focus ((repeat (first | exact put_same | assumption | refine put_old ?_ (by assumption))); done))) | ((with_reducible refine m_app2 (ds := ?_) ?_ ?_ ?_); rotate_left; (focus ((repeat (first | exact put_same | assumption | refine put_old ?_ (by assumption))); done))) | ((with_reducible refine z_leniL (qs := ?_) ?_ ?_); rotate_left; first | exact Or.inl put_same | assumption | exact Or.inl (by assumption) | (refine Or.inl ?_; (focus ((repeat (first | exact put_same | assumption | refine put_old ?_ (by assumption))); done))) | exact listAt_put (by assumption) (by assumption) | exact listAt_sub (by assumption) (by assumption)) | ((with_reducible refine z_lenfL (qs := ?_) ?_ ?_); rotate_left; first | exact Or.inl put_same | assumption | exact Or.inl (by assumption) | (refine Or.inl ?_; (focus ((repeat (first | exact put_same | assumption | refine put_old ?_ (by assumption))); done))) | exact listAt_put (by assumption) (by assumption) | exact listAt_sub (by assumption) (by assumption)) | ((with_reducible refine f_lenL (ds := ?_) ?_ ?_); rotate_left; first | exact Or.inl put_same | assumption | exact Or.inl (by assumption) | (refine Or.inl ?_; (focus ((repeat (first | exact put_same | assumption | refine put_old ?_ (by assumption))); done))) | exact listAt_put (by assumption) (by assumption) | exact listAt_sub (by assumption) (by assumption)) | ((with_reducible refine i_iL (ns := ?_) ?_ ?_ ?_); rotate_left; first | exact Or.inl put_same | assumption | exact Or.inl (by assumption) | (refine Or.inl ?_; (focus ((repeat (first | exact put_same | assumption | refine put_old ?_ (by assumption))); done))) | exact listAt_put (by assumption) (by assumption) | exact listAt_sub (by assumption) (by assumption)) | ((with_reducible refine i_fL (ns := ?_) ?_ ?_ ?_); rotate_left; first | exact Or.inl put_same | assumption | exact Or.inl (by assumption) | (refine Or.inl ?_; (focus ((repeat (first | exact put_same | assumption | refine put_old ?_ (by assumption))); done))) | exact listAt_put (by assumption) (by assumption) | exact listAt_sub (by assumption) (by assumption)) | ((with_reducible refine f_tupL (ds := ?_) ?_ ?_); rotate_left; first | exact Or.inl put_same | assumption | exact Or.inl (by assumption) | (refine Or.inl ?_; (focus ((repeat (first | exact put_same | assumption | refine put_old ?_ (by assumption))); done))) | exact listAt_put (by assumption) (by assumption) | exact listAt_sub (by assumption) (by assumption)) | ((with_reducible refine x_itL (ds := ?_) ?_ ?_); rotate_left; first | exact Or.inl put_same | assumption | exact Or.inl (by assumption) | (refine Or.inl ?_; (focus ((repeat (first | exact put_same | assumption | refine put_old ?_ (by assumption))); done))) | exact listAt_put (by assumption) (by assumption) | exact listAt_sub (by assumption) (by assumption)) | with_reducible refine x_new (fun r nr => ?_) | ((with_reducible refine b_lst (ds := ?_) (es := ?_) ?_ ?_ ?_ ?_); rotate_left 2; (focus ((repeat (first | exact put_same | assumption | refine put_old ?_ (by assumption))); done)); (focus ((repeat (first | exact put_same | assumption | refine put_old ?_ (by assumption))); done))) | ((with_reducible refine b_rep (ds := ?_) ?_ ?_ ?_); rotate_left; (focus ((repeat (first | exact put_same | assumption | refine put_old ?_ (by assumption))); done))) | with_reducible refine f_lstT ?_ | with_reducible refine b_tup ?_ ?_ | with_reducible refine z_lenfT ?_ | with_reducible refine f_lenT ?_ | with_reducible refine i_fT ?_ ?_ | with_reducible refine z_isiI ?_ | with_reducible refine z_isiB ?_ | with_reducible refine z_isiF ?_ | with_reducible refine z_isiT ?_ | with_reducible refine z_lenF ?_)
      exact ⟨M', Sub.refl M', h a M' sb ⟨us, .inl hr, hl, fun k hk => let ⟨u, a, _, b⟩ := hu k hk; ⟨u, a, b⟩⟩⟩
theorem c__law_pascal {n : Int} {M : Mp} {Q : DK} (hG : G "_law_pascal" = sp__law_pascal) (hn : 0 ≤ n ∧ n ≤ 100000) (h : ∀ r M', Sub M M' → Pas M' r n.toNat → Q (.ref r) M') : G "_law_pascal" [.int n] M Q := by
  rw [hG]
  refine ⟨n.toNat, ?_, by omega, h⟩
  have : ((n.toNat : Nat) : Int) = n := by omega
  rw [this]
end
end Pd

set_option maxHeartbeats 4000000
namespace Pd
open PySem
def sumTo (f : Nat → Rat) : Nat → Rat
  | 0 => 0
  | n + 1 => sumTo f n + f n
theorem sumTo_succ (f : Nat → Rat) (n : Nat) : sumTo f (n + 1) = sumTo f n + f n := rfl
theorem sumTo_congr {f g : Nat → Rat} : ∀ {n : Nat}, (∀ i, i < n → f i = g i) → sumTo f n = sumTo g n
  | 0, _ => rfl
  | n + 1, h => by rw [sumTo_succ, sumTo_succ, sumTo_congr fun i hi => h i (by omega), h n (by omega)]
theorem sumTo_add (f g : Nat → Rat) : ∀ n, sumTo (fun i => f i + g i) n = sumTo f n + sumTo g n
  | 0 => by simp only [sumTo]; grind
  | n + 1 => by rw [sumTo_succ, sumTo_succ, sumTo_succ, sumTo_add f g n]; grind
theorem sumTo_mul (c : Rat) (f : Nat → Rat) : ∀ n, sumTo (fun i => c * f i) n = c * sumTo f n
  | 0 => by simp only [sumTo]; grind
  | n + 1 => by rw [sumTo_succ, sumTo_succ, sumTo_mul c f n]; grind
theorem sumTo_mulR (c : Rat) (f : Nat → Rat) (n : Nat) : sumTo (fun i => f i * c) n = sumTo f n * c := by
  rw [Rat.mul_comm, ← sumTo_mul]
  exact sumTo_congr fun i _ => Rat.mul_comm _ _
theorem sumTo_zero (n : Nat) : sumTo (fun _ => 0) n = 0 := by
  induction n with
  | zero => rfl
  | succ n ih => rw [sumTo_succ, ih]; grind
theorem sumTo_zero' {f : Nat → Rat} {n : Nat} (h : ∀ i, i < n → f i = 0) : sumTo f n = 0 := (sumTo_congr h).trans (sumTo_zero n)
theorem sumTo_left (f : Nat → Rat) : ∀ n, sumTo f (n + 1) = f 0 + sumTo (fun i => f (i + 1)) n
  | 0 => by simp only [sumTo]; grind
  | n + 1 => by rw [sumTo_succ, sumTo_left f n, sumTo_succ]; grind
theorem sumTo_swap (f : Nat → Nat → Rat) (m : Nat) : ∀ n, sumTo (fun i => sumTo (f i) m) n = sumTo (fun j => sumTo (fun i => f i j) n) m
  | 0 => by
    simp only [sumTo]
    exact (sumTo_zero m).symm
  | n + 1 => by
    rw [sumTo_succ, sumTo_swap f m n, ← sumTo_add]
    rfl
theorem sumTo_more {f : Nat → Rat} {n m : Nat} (h : n ≤ m) (z : ∀ i, n ≤ i → i < m → f i = 0) : sumTo f m = sumTo f n := by
  induction m with
  | zero => rw [Nat.le_zero.mp h]
  | succ m ih =>
    by_cases e : n = m + 1
    · rw [e]
    · rw [sumTo_succ, ih (by omega) (fun i h1 h2 => z i h1 (by omega)), z m (by omega) (by omega)]
      grind
theorem sumTo_one {f : Nat → Rat} {n j : Nat} (h : j < n) (z : ∀ i, i < n → i ≠ j → f i = 0) : sumTo f n = f j := by
  induction n with
  | zero => omega
  | succ n ih =>
    rw [sumTo_succ]
    by_cases e : j = n
    · subst e
      rw [sumTo_zero' fun i hi => z i (by omega) (by omega)]
      grind
    · rw [ih (by omega) fun i h1 h2 => z i (by omega) h2, z n (by omega) (fun q => e q.symm)]
      grind
theorem sumTo_sz {f : Nat → Rat} {L : Nat} : ∀ {n : Nat}, (∀ i, i < n → Sz L (f i)) → Sz (n * (L + 1) + 1) (sumTo f n)
  | 0, _ => Sz.zero (by omega)
  | n + 1, h => by
    rw [sumTo_succ]
    have := (sumTo_sz (f := f) (n := n) fun i hi => h i (by omega)).add (h n (by omega))
    refine this.mono ?_
    rw [Nat.add_mul]; omega
/-- (-1)^n -/
def sg (n : Nat) : Rat := if n % 2 = 0 then 1 else -1
theorem sg_zero : sg 0 = 1 := rfl
theorem sg_succ (n : Nat) : sg (n + 1) = - sg n := by
  unfold sg
  by_cases h : n % 2 = 0
  · rw [if_pos h, if_neg (by omega)]
  · rw [if_neg h, if_pos (by omega)]; grind
/-- binomials as fractions -/
def cR (n k : Nat) : Rat := ((ch n k : Nat) : Rat)
theorem cR_zero (n : Nat) : cR n 0 = 1 := by unfold cR; rw [ch_zero]; rfl
theorem cR_succ (n k : Nat) : cR (n + 1) (k + 1) = cR n k + cR n (k + 1) := by unfold cR; rw [ch_succ, Rat.natCast_add]
theorem cR_out {n k : Nat} (h : n < k) : cR n k = 0 := by unfold cR; rw [ch_out h]; rfl
theorem cR_ne {n k : Nat} (h : k ≤ n) : cR n k ≠ 0 := by
  unfold cR
  have := ch_pos h
  intro e
  have := Rat.natCast_eq_zero_iff.mp e
  omega
theorem cR_self (n : Nat) : cR n n = 1 := by unfold cR; rw [ch_self]; rfl
/-- k binomials: C(n, k+1) (k+1) = C(n, k) (n - k) -/
theorem cR_step : ∀ n k : Nat, cR n (k + 1) * ((k : Rat) + 1) + cR n k * k = cR n k * n
  | 0, 0 => by rw [cR_out (by omega), cR_zero]; simp; exact Rat.add_zero 0
  | 0, k + 1 => by rw [cR_out (by omega), cR_out (by omega)]; grind
  | n + 1, 0 => by
    have h := cR_step n 0
    rw [cR_succ, cR_zero, cR_zero] at *
    have e : ((n + 1 : Nat) : Rat) = n + 1 := by simp
    have e0 : ((0 : Nat) : Rat) = 0 := rfl
    rw [e, e0] at *
    grind
  | n + 1, k + 1 => by
    have h1 := cR_step n k
    have h2 := cR_step n (k + 1)
    rw [cR_succ, cR_succ]
    have e : ((n + 1 : Nat) : Rat) = n + 1 := by simp
    have e2 : ((k + 1 : Nat) : Rat) = k + 1 := by simp
    rw [e, e2] at *
    grind
/-- C(n, k) C(n-k, s-k) = C(n, s) C(s, k) -/
theorem cR_mul : ∀ n s k : Nat, k ≤ s → s ≤ n → cR n k * cR (n - k) (s - k) = cR n s * cR s k
  | n, s, 0, _, _ => by rw [cR_zero, cR_zero, Nat.sub_zero, Nat.sub_zero]; grind
  | n, 0, k + 1, h, _ => by omega
  | 0, s + 1, k + 1, _, h => by omega
  | n + 1, s + 1, k + 1, h1, h2 => by
    have e1 : n + 1 - (k + 1) = n - k := by omega
    have e2 : s + 1 - (k + 1) = s - k := by omega
    rw [e1, e2]
    have a := cR_mul n s k (by omega) (by omega)
    by_cases hs : s + 1 ≤ n
    · rw [cR_succ, cR_succ, cR_succ]
      by_cases hk : k + 1 ≤ s
      · have b := cR_mul n s (k + 1) hk (by omega)
        have c := cR_mul n (s + 1) (k + 1) (by omega) hs
        have d := cR_mul n (s + 1) k (by omega) hs
        have e3 : s + 1 - (k + 1) = s - k := by omega
        rw [e3] at c
        have e4 : n - k = (n - (k + 1)) + 1 := by omega
        have e5 : s - k = (s - (k + 1)) + 1 := by omega
        have e6 : s + 1 - k = (s - k) + 1 := by omega
        have p1 : cR (n - k) (s - k) = cR (n - (k + 1)) (s - (k + 1)) + cR (n - (k + 1)) (s - k) := by
          rw [e4, e5, cR_succ]
        rw [cR_succ] at c
        rw [p1] at a ⊢
        grind
      · have hk : k = s := by omega
        subst hk
        rw [Nat.sub_self, cR_zero, cR_self, cR_out (Nat.lt_succ_self k)]
        grind
    · have hs : s = n := by omega
      subst hs
      rw [cR_self, cR_self]
      by_cases hk : k ≤ s
      · grind
      · omega
/-- the alternating sums -/
def alt (s i : Nat) : Rat := sumTo (fun k => sg (s + k) * cR s k * cR k i) (s + 1)
theorem alt_zero (i : Nat) : alt 0 i = if i = 0 then 1 else 0 := by
  unfold alt
  rw [sumTo_succ]
  show 0 + sg 0 * cR 0 0 * cR 0 i = _
  rw [sg_zero, cR_zero]
  by_cases h : i = 0
  · subst h; rw [if_pos rfl, cR_zero]; grind
  · rw [if_neg h, cR_out (by omega)]; grind
theorem alt_step (s : Nat) (f : Nat → Rat) : sumTo (fun k => sg (s + 1 + k) * cR (s + 1) k * f k) (s + 2) = sumTo (fun k => sg (s + k) * cR s k * f (k + 1)) (s + 1) - sumTo (fun k => sg (s + k) * cR s k * f k) (s + 1) := by
  rw [sumTo_left]
  have h1 : sumTo (fun i => sg (s + 1 + (i + 1)) * cR (s + 1) (i + 1) * f (i + 1)) (s + 1) = sumTo (fun k => sg (s + k) * cR s k * f (k + 1)) (s + 1) + sumTo (fun k => sg (s + k) * cR s (k + 1) * f (k + 1)) (s + 1) := by
    rw [← sumTo_add]
    refine sumTo_congr fun i _ => ?_
    have : s + 1 + (i + 1) = (s + i + 1) + 1 := by omega
    rw [this, sg_succ, sg_succ, cR_succ]
    grind
  have h2 : sumTo (fun k => sg (s + k) * cR s (k + 1) * f (k + 1)) (s + 1) = sumTo (fun k => sg (s + k) * cR s (k + 1) * f (k + 1)) s := by
    rw [sumTo_succ, cR_out (Nat.lt_succ_self s)]; grind
  have h3 : sumTo (fun k => sg (s + k) * cR s k * f k) (s + 1) = sg s * f 0 - sumTo (fun k => sg (s + k) * cR s (k + 1) * f (k + 1)) s := by
    rw [sumTo_left]
    have : sumTo (fun i => sg (s + (i + 1)) * cR s (i + 1) * f (i + 1)) s = (-1) * sumTo (fun k => sg (s + k) * cR s (k + 1) * f (k + 1)) s := by
      rw [← sumTo_mul]
      refine sumTo_congr fun i _ => ?_
      have : s + (i + 1) = (s + i) + 1 := by omega
      rw [this, sg_succ]
      grind
    rw [this, cR_zero]
    have : s + 0 = s := rfl
    rw [this]
    grind
  rw [h1, h2, h3]
  have : sg (s + 1 + 0) = - sg s := sg_succ s
  rw [this, cR_zero]
  grind
theorem alt_succ_zero (s : Nat) : alt (s + 1) 0 = 0 := by
  unfold alt
  rw [alt_step s (fun k => cR k 0)]
  have : sumTo (fun k => sg (s + k) * cR s k * cR (k + 1) 0) (s + 1) = sumTo (fun k => sg (s + k) * cR s k * cR k 0) (s + 1) := sumTo_congr fun i _ => by rw [cR_zero, cR_zero]
  rw [this]; grind
theorem alt_succ_succ (s i : Nat) : alt (s + 1) (i + 1) = alt s i := by
  unfold alt
  rw [alt_step s (fun k => cR k (i + 1))]
  have : sumTo (fun k => sg (s + k) * cR s k * cR (k + 1) (i + 1)) (s + 1) = sumTo (fun k => sg (s + k) * cR s k * cR k i) (s + 1) + sumTo (fun k => sg (s + k) * cR s k * cR k (i + 1)) (s + 1) := by
    rw [← sumTo_add]
    refine sumTo_congr fun k _ => ?_
    rw [cR_succ]; grind
  rw [this]; grind
theorem alt_eq : ∀ s i : Nat, alt s i = if s = i then 1 else 0
  | 0, i => by
    rw [alt_zero]
    by_cases h : i = 0
    · rw [if_pos h, if_pos h.symm]
    · rw [if_neg h, if_neg fun e => h e.symm]
  | s + 1, 0 => by rw [alt_succ_zero, if_neg (by omega)]
  | s + 1, i + 1 => by
    rw [alt_succ_succ, alt_eq s i]
    by_cases h : s = i
    · rw [if_pos h, if_pos (by omega)]
    · rw [if_neg h, if_neg (by omega)]
end Pd

set_option maxHeartbeats 4000000
namespace Pd
open PySem
theorem chI_step : ∀ n k : Nat, (ch n (k + 1) : Int) * ((k : Int) + 1) + ch n k * k = ch n k * n
  | 0, 0 => by rw [ch_out (by omega), ch_zero]; rfl
  | 0, k + 1 => by rw [ch_out (by omega), ch_out (by omega)]; simp
  | n + 1, 0 => by
    have h := chI_step n 0
    rw [ch_succ, ch_zero, ch_zero] at *
    simp only [Int.natCast_add, Int.natCast_one, Int.natCast_zero] at *
    grind
  | n + 1, k + 1 => by
    have h1 := chI_step n k
    have h2 := chI_step n (k + 1)
    rw [ch_succ, ch_succ]
    simp only [Int.natCast_add, Int.natCast_one] at *
    grind
theorem ch_sym : ∀ a b : Nat, ch (a + b) a = ch (a + b) b
  | 0, b => by rw [Nat.zero_add, ch_zero, ch_self]
  | a + 1, 0 => by rw [Nat.add_zero, ch_zero, ch_self]
  | a + 1, b + 1 => by
    have h1 := ch_sym a (b + 1)
    have h2 := ch_sym (a + 1) b
    have e : a + 1 + (b + 1) = (a + b + 1) + 1 := by omega
    have e1 : a + (b + 1) = a + b + 1 := by omega
    have e2 : a + 1 + b = a + b + 1 := by omega
    rw [e1] at h1; rw [e2] at h2
    rw [e, ch_succ (a + b + 1) a, ch_succ (a + b + 1) b]; omega
def fact : Nat → Int
  | 0 => 1
  | n + 1 => fact n * (n + 1)
theorem fact_pos : ∀ n, 0 < fact n
  | 0 => by decide
  | n + 1 => Int.mul_pos (fact_pos n) (by omega)
theorem fp_succ (n : Int) (j : Nat) : Builtin.Math.fallingProduct n (j + 1) = Builtin.Math.fallingProduct n j * (n - j) := by
  unfold Builtin.Math.fallingProduct
  rw [List.range_succ, List.foldl_append]; rfl
theorem fp_ch (n : Nat) : ∀ j : Nat, Builtin.Math.fallingProduct (n : Int) j = ch n j * fact j
  | 0 => by rw [ch_zero]; rfl
  | j + 1 => by
    rw [fp_succ, fp_ch n j]
    have := chI_step n j
    show _ = (ch n (j + 1) : Int) * (fact j * (j + 1))
    grind
theorem mcComb_ch {n k : Nat} (h : k ≤ n) : PySem.W.mcComb (n : Int) (k : Int) = ch n k := by
  have main : ∀ m : Nat, Builtin.Math.fallingProduct (n : Int) m / Builtin.Math.fallingProduct (m : Int) m = ch n m := fun m => by
    rw [fp_ch, fp_ch, ch_self, Int.natCast_one, Int.one_mul]
    exact Int.mul_ediv_cancel _ (Int.ne_of_gt (fact_pos m))
  by_cases q : k ≤ n - k
  · rw [PySem.W.mcComb_at (m := (k : Int)) (by omega) (by omega) (by omega)]
    exact main k
  · rw [PySem.W.mcComb_at (m := ((n - k : Nat) : Int)) (by omega) (by omega) (by omega)]
    have := main (n - k)
    rw [Int.toNat_natCast]
    rw [this]
    have := ch_sym k (n - k)
    have e : k + (n - k) = n := by omega
    rw [e] at this
    rw [this]
end Pd

set_option maxHeartbeats 4000000
namespace Pd
open PySem PySem.Spec L2
theorem fr_zero : D.tup [.int 0, .int 1] = fr 0 := rfl
theorem divInt_ch (a b : Nat) : Rat.divInt ((ch a b : Nat) : Int) ((ch (a) b : Nat) : Int) = cR a b / cR a b := by
  rw [Rat.divInt_eq_div]; rfl
theorem divInt_cR (n k i : Nat) : Rat.divInt (ch k i : Int) (ch n i : Int) = cR k i / cR n i := by
  rw [Rat.divInt_eq_div]; rfl
theorem sz_ch {k i L : Nat} (h : k < L) : Bd L (ch k i : Int) := by
  unfold Bd
  have h1 := ch_le k i
  have h2 : (2 : Nat) ^ k < 2 ^ L := Nat.pow_lt_pow_right (by decide) h
  rw [Int.natAbs_natCast]; omega
/-- one share of a tie -/
def tie (ps : List Rat) (n k : Nat) : Rat := sumTo (fun i => ps.getD i 0 * (cR k i / cR n i)) (min (k + 1) ps.length) / ((n + 1 : Nat) : Rat)
def ties (ps : List Rat) (n : Nat) : List Rat := (List.range (n + 1)).map (tie ps n)
theorem ties_len (ps : List Rat) (n : Nat) : (ties ps n).length = n + 1 := by unfold ties; simp
section
variable {G : Str → DSp} {M : Mp} {Q : DK}
def p_tie_shares : Ps := (.seq (.asg [2] true (.lst .nil))
  (.seq (.for [3] true (.rng (.int 0) (.bin .Add (.var 1) (.int 1)))
    (.seq (.asg [4] true (.tup (.cons (.int 0) (.cons (.int 1) .nil))))
    (.seq (.for [5] true (.rng (.int 0) (.bi .min2 (.cons (.bin .Add (.var 3) (.int 1)) (.cons (.bi .len (.cons (.var 0) .nil)) .nil))))
      (.asg [4] true (.call "plus" (.cons (.var 4) (.cons (.call "times" (.cons (.idx (.var 0) (.var 5)) (.cons (.call "ratio" (.cons (.bi .comb (.cons (.var 3) (.cons (.var 5) .nil))) (.cons (.bi .comb (.cons (.var 1) (.cons (.var 5) .nil))) .nil))) .nil))) .nil)))))
    (.expr (.mt .append (.var 2) (.cons (.call "over" (.cons (.var 4) (.cons (.tup (.cons (.bin .Add (.var 1) (.int 1)) (.cons (.int 1) .nil))) .nil))) .nil))))))
  (.ret (.bi .tuple (.cons (.var 2) .nil)))))
def sp_tie_shares (L : Nat) : DSp := fun ds M R => ∃ (ps : List Rat) (n : Nat), ds = [.tup (fL ps), .int n] ∧ ps.length ≤ n + 1 ∧ n ≤ 1000 ∧ L ≤ 10000 ∧ (∀ p ∈ ps, Sz L p) ∧ R (.tup (fL (ties ps n))) M
theorem sz_term {ps : List Rat} {n k i L : Nat} (hL : L ≤ 10000) (hn : n ≤ 1000) (hk : k ≤ n) (hi : i ≤ n) (h : ∀ p ∈ ps, Sz L p) : Sz (L + 1010) (ps.getD i 0 * (cR k i / cR n i)) := by
  have h1 : Sz (L + 1) (ps.getD i 0) := by
    by_cases q : i < ps.length
    · exact (h _ (getD_memR q)).mono (by omega)
    · rw [getD_out (by omega)]
      exact Sz.zero (by omega)
  have h2 : Sz 1001 (cR k i / cR n i) := by
    rw [← divInt_cR]
    have := ch_pos hi
    exact Sz.divInt (sz_ch (by omega)) (sz_ch (by omega)) (by omega)
  exact (h1.mul h2).mono (by omega)
theorem map_take_snoc {α : Type} {f : Nat → α} {i : Nat} : (List.range i).map f ++ [f i] = (List.range (i + 1)).map f := by
  rw [List.range_succ, List.map_append]; rfl
theorem ok_tie_shares {L : Nat} (h1 : G "plus" = sp_plus) (h2 : G "times" = sp_times) (h3 : G "ratio" = sp_ratio) (h4 : G "over" = sp_over) (ds M R) (h : sp_tie_shares L ds M R) : wBody G p_tie_shares 6 ds M R := by
  obtain ⟨ps, n, rfl, hl, hn, hL, hs, h⟩ := h
  unfold p_tie_shares wBody
  repeat' (first | ((with_reducible refine e_var (d := ?_) ?_ ?_); rotate_left; exact rfl) | with_reducible refine e_cons ?_ | with_reducible refine x_tup ?_ | with_reducible refine e_nil ?_ | with_reducible refine e_int ?_ | with_reducible refine e_idx ?_ | with_reducible refine e_bin ?_ | with_reducible refine b_add ?_ | with_reducible refine b_sub ?_ | with_reducible refine b_mul ?_ ?_ | with_reducible refine i_fr0 ?_ | with_reducible refine i_fr1 ?_ | with_reducible refine e_call ?_ | with_reducible refine e_callK ?_ | with_reducible refine e_bi ?_ | with_reducible refine s_seq ?_ | with_reducible refine s_asg ?_ | with_reducible refine s_ret ?_ | with_reducible refine e_cmp ?_ | with_reducible refine c_eq ?_ | with_reducible refine c_ne ?_ | with_reducible refine c_lt ?_ | with_reducible refine c_le ?_ | with_reducible refine c_gt ?_ | with_reducible refine c_ge ?_ | with_reducible refine s_ife ?_ | with_reducible refine x_ifT ?_ | with_reducible refine x_ifF ?_ | with_reducible refine x_ifNT ?_ | with_reducible refine x_ifNF ?_ | with_reducible refine x_ifd (fun hc => ?_) (fun hc => ?_) | with_reducible refine x_ifn (fun hc => ?_) (fun hc => ?_) | with_reducible refine x_if (fun hc => ?_) (fun hc => ?_) | with_reducible refine s_skip ?_ | with_reducible refine s_expr ?_ | with_reducible refine e_mt ?_ | with_reducible refine b_div ?_ ?_ | with_reducible refine b_mod ?_ ?_ | with_reducible refine b_pow ?_ ?_ | with_reducible refine e_tup ?_ | with_reducible refine x_len (by simp only [List.length_cons, List.length_nil]; decide) ?_ | with_reducible refine e_neg ?_ | with_reducible refine x_int ?_ | with_reducible refine e_bl ?_ | with_reducible refine e_non ?_ | with_reducible refine e_str ?_ | with_reducible refine e_and ?_ | with_reducible refine e_or ?_ | with_reducible refine e_not ?_ | with_reducible refine e_truth ?_ | with_reducible refine x_bl ?_ | with_reducible refine t_bl ?_ | with_reducible refine t_int ?_ | with_reducible refine t_tup ?_ | with_reducible refine t_non ?_ | with_reducible refine e_ife ?_ | with_reducible refine e_isi ?_ | with_reducible refine f_abs ?_ | with_reducible refine f_int ?_ | with_reducible refine f_gcd ?_ | with_reducible refine f_max ?_ | with_reducible refine f_min ?_ | with_reducible refine f_tupT ?_ | with_reducible refine s_for ?_ | with_reducible refine w_rng ?_ | with_reducible refine x_rng ?_ ?_ | with_reducible refine w_it ?_ | with_reducible refine x_itT ?_ | with_reducible refine s_while ?_ | with_reducible refine e_lst ?_ | with_reducible refine e_cut ?_ | with_reducible refine e_absent ?_ | with_reducible refine e_asInt ?_ | with_reducible refine x_pI ?_ | with_reducible refine x_pN ?_ | with_reducible refine e_chain ?_ | with_reducible refine e_comp ?_ | with_reducible refine e_tcomp ?_ | with_reducible refine s_brk ?_ | with_reducible refine s_cont ?_ | ((with_reducible refine m_app (ds := ?_) ?_ ?_); rotate_left; (focus ((repeat (first | exact put_same | assumption | refine put_old ?_ (by assumption))); done))) | ((with_reducible refine m_app2 (ds := ?_) ?_ ?_ ?_); rotate_left; (focus ((repeat (first | exact put_same | assumption | refine put_old ?_ (by assumption))); done))) | ((with_reducible refine z_leniL (qs := ?_) ?_ ?_); rotate_left; first | exact Or.inl put_same | assumption | exact Or.inl (by assumption) | (refine Or.inl ?_; (focus ((repeat (first | exact put_same | assumption | refine put_old ?_ (by assumption))); done))) | exact listAt_put (by assumption) (by assumption) | exact listAt_sub (by assumption) (by assumption)) | ((with_reducible refine z_lenfL (qs := ?_) ?_ ?_); rotate_left; first | exact Or.inl put_same | assumption | exact Or.inl (by assumption) | (refine Or.inl ?_; (focus ((repeat (first | exact put_same | assumption | refine put_old ?_ (by assumption))); done))) | exact listAt_put (by assumption) (by assumption) | exact listAt_sub (by assumption) (by assumption)) | ((with_reducible refine f_lenL (ds := ?_) ?_ ?_); rotate_left; first | exact Or.inl put_same | assumption | exact Or.inl (by assumption) | (refine Or.inl ?_; (focus ((repeat (first | exact put_same | assumption | refine put_old ?_ (by assumption))); done))) | exact listAt_put (by assumption) (by assumption) | exact listAt_sub (by assumption) (by assumption)) | ((with_reducible refine i_iL (ns := ?_) ?_ ?_ ?_); rotate_left; first | exact Or.inl put_same | assumption | exact Or.inl (by assumption) | (refine Or.inl ?_; (focus ((repeat (first | exact put_same | assumption | refine put_old ?_ (by assumption))); done))) | exact listAt_put (by assumption) (by assumption) | exact listAt_sub (by assumption) (by assumption)) | ((with_reducible refine i_fL (ns := ?_) ?_ ?_ ?_); rotate_left; first | exact Or.inl put_same | assumption | exact Or.inl (by assumption) | (refine Or.inl ?_; (focus ((repeat (first | exact put_same | assumption | refine put_old ?_ (by assumption))); done))) | exact listAt_put (by assumption) (by assumption) | exact listAt_sub (by assumption) (by assumption)) | ((with_reducible refine f_tupL (ds := ?_) ?_ ?_); rotate_left; first | exact Or.inl put_same | assumption | exact Or.inl (by assumption) | (refine Or.inl ?_; (focus ((repeat (first | exact put_same | assumption | refine put_old ?_ (by assumption))); done))) | exact listAt_put (by assumption) (by assumption) | exact listAt_sub (by assumption) (by assumption)) | ((with_reducible refine x_itL (ds := ?_) ?_ ?_); rotate_left; first | exact Or.inl put_same | assumption | exact Or.inl (by assumption) | (refine Or.inl ?_; (focus ((repeat (first | exact put_same | assumption | refine put_old ?_ (by assumption))); done))) | exact listAt_put (by assumption) (by assumption) | exact listAt_sub (by assumption) (by assumption)) | with_reducible refine x_new (fun r nr => ?_) | ((with_reducible refine b_lst (ds := ?_) (es := ?_) ?_ ?_ ?_ ?_); rotate_left 2; (focus ((repeat (first | exact put_same | assumption | refine put_old ?_ (by assumption))); done)); (focus ((repeat (first | exact put_same | assumption | refine put_old ?_ (by assumption))); done))) | ((with_reducible refine b_rep (ds := ?_) ?_ ?_ ?_); rotate_left; (focus ((repeat (first | exact put_same | assumption | refine put_old ?_ (by assumption))); done))) | with_reducible refine f_lstT ?_ | with_reducible refine b_tup ?_ ?_ | with_reducible refine z_lenfT ?_ | with_reducible refine f_lenT ?_ | with_reducible refine i_fT ?_ ?_ | with_reducible refine z_isiI ?_ | with_reducible refine z_isiB ?_ | with_reducible refine z_isiF ?_ | with_reducible refine z_isiT ?_ | with_reducible refine z_lenF ?_)
  · omega
  · revert nr
    revert r
    intro a na
    refine for_rng (fun k σ M' => ∃ (o o' o'' : Option D), σ = [some (.tup (fL ps)), some (.int n), some (.ref a), o, o', o''] ∧ M' = put M a (.lst (fL ((List.range k).map (tie ps n))))) ⟨none, none, none, rfl, rfl⟩ ?_ ?_
    · rintro k σ M' hk ⟨o, o', o'', rfl, rfl⟩
      have hk' : k ≤ n := by omega
      have e0 : (0 : Int) + k = k := by omega
      rw [e0]
      repeat' (first | ((with_reducible refine e_var (d := ?_) ?_ ?_); rotate_left; exact rfl) | with_reducible refine e_cons ?_ | with_reducible refine x_tup ?_ | with_reducible refine e_nil ?_ | with_reducible refine e_int ?_ | with_reducible refine e_idx ?_ | with_reducible refine e_bin ?_ | with_reducible refine b_add ?_ | with_reducible refine b_sub ?_ | with_reducible refine b_mul ?_ ?_ | with_reducible refine i_fr0 ?_ | with_reducible refine i_fr1 ?_ | with_reducible refine e_call ?_ | with_reducible refine e_callK ?_ | with_reducible refine e_bi ?_ | with_reducible refine s_seq ?_ | with_reducible refine s_asg ?_ | with_reducible refine s_ret ?_ | with_reducible refine e_cmp ?_ | with_reducible refine c_eq ?_ | with_reducible refine c_ne ?_ | with_reducible refine c_lt ?_ | with_reducible refine c_le ?_ | with_reducible refine c_gt ?_ | with_reducible refine c_ge ?_ | with_reducible refine s_ife ?_ | with_reducible refine x_ifT ?_ | with_reducible refine x_ifF ?_ | with_reducible refine x_ifNT ?_ | with_reducible refine x_ifNF ?_ | with_reducible refine x_ifd (fun hc => ?_) (fun hc => ?_) | with_reducible refine x_ifn (fun hc => ?_) (fun hc => ?_) | with_reducible refine x_if (fun hc => ?_) (fun hc => ?_) | with_reducible refine s_skip ?_ | with_reducible refine s_expr ?_ | with_reducible refine e_mt ?_ | with_reducible refine b_div ?_ ?_ | with_reducible refine b_mod ?_ ?_ | with_reducible refine b_pow ?_ ?_ | with_reducible refine e_tup ?_ | with_reducible refine x_len (by simp only [List.length_cons, List.length_nil]; decide) ?_ | with_reducible refine e_neg ?_ | with_reducible refine x_int ?_ | with_reducible refine e_bl ?_ | with_reducible refine e_non ?_ | with_reducible refine e_str ?_ | with_reducible refine e_and ?_ | with_reducible refine e_or ?_ | with_reducible refine e_not ?_ | with_reducible refine e_truth ?_ | with_reducible refine x_bl ?_ | with_reducible refine t_bl ?_ | with_reducible refine t_int ?_ | with_reducible refine t_tup ?_ | with_reducible refine t_non ?_ | with_reducible refine e_ife ?_ | with_reducible refine e_isi ?_ | with_reducible refine f_abs ?_ | with_reducible refine f_int ?_ | with_reducible refine f_gcd ?_ | with_reducible refine f_max ?_ | with_reducible refine f_min ?_ | with_reducible refine f_tupT ?_ | with_reducible refine s_for ?_ | with_reducible refine w_rng ?_ | with_reducible refine x_rng ?_ ?_ | with_reducible refine w_it ?_ | with_reducible refine x_itT ?_ | with_reducible refine s_while ?_ | with_reducible refine e_lst ?_ | with_reducible refine e_cut ?_ | with_reducible refine e_absent ?_ | with_reducible refine e_asInt ?_ | with_reducible refine x_pI ?_ | with_reducible refine x_pN ?_ | with_reducible refine e_chain ?_ | with_reducible refine e_comp ?_ | with_reducible refine e_tcomp ?_ | with_reducible refine s_brk ?_ | with_reducible refine s_cont ?_ | ((with_reducible refine m_app (ds := ?_) ?_ ?_); rotate_left; (focus ((repeat (first | exact put_same | assumption | refine put_old ?_ (by assumption))); done))) | ((with_reducible refine m_app2 (ds := ?_) ?_ ?_ ?_); rotate_left; (focus ((repeat (first | exact put_same | assumption | refine put_old ?_ (by assumption))); done))) | ((with_reducible refine z_leniL (qs := ?_) ?_ ?_); rotate_left; first | exact Or.inl put_same | assumption | exact Or.inl (by assumption) | (refine Or.inl ?_; (focus ((repeat (first | exact put_same | assumption | refine put_old ?_ (by assumption))); done))) | exact listAt_put (by assumption) (by assumption) | exact listAt_sub (by assumption) (by assumption)) | ((with_reducible refine z_lenfL (qs := ?_) ?_ ?_); rotate_left; first | exact Or.inl put_same | assumption | exact Or.inl (by assumption) | (refine Or.inl ?_; (focus ((repeat (first | exact put_same | assumption | refine put_old ?_ (by assumption))); done))) | exact listAt_put (by assumption) (by assumption) | exact listAt_sub (by assumption) (by assumption)) | ((with_reducible refine f_lenL (ds := ?_) ?_ ?_); rotate_left; first | exact Or.inl put_same | assumption | exact Or.inl (by assumption) | (refine Or.inl ?_; (focus ((repeat (first | exact put_same | assumption | refine put_old ?_ (by assumption))); done))) | exact listAt_put (by assumption) (by assumption) | exact listAt_sub (by assumption) (by assumption)) | ((with_reducible refine i_iL (ns := ?_) ?_ ?_ ?_); rotate_left; first | exact Or.inl put_same | assumption | exact Or.inl (by assumption) | (refine Or.inl ?_; (focus ((repeat (first | exact put_same | assumption | refine put_old ?_ (by assumption))); done))) | exact listAt_put (by assumption) (by assumption) | exact listAt_sub (by assumption) (by assumption)) | ((with_reducible refine i_fL (ns := ?_) ?_ ?_ ?_); rotate_left; first | exact Or.inl put_same | assumption | exact Or.inl (by assumption) | (refine Or.inl ?_; (focus ((repeat (first | exact put_same | assumption | refine put_old ?_ (by assumption))); done))) | exact listAt_put (by assumption) (by assumption) | exact listAt_sub (by assumption) (by assumption)) | ((with_reducible refine f_tupL (ds := ?_) ?_ ?_); rotate_left; first | exact Or.inl put_same | assumption | exact Or.inl (by assumption) | (refine Or.inl ?_; (focus ((repeat (first | exact put_same | assumption | refine put_old ?_ (by assumption))); done))) | exact listAt_put (by assumption) (by assumption) | exact listAt_sub (by assumption) (by assumption)) | ((with_reducible refine x_itL (ds := ?_) ?_ ?_); rotate_left; first | exact Or.inl put_same | assumption | exact Or.inl (by assumption) | (refine Or.inl ?_; (focus ((repeat (first | exact put_same | assumption | refine put_old ?_ (by assumption))); done))) | exact listAt_put (by assumption) (by assumption) | exact listAt_sub (by assumption) (by assumption)) | with_reducible refine x_new (fun r nr => ?_) | ((with_reducible refine b_lst (ds := ?_) (es := ?_) ?_ ?_ ?_ ?_); rotate_left 2; (focus ((repeat (first | exact put_same | assumption | refine put_old ?_ (by assumption))); done)); (focus ((repeat (first | exact put_same | assumption | refine put_old ?_ (by assumption))); done))) | ((with_reducible refine b_rep (ds := ?_) ?_ ?_ ?_); rotate_left; (focus ((repeat (first | exact put_same | assumption | refine put_old ?_ (by assumption))); done))) | with_reducible refine f_lstT ?_ | with_reducible refine b_tup ?_ ?_ | with_reducible refine z_lenfT ?_ | with_reducible refine f_lenT ?_ | with_reducible refine i_fT ?_ ?_ | with_reducible refine z_isiI ?_ | with_reducible refine z_isiB ?_ | with_reducible refine z_isiF ?_ | with_reducible refine z_isiT ?_ | with_reducible refine z_lenF ?_)
      · split <;> omega
      · refine for_rng (fun i σ M' => ∃ (o : Option D), σ = [some (.tup (fL ps)), some (.int n), some (.ref a), some (.int k), some (fr (sumTo (fun i => ps.getD i 0 * (cR k i / cR n i)) i)), o] ∧ M' = put M a (.lst (fL ((List.range k).map (tie ps n))))) ⟨_, rfl, rfl⟩ ?_ ?_
        · rintro i σ M' hi ⟨o, rfl, rfl⟩
          have hik : i ≤ k ∧ i < ps.length := by
            split at hi <;> omega
          have e0 : (0 : Int) + i = i := by omega
          have hin : i ≤ n := by omega
          have hp := ch_pos hin
          have q1 : Sz 1001 (cR k i / cR n i) := by
            rw [← divInt_cR]
            exact Sz.divInt (sz_ch (by omega)) (sz_ch (by omega)) (by omega)
          rw [e0]
          have mk := mcComb_ch hik.1
          have mn := mcComb_ch hin
          repeat' (first | with_reducible refine c_plus h1 ?_ ?_ ?_ | with_reducible refine c_times h2 ?_ ?_ ?_ | with_reducible refine c_ratio h3 ?_ ?_ | with_reducible refine f_comb ?_ ?_ | ((with_reducible refine e_var (d := ?_) ?_ ?_); rotate_left; exact rfl) | with_reducible refine e_cons ?_ | with_reducible refine x_tup ?_ | with_reducible refine e_nil ?_ | with_reducible refine e_int ?_ | with_reducible refine e_idx ?_ | with_reducible refine e_bin ?_ | with_reducible refine b_add ?_ | with_reducible refine b_sub ?_ | with_reducible refine b_mul ?_ ?_ | with_reducible refine i_fr0 ?_ | with_reducible refine i_fr1 ?_ | with_reducible refine e_call ?_ | with_reducible refine e_callK ?_ | with_reducible refine e_bi ?_ | with_reducible refine s_seq ?_ | with_reducible refine s_asg ?_ | with_reducible refine s_ret ?_ | with_reducible refine e_cmp ?_ | with_reducible refine c_eq ?_ | with_reducible refine c_ne ?_ | with_reducible refine c_lt ?_ | with_reducible refine c_le ?_ | with_reducible refine c_gt ?_ | with_reducible refine c_ge ?_ | with_reducible refine s_ife ?_ | with_reducible refine x_ifT ?_ | with_reducible refine x_ifF ?_ | with_reducible refine x_ifNT ?_ | with_reducible refine x_ifNF ?_ | with_reducible refine x_ifd (fun hc => ?_) (fun hc => ?_) | with_reducible refine x_ifn (fun hc => ?_) (fun hc => ?_) | with_reducible refine x_if (fun hc => ?_) (fun hc => ?_) | with_reducible refine s_skip ?_ | with_reducible refine s_expr ?_ | with_reducible refine e_mt ?_ | with_reducible refine b_div ?_ ?_ | with_reducible refine b_mod ?_ ?_ | with_reducible refine b_pow ?_ ?_ | with_reducible refine e_tup ?_ | with_reducible refine x_len (by simp only [List.length_cons, List.length_nil]; decide) ?_ | with_reducible refine e_neg ?_ | with_reducible refine x_int ?_ | with_reducible refine e_bl ?_ | with_reducible refine e_non ?_ | with_reducible refine e_str ?_ | with_reducible refine e_and ?_ | with_reducible refine e_or ?_ | with_reducible refine e_not ?_ | with_reducible refine e_truth ?_ | with_reducible refine x_bl ?_ | with_reducible refine t_bl ?_ | with_reducible refine t_int ?_ | with_reducible refine t_tup ?_ | with_reducible refine t_non ?_ | with_reducible refine e_ife ?_ | with_reducible refine e_isi ?_ | with_reducible refine f_abs ?_ | with_reducible refine f_int ?_ | with_reducible refine f_gcd ?_ | with_reducible refine f_max ?_ | with_reducible refine f_min ?_ | with_reducible refine f_tupT ?_ | with_reducible refine s_for ?_ | with_reducible refine w_rng ?_ | with_reducible refine x_rng ?_ ?_ | with_reducible refine w_it ?_ | with_reducible refine x_itT ?_ | with_reducible refine s_while ?_ | with_reducible refine e_lst ?_ | with_reducible refine e_cut ?_ | with_reducible refine e_absent ?_ | with_reducible refine e_asInt ?_ | with_reducible refine x_pI ?_ | with_reducible refine x_pN ?_ | with_reducible refine e_chain ?_ | with_reducible refine e_comp ?_ | with_reducible refine e_tcomp ?_ | with_reducible refine s_brk ?_ | with_reducible refine s_cont ?_ | ((with_reducible refine m_app (ds := ?_) ?_ ?_); rotate_left; (focus ((repeat (first | exact put_same | assumption | refine put_old ?_ (by assumption))); done))) | ((with_reducible refine m_app2 (ds := ?_) ?_ ?_ ?_); rotate_left; (focus ((repeat (first | exact put_same | assumption | refine put_old ?_ (by assumption))); done))) | ((with_reducible refine z_leniL (qs := ?_) ?_ ?_); rotate_left; first | exact Or.inl put_same | assumption | exact Or.inl (by assumption) | (refine Or.inl ?_; (focus ((repeat (first | exact put_same | assumption | refine put_old ?_ (by assumption))); done))) | exact listAt_put (by assumption) (by assumption) | exact listAt_sub (by assumption) (by assumption)) | ((with_reducible refine z_lenfL (qs := ?_) ?_ ?_); rotate_left; first | exact Or.inl put_same | assumption | exact Or.inl (by assumption) | (refine Or.inl ?_; (focus ((repeat (first | exact put_same | assumption | refine put_old ?_ (by assumption))); done))) | exact listAt_put (by assumption) (by assumption) | exact listAt_sub (by assumption) (by assumption)) | ((with_reducible refine f_lenL (ds := ?_) ?_ ?_); rotate_left; first | exact Or.inl put_same | assumption | exact Or.inl (by assumption) | (refine Or.inl ?_; (focus ((repeat (first | exact put_same | assumption | refine put_old ?_ (by assumption))); done))) | exact listAt_put (by assumption) (by assumption) | exact listAt_sub (by assumption) (by assumption)) | ((with_reducible refine i_iL (ns := ?_) ?_ ?_ ?_); rotate_left; first | exact Or.inl put_same | assumption | exact Or.inl (by assumption) | (refine Or.inl ?_; (focus ((repeat (first | exact put_same | assumption | refine put_old ?_ (by assumption))); done))) | exact listAt_put (by assumption) (by assumption) | exact listAt_sub (by assumption) (by assumption)) | ((with_reducible refine i_fL (ns := ?_) ?_ ?_ ?_); rotate_left; first | exact Or.inl put_same | assumption | exact Or.inl (by assumption) | (refine Or.inl ?_; (focus ((repeat (first | exact put_same | assumption | refine put_old ?_ (by assumption))); done))) | exact listAt_put (by assumption) (by assumption) | exact listAt_sub (by assumption) (by assumption)) | ((with_reducible refine f_tupL (ds := ?_) ?_ ?_); rotate_left; first | exact Or.inl put_same | assumption | exact Or.inl (by assumption) | (refine Or.inl ?_; (focus ((repeat (first | exact put_same | assumption | refine put_old ?_ (by assumption))); done))) | exact listAt_put (by assumption) (by assumption) | exact listAt_sub (by assumption) (by assumption)) | ((with_reducible refine x_itL (ds := ?_) ?_ ?_); rotate_left; first | exact Or.inl put_same | assumption | exact Or.inl (by assumption) | (refine Or.inl ?_; (focus ((repeat (first | exact put_same | assumption | refine put_old ?_ (by assumption))); done))) | exact listAt_put (by assumption) (by assumption) | exact listAt_sub (by assumption) (by assumption)) | with_reducible refine x_new (fun r nr => ?_) | ((with_reducible refine b_lst (ds := ?_) (es := ?_) ?_ ?_ ?_ ?_); rotate_left 2; (focus ((repeat (first | exact put_same | assumption | refine put_old ?_ (by assumption))); done)); (focus ((repeat (first | exact put_same | assumption | refine put_old ?_ (by assumption))); done))) | ((with_reducible refine b_rep (ds := ?_) ?_ ?_ ?_); rotate_left; (focus ((repeat (first | exact put_same | assumption | refine put_old ?_ (by assumption))); done))) | with_reducible refine f_lstT ?_ | with_reducible refine b_tup ?_ ?_ | with_reducible refine z_lenfT ?_ | with_reducible refine f_lenT ?_ | with_reducible refine i_fT ?_ ?_ | with_reducible refine z_isiI ?_ | with_reducible refine z_isiB ?_ | with_reducible refine z_isiF ?_ | with_reducible refine z_isiT ?_ | with_reducible refine z_lenF ?_)
          · omega
          · omega
          · omega
          · rw [mn]; omega
          · rw [Int.toNat_natCast]
            exact (hs _ (getD_memR hik.2)).mono (by unfold BB; omega)
          · rw [mk, mn, divInt_cR]
            exact q1.mono (by decide)
          · refine (sumTo_sz (L := L + 1010) fun j hj => sz_term hL hn hk' (by omega) hs).mono ?_
            have : i * (L + 1010 + 1) ≤ 1001 * 11011 := Nat.mul_le_mul (by omega) (by omega)
            show _ ≤ 60000000
            omega
          · rw [mk, mn, divInt_cR, Int.toNat_natCast]
            exact (sz_term hL hn hk' hin hs).mono (by show _ ≤ 60000000; omega)
          · rw [mk, mn, divInt_cR, Int.toNat_natCast]
            exact ⟨_, Sub.refl _, _, rfl, rfl⟩
        · rintro σ M' ⟨o, rfl, rfl⟩
          have e1 : ((if (ps.length : Int) < k + 1 then (ps.length : Int) else k + 1) - 0).toNat = min (k + 1) ps.length := by
            split <;> omega
          rw [e1]
          have e2 : D.tup [.int ((n : Int) + 1), .int 1] = fr ((n + 1 : Nat) : Rat) := rfl
          have q2 : Sz BB (sumTo (fun i => ps.getD i 0 * (cR k i / cR n i)) (min (k + 1) ps.length)) := by
            refine (sumTo_sz (L := L + 1010) fun j hj => sz_term hL hn hk' (by omega) hs).mono ?_
            have : min (k + 1) ps.length * (L + 1010 + 1) ≤ 1001 * 11011 := Nat.mul_le_mul (by omega) (by omega)
            show _ ≤ 60000000
            omega
          have q3 : Sz BB ((n + 1 : Nat) : Rat) := Sz.mono (n := 10) ⟨by show Bd 10 ((n + 1 : Nat) : Int); exact Bd.of_lt (by omega) (by omega), by show Bd 10 1; decide⟩ (by decide)
          have q4 : ((n + 1 : Nat) : Rat) ≠ 0 := by
            intro e
            have := Rat.natCast_eq_zero_iff.mp e
            omega
          have hov : ∀ {M' : Mp} {Q' : DK}, Q' (fr (tie ps n k)) M' → G "over" [fr (sumTo (fun i => ps.getD i 0 * (cR k i / cR n i)) (min (k + 1) ps.length)), D.tup [.int ((n : Int) + 1), .int 1]] M' Q' := fun q => by
            rw [e2]; exact c_over h4 q2 q3 q4 q
          repeat' (first | with_reducible refine hov ?_ | ((with_reducible refine e_var (d := ?_) ?_ ?_); rotate_left; exact rfl) | with_reducible refine e_cons ?_ | with_reducible refine x_tup ?_ | with_reducible refine e_nil ?_ | with_reducible refine e_int ?_ | with_reducible refine e_idx ?_ | with_reducible refine e_bin ?_ | with_reducible refine b_add ?_ | with_reducible refine b_sub ?_ | with_reducible refine b_mul ?_ ?_ | with_reducible refine i_fr0 ?_ | with_reducible refine i_fr1 ?_ | with_reducible refine e_call ?_ | with_reducible refine e_callK ?_ | with_reducible refine e_bi ?_ | with_reducible refine s_seq ?_ | with_reducible refine s_asg ?_ | with_reducible refine s_ret ?_ | with_reducible refine e_cmp ?_ | with_reducible refine c_eq ?_ | with_reducible refine c_ne ?_ | with_reducible refine c_lt ?_ | with_reducible refine c_le ?_ | with_reducible refine c_gt ?_ | with_reducible refine c_ge ?_ | with_reducible refine s_ife ?_ | with_reducible refine x_ifT ?_ | with_reducible refine x_ifF ?_ | with_reducible refine x_ifNT ?_ | with_reducible refine x_ifNF ?_ | with_reducible refine x_ifd (fun hc => ?_) (fun hc => ?_) | with_reducible refine x_ifn (fun hc => ?_) (fun hc => ?_) | with_reducible refine x_if (fun hc => ?_) (fun hc => ?_) | with_reducible refine s_skip ?_ | with_reducible refine s_expr ?_ | with_reducible refine e_mt ?_ | with_reducible refine b_div ?_ ?_ | with_reducible refine b_mod ?_ ?_ | with_reducible refine b_pow ?_ ?_ | with_reducible refine e_tup ?_ | with_reducible refine x_len (by simp only [List.length_cons, List.length_nil]; decide) ?_ | with_reducible refine e_neg ?_ | with_reducible refine x_int ?_ | with_reducible refine e_bl ?_ | with_reducible refine e_non ?_ | with_reducible refine e_str ?_ | with_reducible refine e_and ?_ | with_reducible refine e_or ?_ | with_reducible refine e_not ?_ | with_reducible refine e_truth ?_ | with_reducible refine x_bl ?_ | with_reducible refine t_bl ?_ | with_reducible refine t_int ?_ | with_reducible refine t_tup ?_ | with_reducible refine t_non ?_ | with_reducible refine e_ife ?_ | with_reducible refine e_isi ?_ | with_reducible refine f_abs ?_ | with_reducible refine f_int ?_ | with_reducible refine f_gcd ?_ | with_reducible refine f_max ?_ | with_reducible refine f_min ?_ | with_reducible refine f_tupT ?_ | with_reducible refine s_for ?_ | with_reducible refine w_rng ?_ | with_reducible refine x_rng ?_ ?_ | with_reducible refine w_it ?_ | with_reducible refine x_itT ?_ | with_reducible refine s_while ?_ | with_reducible refine e_lst ?_ | with_reducible refine e_cut ?_ | with_reducible refine e_absent ?_ | with_reducible refine e_asInt ?_ | with_reducible refine x_pI ?_ | with_reducible refine x_pN ?_ | with_reducible refine e_chain ?_ | with_reducible refine e_comp ?_ | with_reducible refine e_tcomp ?_ | with_reducible refine s_brk ?_ | with_reducible refine s_cont ?_ | ((with_reducible refine m_app (ds := ?_) ?_ ?_); rotate_left; (focus ((repeat (first | exact put_same | assumption | refine put_old ?_ (by assumption))); done))) | ((with_reducible refine m_app2 (ds := ?_) ?_ ?_ ?_); rotate_left; (focus ((repeat (first | exact put_same | assumption | refine put_old ?_ (by assumption))); done))) | ((with_reducible refine z_leniL (qs := ?_) ?_ ?_); rotate_left; first | exact Or.inl put_same | assumption | exact Or.inl (by assumption) | (refine Or.inl ?_; (focus ((repeat (first | exact put_same | assumption | refine put_old ?_ (by assumption))); done))) | exact listAt_put (by assumption) (by assumption) | exact listAt_sub (by assumption) (by assumption)) | ((with_reducible refine z_lenfL (qs := ?_) ?_ ?_); rotate_left; first | exact Or.inl put_same | assumption | exact Or.inl (by assumption) | (refine Or.inl ?_; (focus ((repeat (first | exact put_same | assumption | refine put_old ?_ (by assumption))); done))) | exact listAt_put (by assumption) (by assumption) | exact listAt_sub (by assumption) (by assumption)) | ((with_reducible refine f_lenL (ds := ?_) ?_ ?_); rotate_left; first | exact Or.inl put_same | assumption | exact Or.inl (by assumption) | (refine Or.inl ?_; (focus ((repeat (first | exact put_same | assumption | refine put_old ?_ (by assumption))); done))) | exact listAt_put (by assumption) (by assumption) | exact listAt_sub (by assumption) (by assumption)) | ((with_reducible refine i_iL (ns := ?_) ?_ ?_ ?_); rotate_left; first | exact Or.inl put_same | assumption | exact Or.inl (by assumption) | (refine Or.inl ?_; (focus ((repeat (first | exact put_same | assumption | refine put_old ?_ (by assumption))); done))) | exact listAt_put (by assumption) (by assumption) | exact listAt_sub (by assumption) (by assumption)) | ((with_reducible refine i_fL (ns := ?_) ?_ ?_ ?_); rotate_left; first | exact Or.inl put_same | assumption | exact Or.inl (by assumption) | (refine Or.inl ?_; (focus ((repeat (first | exact put_same | assumption | refine put_old ?_ (by assumption))); done))) | exact listAt_put (by assumption) (by assumption) | exact listAt_sub (by assumption) (by assumption)) | ((with_reducible refine f_tupL (ds := ?_) ?_ ?_); rotate_left; first | exact Or.inl put_same | assumption | exact Or.inl (by assumption) | (refine Or.inl ?_; (focus ((repeat (first | exact put_same | assumption | refine put_old ?_ (by assumption))); done))) | exact listAt_put (by assumption) (by assumption) | exact listAt_sub (by assumption) (by assumption)) | ((with_reducible refine x_itL (ds := ?_) ?_ ?_); rotate_left; first | exact Or.inl put_same | assumption | exact Or.inl (by assumption) | (refine Or.inl ?_; (focus ((repeat (first | exact put_same | assumption | refine put_old ?_ (by assumption))); done))) | exact listAt_put (by assumption) (by assumption) | exact listAt_sub (by assumption) (by assumption)) | with_reducible refine x_new (fun r nr => ?_) | ((with_reducible refine b_lst (ds := ?_) (es := ?_) ?_ ?_ ?_ ?_); rotate_left 2; (focus ((repeat (first | exact put_same | assumption | refine put_old ?_ (by assumption))); done)); (focus ((repeat (first | exact put_same | assumption | refine put_old ?_ (by assumption))); done))) | ((with_reducible refine b_rep (ds := ?_) ?_ ?_ ?_); rotate_left; (focus ((repeat (first | exact put_same | assumption | refine put_old ?_ (by assumption))); done))) | with_reducible refine f_lstT ?_ | with_reducible refine b_tup ?_ ?_ | with_reducible refine z_lenfT ?_ | with_reducible refine f_lenT ?_ | with_reducible refine i_fT ?_ ?_ | with_reducible refine z_isiI ?_ | with_reducible refine z_isiB ?_ | with_reducible refine z_isiF ?_ | with_reducible refine z_isiT ?_ | with_reducible refine z_lenF ?_)
          · rw [fL_len]; simp
            exact big_line (by omega)
          · refine ⟨_, Sub.refl _, _, _, _, rfl, ?_⟩
            rw [put_put, fL_snoc, map_take_snoc]
    · rintro σ M' ⟨o, o', o'', rfl, rfl⟩
      have e1 : ((n : Int) + 1 - 0).toNat = n + 1 := by omega
      rw [e1]
      repeat' (first | ((with_reducible refine e_var (d := ?_) ?_ ?_); rotate_left; exact rfl) | with_reducible refine e_cons ?_ | with_reducible refine x_tup ?_ | with_reducible refine e_nil ?_ | with_reducible refine e_int ?_ | with_reducible refine e_idx ?_ | with_reducible refine e_bin ?_ | with_reducible refine b_add ?_ | with_reducible refine b_sub ?_ | with_reducible refine b_mul ?_ ?_ | with_reducible refine i_fr0 ?_ | with_reducible refine i_fr1 ?_ | with_reducible refine e_call ?_ | with_reducible refine e_callK ?_ | with_reducible refine e_bi ?_ | with_reducible refine s_seq ?_ | with_reducible refine s_asg ?_ | with_reducible refine s_ret ?_ | with_reducible refine e_cmp ?_ | with_reducible refine c_eq ?_ | with_reducible refine c_ne ?_ | with_reducible refine c_lt ?_ | with_reducible refine c_le ?_ | with_reducible refine c_gt ?_ | with_reducible refine c_ge ?_ | with_reducible refine s_ife ?_ | with_reducible refine x_ifT ?_ | with_reducible refine x_ifF ?_ | with_reducible refine x_ifNT ?_ | with_reducible refine x_ifNF ?_ | with_reducible refine x_ifd (fun hc => ?_) (fun hc => ?_) | with_reducible refine x_ifn (fun hc => ?_) (fun hc => ?_) | with_reducible refine x_if (fun hc => ?_) (fun hc => ?_) | with_reducible refine s_skip ?_ | with_reducible refine s_expr ?_ | with_reducible refine e_mt ?_ | with_reducible refine b_div ?_ ?_ | with_reducible refine b_mod ?_ ?_ | with_reducible refine b_pow ?_ ?_ | with_reducible refine e_tup ?_ | with_reducible refine x_len (by simp only [List.length_cons, List.length_nil]; decide) ?_ | with_reducible refine e_neg ?_ | with_reducible refine x_int ?_ | with_reducible refine e_bl ?_ | with_reducible refine e_non ?_ | with_reducible refine e_str ?_ | with_reducible refine e_and ?_ | with_reducible refine e_or ?_ | with_reducible refine e_not ?_ | with_reducible refine e_truth ?_ | with_reducible refine x_bl ?_ | with_reducible refine t_bl ?_ | with_reducible refine t_int ?_ | with_reducible refine t_tup ?_ | with_reducible refine t_non ?_ | with_reducible refine e_ife ?_ | with_reducible refine e_isi ?_ | with_reducible refine f_abs ?_ | with_reducible refine f_int ?_ | with_reducible refine f_gcd ?_ | with_reducible refine f_max ?_ | with_reducible refine f_min ?_ | with_reducible refine f_tupT ?_ | with_reducible refine s_for ?_ | with_reducible refine w_rng ?_ | with_reducible refine x_rng ?_ ?_ | with_reducible refine w_it ?_ | with_reducible refine x_itT ?_ | with_reducible refine s_while ?_ | with_reducible refine e_lst ?_ | with_reducible refine e_cut ?_ | with_reducible refine e_absent ?_ | with_reducible refine e_asInt ?_ | with_reducible refine x_pI ?_ | with_reducible refine x_pN ?_ | with_reducible refine e_chain ?_ | with_reducible refine e_comp ?_ | with_reducible refine e_tcomp ?_ | with_reducible refine s_brk ?_ | with_reducible refine s_cont ?_ | ((with_reducible refine m_app (ds := ?_) ?_ ?_); rotate_left; (focus ((repeat (first | exact put_same | assumption | refine put_old ?_ (by assumption))); done))) | ((with_reducible refine m_app2 (ds := ?_) ?_ ?_ ?_); rotate_left; (focus ((repeat (first | exact put_same | assumption | refine put_old ?_ (by assumption))); done))) | ((with_reducible refine z_leniL (qs := ?_) ?_ ?_); rotate_left; first | exact Or.inl put_same | assumption | exact Or.inl (by assumption) | (refine Or.inl ?_; (focus ((repeat (first | exact put_same | assumption | refine put_old ?_ (by assumption))); done))) | exact listAt_put (by assumption) (by assumption) | exact listAt_sub (by assumption) (by assumption)) | ((with_reducible refine z_lenfL (qs := ?_) ?_ ?_); rotate_left; first | exact Or.inl put_same | assumption | exact Or.inl (by assumption) | (refine Or.inl ?_; (focus ((repeat (first | exact put_same | assumption | refine put_old ?_ (by assumption))); done))) | exact listAt_put (by assumption) (by assumption) | exact listAt_sub (by assumption) (by assumption)) | ((with_reducible refine f_lenL (ds := ?_) ?_ ?_); rotate_left; first | exact Or.inl put_same | assumption | exact Or.inl (by assumption) | (refine Or.inl ?_; (focus ((repeat (first | exact put_same | assumption | refine put_old ?_ (by assumption))); done))) | exact listAt_put (by assumption) (by assumption) | exact listAt_sub (by assumption) (by assumption)) | ((with_reducible refine i_iL (ns := ?_) ?_ ?_ ?_); rotate_left; first | exact Or.inl put_same | assumption | exact Or.inl (by assumption) | (refine Or.inl ?_; (focus ((repeat (first | exact put_same | assumption | refine put_old ?_ (by assumption))); done))) | exact listAt_put (by assumption) (by assumption) | exact listAt_sub (by assumption) (by assumption)) | ((with_reducible refine i_fL (ns := ?_) ?_ ?_ ?_); rotate_left; first | exact Or.inl put_same | assumption | exact Or.inl (by assumption) | (refine Or.inl ?_; (focus ((repeat (first | exact put_same | assumption | refine put_old ?_ (by assumption))); done))) | exact listAt_put (by assumption) (by assumption) | exact listAt_sub (by assumption) (by assumption)) | ((with_reducible refine f_tupL (ds := ?_) ?_ ?_); rotate_left; first | exact Or.inl put_same | assumption | exact Or.inl (by assumption) | (refine Or.inl ?_; (focus ((repeat (first | exact put_same | assumption | refine put_old ?_ (by assumption))); done))) | exact listAt_put (by assumption) (by assumption) | exact listAt_sub (by assumption) (by assumption)) | ((with_reducible refine x_itL (ds := ?_) ?_ ?_); rotate_left; first | exact Or.inl put_same | assumption | exact Or.inl (by assumption) | (refine Or.inl ?_; (focus ((repeat (first | exact put_same | assumption | refine put_old ?_ (by assumption))); done))) | exact listAt_put (by assumption) (by assumption) | exact listAt_sub (by assumption) (by assumption)) | with_reducible refine x_new (fun r nr => ?_) | ((with_reducible refine b_lst (ds := ?_) (es := ?_) ?_ ?_ ?_ ?_); rotate_left 2; (focus ((repeat (first | exact put_same | assumption | refine put_old ?_ (by assumption))); done)); (focus ((repeat (first | exact put_same | assumption | refine put_old ?_ (by assumption))); done))) | ((with_reducible refine b_rep (ds := ?_) ?_ ?_ ?_); rotate_left; (focus ((repeat (first | exact put_same | assumption | refine put_old ?_ (by assumption))); done))) | with_reducible refine f_lstT ?_ | with_reducible refine b_tup ?_ ?_ | with_reducible refine z_lenfT ?_ | with_reducible refine f_lenT ?_ | with_reducible refine i_fT ?_ ?_ | with_reducible refine z_isiI ?_ | with_reducible refine z_isiB ?_ | with_reducible refine z_isiF ?_ | with_reducible refine z_isiT ?_ | with_reducible refine z_lenF ?_)
      exact ⟨M, (Sub.refl M).put na, h⟩
theorem c_tie_shares {L n : Nat} {ps : List Rat} (hG : G "tie_shares" = sp_tie_shares L) (hl : ps.length ≤ n + 1) (hn : n ≤ 1000) (hL : L ≤ 10000) (hs : ∀ p ∈ ps, Sz L p) (h : Q (.tup (fL (ties ps n))) M) : G "tie_shares" [.tup (fL ps), .int n] M Q := by rw [hG]; exact ⟨ps, n, rfl, hl, hn, hL, hs, h⟩
end
end Pd

set_option maxHeartbeats 4000000
namespace Pd
open PySem PySem.Spec L2
/-- sums of ints -/
def sumI (f : Nat → Int) : Nat → Int
  | 0 => 0
  | n + 1 => sumI f n + f n
theorem sumI_bd {f : Nat → Int} {L : Nat} : ∀ {n : Nat}, (∀ i, i < n → Bd L (f i)) → Bd (n + L) (sumI f n)
  | 0, _ => Bd.zero
  | n + 1, h => by
    have := (sumI_bd (f := f) (n := n) fun i hi => h i (by omega)).add ((h n (by omega)).mono (by omega))
    exact this.mono (by omega)
theorem sumI_cast (f : Nat → Int) : ∀ n, ((sumI f n : Int) : Rat) = sumTo (fun i => (f i : Rat)) n
  | 0 => rfl
  | n + 1 => by
    show ((sumI f n + f n : Int) : Rat) = _
    rw [Rat.intCast_add, sumI_cast f n]; rfl
theorem sumI_congr {f g : Nat → Int} : ∀ {n : Nat}, (∀ i, i < n → f i = g i) → sumI f n = sumI g n
  | 0, _ => rfl
  | n + 1, h => by
    show sumI f n + f n = sumI g n + g n
    rw [sumI_congr fun i hi => h i (by omega), h n (by omega)]
def sgI (n : Nat) : Int := if n % 2 = 0 then 1 else -1
theorem sgI_cast (n : Nat) : ((sgI n : Int) : Rat) = sg n := by
  unfold sgI sg
  split <;> rfl
theorem sgI_succ (n : Nat) : sgI (n + 1) = - sgI n := by
  unfold sgI
  by_cases h : n % 2 = 0
  · rw [if_pos h, if_neg (by omega)]
  · rw [if_neg h, if_pos (by omega)]; rfl
theorem sgI_bd (n : Nat) : Bd 1 (sgI n) := by unfold sgI; split <;> decide
/-- the coefficients of Σ N w_k C(N-1,k) x^k (1-x)^(N-1-k) -/
def smC (ws : List Rat) (s : Nat) : Rat := (ws.length : Rat) * sumTo (fun k => sg (s + k) * ws.getD k 0 * cR (ws.length - 1) k * cR (ws.length - 1 - k) (s - k)) (s + 1)
def sm (ws : List Rat) : List Rat := (List.range ws.length).map (smC ws)
/-- a common denominator -/
def lcD (ws : List Rat) : Nat → Int
  | 0 => 1
  | i + 1 => lcD ws i * ((Rat.divInt (lcD ws i) ((ws.getD i 0).den : Int)).den : Int)
theorem dvd_lc {b d : Int} (hd : 0 < d) : d ∣ b * ((Rat.divInt b d).den : Int) := by
  rw [Rat.den_divInt, if_neg (by omega)]
  obtain ⟨k, hk⟩ : ((Int.gcd d b : Nat) : Int) ∣ b := Int.gcd_dvd_right ..
  obtain ⟨e, he⟩ : ((Int.gcd d b : Nat) : Int) ∣ d := Int.gcd_dvd_left ..
  have g0 : ((Int.gcd d b : Nat) : Int) ≠ 0 := by
    have : 0 < Int.gcd d b := Int.gcd_pos_of_ne_zero_left _ (by omega)
    omega
  have h1 : ((d.natAbs / Int.gcd d b : Nat) : Int) = e := by
    rw [Int.natCast_ediv]
    have : ((d.natAbs : Nat) : Int) = d := by omega
    rw [this]
    conv => lhs; lhs; rw [he]
    exact Int.mul_ediv_cancel_left _ g0
  rw [h1]
  refine ⟨k, ?_⟩
  conv => lhs; lhs; rw [hk]
  conv => rhs; lhs; rw [he]
  grind
theorem lcD_pos (ws : List Rat) : ∀ i, 0 < lcD ws i
  | 0 => by show (0 : Int) < 1; decide
  | i + 1 => Int.mul_pos (lcD_pos ws i) (den_pos _)
theorem lcD_dvd (ws : List Rat) : ∀ i j : Nat, j < i → ((ws.getD j 0).den : Int) ∣ lcD ws i
  | 0, j, h => by omega
  | i + 1, j, h => by
    by_cases e : j = i
    · subst e
      exact dvd_lc (den_pos _)
    · exact Int.dvd_trans (lcD_dvd ws i j (by omega)) (Int.dvd_mul_right _ _)
theorem lcD_bd {ws : List Rat} {L : Nat} (hs : ∀ w ∈ ws, Sz L w) : ∀ i : Nat, i ≤ ws.length → Bd (i * L + 1) (lcD ws i)
  | 0, _ => by
    show Bd _ 1
    exact Bd.one (by omega)
  | i + 1, h => by
    have h1 := lcD_bd hs i (by omega)
    have hw := hs _ (getD_memR (show i < ws.length by omega))
    have h2 : Bd L ((Rat.divInt (lcD ws i) ((ws.getD i 0).den : Int)).den : Int) := by
      refine Bd.of_le ?_ hw.2
      rw [Rat.den_divInt, if_neg (den_ne _)]
      exact Nat.div_le_self _ _
    exact (h1.mul h2).mono (by rw [Nat.add_mul]; omega)
/-- the items as whole numbers over it -/
def whI (ws : List Rat) (k : Nat) : Int := (ws.getD k 0).num * (lcD ws ws.length).fdiv ((ws.getD k 0).den)
theorem whI_cast {ws : List Rat} {k : Nat} (h : k < ws.length) : ((whI ws k : Int) : Rat) = ws.getD k 0 * (lcD ws ws.length : Int) := by
  unfold whI
  obtain ⟨e, he⟩ := lcD_dvd ws ws.length k h
  rw [he, Int.mul_fdiv_cancel_left _ (den_ne _), Rat.intCast_mul, Rat.intCast_mul]
  have : (ws.getD k 0) * (((ws.getD k 0).den : Int) : Rat) = ((ws.getD k 0).num : Rat) := by
    have h2 : ws.getD k 0 = ((ws.getD k 0).num : Rat) / (((ws.getD k 0).den : Int) : Rat) := by
      rw [← Rat.divInt_eq_div, Rat.num_divInt_den]
    conv => lhs; lhs; rw [h2]
    exact Rat.div_mul_cancel (fun z => den_ne _ (Rat.intCast_eq_zero_iff.mp z))
  rw [← this]; grind
theorem whI_bd {ws : List Rat} {L k : Nat} (hs : ∀ w ∈ ws, Sz L w) (h : k < ws.length) : Bd (L + (ws.length * L + 1)) (whI ws k) := by
  unfold whI
  refine (hs _ (getD_memR h)).1.mul ?_
  refine Bd.of_le ?_ (lcD_bd hs ws.length (Nat.le_refl _))
  rw [Int.fdiv_eq_ediv_of_nonneg _ (Int.le_of_lt (den_pos _))]
  exact Int.natAbs_ediv_le_natAbs _ _
def valI (ws : List Rat) (s j : Nat) : Int := sumI (fun k => sgI (s + k) * whI ws k * (ch (ws.length - 1) k : Int) * (ch (ws.length - 1 - k) (s - k) : Int)) j
theorem smC_of {ws : List Rat} {s : Nat} (hs : s < ws.length) : Rat.divInt ((ws.length : Int) * valI ws s (s + 1)) (lcD ws ws.length) = smC ws s := by
  have hp := lcD_pos ws ws.length
  rw [Rat.divInt_eq_div, Rat.intCast_mul]
  unfold valI smC
  rw [sumI_cast]
  have : sumTo (fun i => ((sgI (s + i) * whI ws i * (ch (ws.length - 1) i : Int) * (ch (ws.length - 1 - i) (s - i) : Int) : Int) : Rat)) (s + 1) =
      (lcD ws ws.length : Rat) * sumTo (fun k => sg (s + k) * ws.getD k 0 * cR (ws.length - 1) k * cR (ws.length - 1 - k) (s - k)) (s + 1) := by
    rw [← sumTo_mul]
    refine sumTo_congr fun k hk => ?_
    rw [Rat.intCast_mul, Rat.intCast_mul, Rat.intCast_mul, sgI_cast, whI_cast (by omega)]
    show sg (s + k) * _ * cR (ws.length - 1) k * cR (ws.length - 1 - k) (s - k) = _
    grind
  rw [this]
  have h0 : (lcD ws ws.length : Rat) ≠ 0 := fun z => by
    have := Rat.intCast_eq_zero_iff.mp z
    omega
  have e : ((ws.length : Int) : Rat) = (ws.length : Rat) := rfl
  rw [e]
  generalize (sumTo _ _) = S
  generalize (lcD ws ws.length : Rat) = B at h0
  have : (ws.length : Rat) * (B * S) = (ws.length : Rat) * S * B := by grind
  rw [this]
  exact Rat.mul_div_cancel h0
section
variable {G : Str → DSp} {M : Mp} {Q : DK}
theorem put_none {M : Mp} {a b : Addr} {o : MO} (h : put M a o b = none) : M b = none ∧ b ≠ a := by
  have : b ≠ a := fun e => by subst e; rw [put_same] at h; cases h
  exact ⟨by rw [put_ne this] at h; exact h, this⟩
theorem valI_succ (ws : List Rat) (s j : Nat) : valI ws s (j + 1) = valI ws s j + sgI (s + j) * whI ws j * (ch (ws.length - 1) j : Int) * (ch (ws.length - 1 - j) (s - j) : Int) := rfl
theorem sgI_mod (s : Nat) : (1 : Int) - 2 * ((s : Int).fmod 2) = sgI s := by
  have : (s : Int).fmod 2 = ((s % 2 : Nat) : Int) := by rw [Int.fmod_eq_emod_of_nonneg _ (by decide)]; omega
  rw [this]
  unfold sgI
  split <;> omega
def p__law_summed : Ps := (.seq (.asg [2] true (.bi .len (.cons (.var 1) .nil)))
  (.seq (.asg [3] true (.int 1))
  (.seq (.for [4] true (.itE (.var 1))
    (.asg [3] true (.bin .Mult (.var 3) (.idx (.call "_law_ratio" (.cons (.var 3) (.cons (.idx (.var 4) (.int 1)) .nil))) (.int 1)))))
  (.seq (.asg [5] true (.comp [4] [4] true (.itE (.var 1)) (.bl true) (.bin .Mult (.idx (.var 4) (.int 0)) (.bin .FloorDiv (.var 3) (.idx (.var 4) (.int 1))))))
  (.seq (.asg [6] true (.lst .nil))
  (.seq (.for [7] true (.rng (.int 0) (.var 2))
    (.seq (.asg [8] true (.int 0))
    (.seq (.asg [9] true (.bin .Sub (.int 1) (.bin .Mult (.int 2) (.bin .Mod (.bi .int (.cons (.var 7) .nil)) (.int 2)))))
    (.seq (.for [10] true (.rng (.int 0) (.bin .Add (.var 7) (.int 1)))
      (.seq (.asg [8] true (.bin .Add (.var 8) (.bin .Mult (.bin .Mult (.bin .Mult (.var 9) (.idx (.var 5) (.var 10))) (.idx (.idx (.var 0) (.bin .Sub (.var 2) (.int 1))) (.var 10))) (.idx (.idx (.var 0) (.bin .Sub (.bin .Sub (.var 2) (.int 1)) (.var 10))) (.bin .Sub (.var 7) (.var 10))))))
      (.asg [9] true (.neg (.var 9)))))
    (.expr (.mt .append (.var 6) (.cons (.call "_law_ratio" (.cons (.bin .Mult (.var 2) (.var 8)) (.cons (.var 3) .nil))) .nil)))))))
  (.ret (.call "_law_trim" (.cons (.var 6) .nil)))))))))
def sp__law_summed : DSp := fun ds M R => ∃ (r : Addr) (m : Nat) (ws : List Rat) (L : Nat), ds = [.ref r, .tup (fL ws)] ∧ Pas M r m ∧ ws.length ≤ m + 1 ∧ ws.length ≤ 1000 ∧ (ws.length + 1) * L ≤ 50000000 ∧ (∀ w ∈ ws, Sz L w) ∧ R (.tup (fL (trimQ (sm ws)))) M
theorem ok__law_summed (h1 : G "_law_ratio" = sp_ratio) (h2 : G "_law_trim" = sp__law_trim) (ds M R) (h : sp__law_summed ds M R) : wBody G p__law_summed 11 ds M R := by
  obtain ⟨r0, m, ws, L, rfl, hP, hm, hN, hL, hs, h⟩ := h
  have hW : L + (ws.length * L + 1) ≤ 50000001 := by rw [Nat.add_mul] at hL; omega
  unfold p__law_summed wBody
  repeat' (first | ((with_reducible refine e_var (d := ?_) ?_ ?_); rotate_left; exact rfl) | with_reducible refine e_cons ?_ | with_reducible refine x_tup ?_ | with_reducible refine e_nil ?_ | with_reducible refine e_int ?_ | with_reducible refine e_idx ?_ | with_reducible refine e_bin ?_ | with_reducible refine b_add ?_ | with_reducible refine b_sub ?_ | with_reducible refine b_mul ?_ ?_ | with_reducible refine i_fr0 ?_ | with_reducible refine i_fr1 ?_ | with_reducible refine e_call ?_ | with_reducible refine e_callK ?_ | with_reducible refine e_bi ?_ | with_reducible refine s_seq ?_ | with_reducible refine s_asg ?_ | with_reducible refine s_ret ?_ | with_reducible refine e_cmp ?_ | with_reducible refine c_eq ?_ | with_reducible refine c_ne ?_ | with_reducible refine c_lt ?_ | with_reducible refine c_le ?_ | with_reducible refine c_gt ?_ | with_reducible refine c_ge ?_ | with_reducible refine s_ife ?_ | with_reducible refine x_ifT ?_ | with_reducible refine x_ifF ?_ | with_reducible refine x_ifNT ?_ | with_reducible refine x_ifNF ?_ | with_reducible refine x_ifd (fun hc => ?_) (fun hc => ?_) | with_reducible refine x_ifn (fun hc => ?_) (fun hc => ?_) | with_reducible refine x_if (fun hc => ?_) (fun hc => ?_) | with_reducible refine s_skip ?_ | with_reducible refine s_expr ?_ | with_reducible refine e_mt ?_ | with_reducible refine b_div ?_ ?_ | with_reducible refine b_mod ?_ ?_ | with_reducible refine b_pow ?_ ?_ | with_reducible refine e_tup ?_ | with_reducible refine x_len (by simp only [List.length_cons, List.length_nil]; decide) ?_ | with_reducible refine e_neg ?_ | with_reducible refine x_int ?_ | with_reducible refine e_bl ?_ | with_reducible refine e_non ?_ | with_reducible refine e_str ?_ | with_reducible refine e_and ?_ | with_reducible refine e_or ?_ | with_reducible refine e_not ?_ | with_reducible refine e_truth ?_ | with_reducible refine x_bl ?_ | with_reducible refine t_bl ?_ | with_reducible refine t_int ?_ | with_reducible refine t_tup ?_ | with_reducible refine t_non ?_ | with_reducible refine e_ife ?_ | with_reducible refine e_isi ?_ | with_reducible refine f_abs ?_ | with_reducible refine f_int ?_ | with_reducible refine f_gcd ?_ | with_reducible refine f_max ?_ | with_reducible refine f_min ?_ | with_reducible refine f_tupT ?_ | with_reducible refine s_for ?_ | with_reducible refine w_rng ?_ | with_reducible refine x_rng ?_ ?_ | with_reducible refine w_it ?_ | with_reducible refine x_itT ?_ | with_reducible refine s_while ?_ | with_reducible refine e_lst ?_ | with_reducible refine e_cut ?_ | with_reducible refine e_absent ?_ | with_reducible refine e_asInt ?_ | with_reducible refine x_pI ?_ | with_reducible refine x_pN ?_ | with_reducible refine e_chain ?_ | with_reducible refine e_comp ?_ | with_reducible refine e_tcomp ?_ | with_reducible refine s_brk ?_ | with_reducible refine s_cont ?_ | ((with_reducible refine m_app (ds := ?_) ?_ ?_); rotate_left; (focus ((repeat (first | exact put_same | assumption | refine put_old ?_ (by assumption))); done))) | ((with_reducible refine m_app2 (ds := ?_) ?_ ?_ ?_); rotate_left; (focus ((repeat (first | exact put_same | assumption | refine put_old ?_ (by assumption))); done))) | ((with_reducible refine z_leniL (qs := ?_) ?_ ?_); rotate_left; first | exact Or.inl put_same | assumption | exact Or.inl (by assumption) | (refine Or.inl ?_; (focus ((repeat (first | exact put_same | assumption | refine put_old ?_ (by assumption))); done))) | exact listAt_put (by assumption) (by assumption) | exact listAt_sub (by assumption) (by assumption)) | ((with_reducible refine z_lenfL (qs := ?_) ?_ ?_); rotate_left; first | exact Or.inl put_same | assumption | exact Or.inl (by assumption) | (refine Or.inl ?_; (focus ((repeat (first | exact put_same | assumption | refine put_old ?_ (by assumption))); done))) | exact listAt_put (by assumption) (by assumption) | exact listAt_sub (by assumption) (by assumption)) | ((with_reducible refine f_lenL (ds := ?_) ?_ ?_); rotate_left; first | exact Or.inl put_same | assumption | exact Or.inl (by assumption) | (refine Or.inl ?_; (focus ((repeat (first | exact put_same | assumption | refine put_old ?_ (by assumption))); done))) | exact listAt_put (by assumption) (by assumption) | exact listAt_sub (by assumption) (by assumption)) | ((with_reducible refine i_iL (ns := ?_) ?_ ?_ ?_); rotate_left; first | exact Or.inl put_same | assumption | exact Or.inl (by assumption) | (refine Or.inl ?_; (focus ((repeat (first | exact put_same | assumption | refine put_old ?_ (by assumption))); done))) | exact listAt_put (by assumption) (by assumption) | exact listAt_sub (by assumption) (by assumption)) | ((with_reducible refine i_fL (ns := ?_) ?_ ?_ ?_); rotate_left; first | exact Or.inl put_same | assumption | exact Or.inl (by assumption) | (refine Or.inl ?_; (focus ((repeat (first | exact put_same | assumption | refine put_old ?_ (by assumption))); done))) | exact listAt_put (by assumption) (by assumption) | exact listAt_sub (by assumption) (by assumption)) | ((with_reducible refine f_tupL (ds := ?_) ?_ ?_); rotate_left; first | exact Or.inl put_same | assumption | exact Or.inl (by assumption) | (refine Or.inl ?_; (focus ((repeat (first | exact put_same | assumption | refine put_old ?_ (by assumption))); done))) | exact listAt_put (by assumption) (by assumption) | exact listAt_sub (by assumption) (by assumption)) | ((with_reducible refine x_itL (ds := ?_) ?_ ?_); rotate_left; first | exact Or.inl put_same | assumption | exact Or.inl (by assumption) | (refine Or.inl ?_; (focus ((repeat (first | exact put_same | assumption | refine put_old ?_ (by assumption))); done))) | exact listAt_put (by assumption) (by assumption) | exact listAt_sub (by assumption) (by assumption)) | with_reducible refine x_new (fun r nr => ?_) | ((with_reducible refine b_lst (ds := ?_) (es := ?_) ?_ ?_ ?_ ?_); rotate_left 2; (focus ((repeat (first | exact put_same | assumption | refine put_old ?_ (by assumption))); done)); (focus ((repeat (first | exact put_same | assumption | refine put_old ?_ (by assumption))); done))) | ((with_reducible refine b_rep (ds := ?_) ?_ ?_ ?_); rotate_left; (focus ((repeat (first | exact put_same | assumption | refine put_old ?_ (by assumption))); done))) | with_reducible refine f_lstT ?_ | with_reducible refine b_tup ?_ ?_ | with_reducible refine z_lenfT ?_ | with_reducible refine f_lenT ?_ | with_reducible refine i_fT ?_ ?_ | with_reducible refine z_isiI ?_ | with_reducible refine z_isiB ?_ | with_reducible refine z_isiF ?_ | with_reducible refine z_isiT ?_ | with_reducible refine z_lenF ?_)
  refine for_fT ws (fun i σ M' => M' = M ∧ ∃ o, σ = [some (.ref r0), some (.tup (fL ws)), some (.int ws.length), some (.int (lcD ws i)), o, none, none, none, none, none, none]) ⟨rfl, none, rfl⟩ ?_ ?_
  · rintro i hi σ M' ⟨rfl, o, rfl⟩
    have b1 := lcD_bd hs i (by omega)
    have hw := hs _ (getD_memR hi)
    have b2 : Bd L ((Rat.divInt (lcD ws i) ((ws.getD i 0).den : Int)).den : Int) := by
      refine Bd.of_le ?_ hw.2
      rw [Rat.den_divInt, if_neg (den_ne _)]
      exact Nat.div_le_self _ _
    have hiL : i * L ≤ ws.length * L := Nat.mul_le_mul_right _ (by omega)
    repeat' (first | with_reducible refine c__law_ratio h1 ?_ ?_ | ((with_reducible refine e_var (d := ?_) ?_ ?_); rotate_left; exact rfl) | with_reducible refine e_cons ?_ | with_reducible refine x_tup ?_ | with_reducible refine e_nil ?_ | with_reducible refine e_int ?_ | with_reducible refine e_idx ?_ | with_reducible refine e_bin ?_ | with_reducible refine b_add ?_ | with_reducible refine b_sub ?_ | with_reducible refine b_mul ?_ ?_ | with_reducible refine i_fr0 ?_ | with_reducible refine i_fr1 ?_ | with_reducible refine e_call ?_ | with_reducible refine e_callK ?_ | with_reducible refine e_bi ?_ | with_reducible refine s_seq ?_ | with_reducible refine s_asg ?_ | with_reducible refine s_ret ?_ | with_reducible refine e_cmp ?_ | with_reducible refine c_eq ?_ | with_reducible refine c_ne ?_ | with_reducible refine c_lt ?_ | with_reducible refine c_le ?_ | with_reducible refine c_gt ?_ | with_reducible refine c_ge ?_ | with_reducible refine s_ife ?_ | with_reducible refine x_ifT ?_ | with_reducible refine x_ifF ?_ | with_reducible refine x_ifNT ?_ | with_reducible refine x_ifNF ?_ | with_reducible refine x_ifd (fun hc => ?_) (fun hc => ?_) | with_reducible refine x_ifn (fun hc => ?_) (fun hc => ?_) | with_reducible refine x_if (fun hc => ?_) (fun hc => ?_) | with_reducible refine s_skip ?_ | with_reducible refine s_expr ?_ | with_reducible refine e_mt ?_ | with_reducible refine b_div ?_ ?_ | with_reducible refine b_mod ?_ ?_ | with_reducible refine b_pow ?_ ?_ | with_reducible refine e_tup ?_ | with_reducible refine x_len (by simp only [List.length_cons, List.length_nil]; decide) ?_ | with_reducible refine e_neg ?_ | with_reducible refine x_int ?_ | with_reducible refine e_bl ?_ | with_reducible refine e_non ?_ | with_reducible refine e_str ?_ | with_reducible refine e_and ?_ | with_reducible refine e_or ?_ | with_reducible refine e_not ?_ | with_reducible refine e_truth ?_ | with_reducible refine x_bl ?_ | with_reducible refine t_bl ?_ | with_reducible refine t_int ?_ | with_reducible refine t_tup ?_ | with_reducible refine t_non ?_ | with_reducible refine e_ife ?_ | with_reducible refine e_isi ?_ | with_reducible refine f_abs ?_ | with_reducible refine f_int ?_ | with_reducible refine f_gcd ?_ | with_reducible refine f_max ?_ | with_reducible refine f_min ?_ | with_reducible refine f_tupT ?_ | with_reducible refine s_for ?_ | with_reducible refine w_rng ?_ | with_reducible refine x_rng ?_ ?_ | with_reducible refine w_it ?_ | with_reducible refine x_itT ?_ | with_reducible refine s_while ?_ | with_reducible refine e_lst ?_ | with_reducible refine e_cut ?_ | with_reducible refine e_absent ?_ | with_reducible refine e_asInt ?_ | with_reducible refine x_pI ?_ | with_reducible refine x_pN ?_ | with_reducible refine e_chain ?_ | with_reducible refine e_comp ?_ | with_reducible refine e_tcomp ?_ | with_reducible refine s_brk ?_ | with_reducible refine s_cont ?_ | ((with_reducible refine m_app (ds := ?_) ?_ ?_); rotate_left; (focus ((repeat (first | exact put_same | assumption | refine put_old ?_ (by assumption))); done))) | ((with_reducible refine m_app2 (ds := ?_) ?_ ?_ ?_); rotate_left; (focus ((repeat (first | exact put_same | assumption | refine put_old ?_ (by assumption))); done))) | ((with_reducible refine z_leniL (qs := ?_) ?_ ?_); rotate_left; first | exact Or.inl put_same | assumption | exact Or.inl (by assumption) | (refine Or.inl ?_; (focus ((repeat (first | exact put_same | assumption | refine put_old ?_ (by assumption))); done))) | exact listAt_put (by assumption) (by assumption) | exact listAt_sub (by assumption) (by assumption)) | ((with_reducible refine z_lenfL (qs := ?_) ?_ ?_); rotate_left; first | exact Or.inl put_same | assumption | exact Or.inl (by assumption) | (refine Or.inl ?_; (focus ((repeat (first | exact put_same | assumption | refine put_old ?_ (by assumption))); done))) | exact listAt_put (by assumption) (by assumption) | exact listAt_sub (by assumption) (by assumption)) | ((with_reducible refine f_lenL (ds := ?_) ?_ ?_); rotate_left; first | exact Or.inl put_same | assumption | exact Or.inl (by assumption) | (refine Or.inl ?_; (focus ((repeat (first | exact put_same | assumption | refine put_old ?_ (by assumption))); done))) | exact listAt_put (by assumption) (by assumption) | exact listAt_sub (by assumption) (by assumption)) | ((with_reducible refine i_iL (ns := ?_) ?_ ?_ ?_); rotate_left; first | exact Or.inl put_same | assumption | exact Or.inl (by assumption) | (refine Or.inl ?_; (focus ((repeat (first | exact put_same | assumption | refine put_old ?_ (by assumption))); done))) | exact listAt_put (by assumption) (by assumption) | exact listAt_sub (by assumption) (by assumption)) | ((with_reducible refine i_fL (ns := ?_) ?_ ?_ ?_); rotate_left; first | exact Or.inl put_same | assumption | exact Or.inl (by assumption) | (refine Or.inl ?_; (focus ((repeat (first | exact put_same | assumption | refine put_old ?_ (by assumption))); done))) | exact listAt_put (by assumption) (by assumption) | exact listAt_sub (by assumption) (by assumption)) | ((with_reducible refine f_tupL (ds := ?_) ?_ ?_); rotate_left; first | exact Or.inl put_same | assumption | exact Or.inl (by assumption) | (refine Or.inl ?_; (focus ((repeat (first | exact put_same | assumption | refine put_old ?_ (by assumption))); done))) | exact listAt_put (by assumption) (by assumption) | exact listAt_sub (by assumption) (by assumption)) | ((with_reducible refine x_itL (ds := ?_) ?_ ?_); rotate_left; first | exact Or.inl put_same | assumption | exact Or.inl (by assumption) | (refine Or.inl ?_; (focus ((repeat (first | exact put_same | assumption | refine put_old ?_ (by assumption))); done))) | exact listAt_put (by assumption) (by assumption) | exact listAt_sub (by assumption) (by assumption)) | with_reducible refine x_new (fun r nr => ?_) | ((with_reducible refine b_lst (ds := ?_) (es := ?_) ?_ ?_ ?_ ?_); rotate_left 2; (focus ((repeat (first | exact put_same | assumption | refine put_old ?_ (by assumption))); done)); (focus ((repeat (first | exact put_same | assumption | refine put_old ?_ (by assumption))); done))) | ((with_reducible refine b_rep (ds := ?_) ?_ ?_ ?_); rotate_left; (focus ((repeat (first | exact put_same | assumption | refine put_old ?_ (by assumption))); done))) | with_reducible refine f_lstT ?_ | with_reducible refine b_tup ?_ ?_ | with_reducible refine z_lenfT ?_ | with_reducible refine f_lenT ?_ | with_reducible refine i_fT ?_ ?_ | with_reducible refine z_isiI ?_ | with_reducible refine z_isiB ?_ | with_reducible refine z_isiF ?_ | with_reducible refine z_isiT ?_ | with_reducible refine z_lenF ?_)
    · exact den_ne _
    · exact b1.mulOk b2 (by omega)
    · exact ⟨M', Sub.refl M', rfl, _, rfl⟩
  · rintro σ M' ⟨rfl, o, rfl⟩
    have hB := lcD_bd hs ws.length (Nat.le_refl _)
    have hpos := lcD_pos ws ws.length
    repeat' (first | ((with_reducible refine e_var (d := ?_) ?_ ?_); rotate_left; exact rfl) | with_reducible refine e_cons ?_ | with_reducible refine x_tup ?_ | with_reducible refine e_nil ?_ | with_reducible refine e_int ?_ | with_reducible refine e_idx ?_ | with_reducible refine e_bin ?_ | with_reducible refine b_add ?_ | with_reducible refine b_sub ?_ | with_reducible refine b_mul ?_ ?_ | with_reducible refine i_fr0 ?_ | with_reducible refine i_fr1 ?_ | with_reducible refine e_call ?_ | with_reducible refine e_callK ?_ | with_reducible refine e_bi ?_ | with_reducible refine s_seq ?_ | with_reducible refine s_asg ?_ | with_reducible refine s_ret ?_ | with_reducible refine e_cmp ?_ | with_reducible refine c_eq ?_ | with_reducible refine c_ne ?_ | with_reducible refine c_lt ?_ | with_reducible refine c_le ?_ | with_reducible refine c_gt ?_ | with_reducible refine c_ge ?_ | with_reducible refine s_ife ?_ | with_reducible refine x_ifT ?_ | with_reducible refine x_ifF ?_ | with_reducible refine x_ifNT ?_ | with_reducible refine x_ifNF ?_ | with_reducible refine x_ifd (fun hc => ?_) (fun hc => ?_) | with_reducible refine x_ifn (fun hc => ?_) (fun hc => ?_) | with_reducible refine x_if (fun hc => ?_) (fun hc => ?_) | with_reducible refine s_skip ?_ | with_reducible refine s_expr ?_ | with_reducible refine e_mt ?_ | with_reducible refine b_div ?_ ?_ | with_reducible refine b_mod ?_ ?_ | with_reducible refine b_pow ?_ ?_ | with_reducible refine e_tup ?_ | with_reducible refine x_len (by simp only [List.length_cons, List.length_nil]; decide) ?_ | with_reducible refine e_neg ?_ | with_reducible refine x_int ?_ | with_reducible refine e_bl ?_ | with_reducible refine e_non ?_ | with_reducible refine e_str ?_ | with_reducible refine e_and ?_ | with_reducible refine e_or ?_ | with_reducible refine e_not ?_ | with_reducible refine e_truth ?_ | with_reducible refine x_bl ?_ | with_reducible refine t_bl ?_ | with_reducible refine t_int ?_ | with_reducible refine t_tup ?_ | with_reducible refine t_non ?_ | with_reducible refine e_ife ?_ | with_reducible refine e_isi ?_ | with_reducible refine f_abs ?_ | with_reducible refine f_int ?_ | with_reducible refine f_gcd ?_ | with_reducible refine f_max ?_ | with_reducible refine f_min ?_ | with_reducible refine f_tupT ?_ | with_reducible refine s_for ?_ | with_reducible refine w_rng ?_ | with_reducible refine x_rng ?_ ?_ | with_reducible refine w_it ?_ | with_reducible refine x_itT ?_ | with_reducible refine s_while ?_ | with_reducible refine e_lst ?_ | with_reducible refine e_cut ?_ | with_reducible refine e_absent ?_ | with_reducible refine e_asInt ?_ | with_reducible refine x_pI ?_ | with_reducible refine x_pN ?_ | with_reducible refine e_chain ?_ | with_reducible refine e_comp ?_ | with_reducible refine e_tcomp ?_ | with_reducible refine s_brk ?_ | with_reducible refine s_cont ?_ | ((with_reducible refine m_app (ds := ?_) ?_ ?_); rotate_left; (focus ((repeat (first | exact put_same | assumption | refine put_old ?_ (by assumption))); done))) | ((with_reducible refine m_app2 (ds := ?_) ?_ ?_ ?_); rotate_left; (focus ((repeat (first | exact put_same | assumption | refine put_old ?_ (by assumption))); done))) | ((with_reducible refine z_leniL (qs := ?_) ?_ ?_); rotate_left; first | exact Or.inl put_same | assumption | exact Or.inl (by assumption) | (refine Or.inl ?_; (focus ((repeat (first | exact put_same | assumption | refine put_old ?_ (by assumption))); done))) | exact listAt_put (by assumption) (by assumption) | exact listAt_sub (by assumption) (by assumption)) | ((with_reducible refine z_lenfL (qs := ?_) ?_ ?_); rotate_left; first | exact Or.inl put_same | assumption | exact Or.inl (by assumption) | (refine Or.inl ?_; (focus ((repeat (first | exact put_same | assumption | refine put_old ?_ (by assumption))); done))) | exact listAt_put (by assumption) (by assumption) | exact listAt_sub (by assumption) (by assumption)) | ((with_reducible refine f_lenL (ds := ?_) ?_ ?_); rotate_left; first | exact Or.inl put_same | assumption | exact Or.inl (by assumption) | (refine Or.inl ?_; (focus ((repeat (first | exact put_same | assumption | refine put_old ?_ (by assumption))); done))) | exact listAt_put (by assumption) (by assumption) | exact listAt_sub (by assumption) (by assumption)) | ((with_reducible refine i_iL (ns := ?_) ?_ ?_ ?_); rotate_left; first | exact Or.inl put_same | assumption | exact Or.inl (by assumption) | (refine Or.inl ?_; (focus ((repeat (first | exact put_same | assumption | refine put_old ?_ (by assumption))); done))) | exact listAt_put (by assumption) (by assumption) | exact listAt_sub (by assumption) (by assumption)) | ((with_reducible refine i_fL (ns := ?_) ?_ ?_ ?_); rotate_left; first | exact Or.inl put_same | assumption | exact Or.inl (by assumption) | (refine Or.inl ?_; (focus ((repeat (first | exact put_same | assumption | refine put_old ?_ (by assumption))); done))) | exact listAt_put (by assumption) (by assumption) | exact listAt_sub (by assumption) (by assumption)) | ((with_reducible refine f_tupL (ds := ?_) ?_ ?_); rotate_left; first | exact Or.inl put_same | assumption | exact Or.inl (by assumption) | (refine Or.inl ?_; (focus ((repeat (first | exact put_same | assumption | refine put_old ?_ (by assumption))); done))) | exact listAt_put (by assumption) (by assumption) | exact listAt_sub (by assumption) (by assumption)) | ((with_reducible refine x_itL (ds := ?_) ?_ ?_); rotate_left; first | exact Or.inl put_same | assumption | exact Or.inl (by assumption) | (refine Or.inl ?_; (focus ((repeat (first | exact put_same | assumption | refine put_old ?_ (by assumption))); done))) | exact listAt_put (by assumption) (by assumption) | exact listAt_sub (by assumption) (by assumption)) | with_reducible refine x_new (fun r nr => ?_) | ((with_reducible refine b_lst (ds := ?_) (es := ?_) ?_ ?_ ?_ ?_); rotate_left 2; (focus ((repeat (first | exact put_same | assumption | refine put_old ?_ (by assumption))); done)); (focus ((repeat (first | exact put_same | assumption | refine put_old ?_ (by assumption))); done))) | ((with_reducible refine b_rep (ds := ?_) ?_ ?_ ?_); rotate_left; (focus ((repeat (first | exact put_same | assumption | refine put_old ?_ (by assumption))); done))) | with_reducible refine f_lstT ?_ | with_reducible refine b_tup ?_ ?_ | with_reducible refine z_lenfT ?_ | with_reducible refine f_lenT ?_ | with_reducible refine i_fT ?_ ?_ | with_reducible refine z_isiI ?_ | with_reducible refine z_isiB ?_ | with_reducible refine z_isiF ?_ | with_reducible refine z_isiT ?_ | with_reducible refine z_lenF ?_)
    refine comp_fT (fun i => .int (whI ws i)) (by have := big_line (show ws.length ≤ 1000000 by omega); omega) ?_ ?_
    · intro i M2 hi sb Q k
      have hw := hs _ (getD_memR hi)
      repeat' (first | ((with_reducible refine e_var (d := ?_) ?_ ?_); rotate_left; exact rfl) | with_reducible refine e_cons ?_ | with_reducible refine x_tup ?_ | with_reducible refine e_nil ?_ | with_reducible refine e_int ?_ | with_reducible refine e_idx ?_ | with_reducible refine e_bin ?_ | with_reducible refine b_add ?_ | with_reducible refine b_sub ?_ | with_reducible refine b_mul ?_ ?_ | with_reducible refine i_fr0 ?_ | with_reducible refine i_fr1 ?_ | with_reducible refine e_call ?_ | with_reducible refine e_callK ?_ | with_reducible refine e_bi ?_ | with_reducible refine s_seq ?_ | with_reducible refine s_asg ?_ | with_reducible refine s_ret ?_ | with_reducible refine e_cmp ?_ | with_reducible refine c_eq ?_ | with_reducible refine c_ne ?_ | with_reducible refine c_lt ?_ | with_reducible refine c_le ?_ | with_reducible refine c_gt ?_ | with_reducible refine c_ge ?_ | with_reducible refine s_ife ?_ | with_reducible refine x_ifT ?_ | with_reducible refine x_ifF ?_ | with_reducible refine x_ifNT ?_ | with_reducible refine x_ifNF ?_ | with_reducible refine x_ifd (fun hc => ?_) (fun hc => ?_) | with_reducible refine x_ifn (fun hc => ?_) (fun hc => ?_) | with_reducible refine x_if (fun hc => ?_) (fun hc => ?_) | with_reducible refine s_skip ?_ | with_reducible refine s_expr ?_ | with_reducible refine e_mt ?_ | with_reducible refine b_div ?_ ?_ | with_reducible refine b_mod ?_ ?_ | with_reducible refine b_pow ?_ ?_ | with_reducible refine e_tup ?_ | with_reducible refine x_len (by simp only [List.length_cons, List.length_nil]; decide) ?_ | with_reducible refine e_neg ?_ | with_reducible refine x_int ?_ | with_reducible refine e_bl ?_ | with_reducible refine e_non ?_ | with_reducible refine e_str ?_ | with_reducible refine e_and ?_ | with_reducible refine e_or ?_ | with_reducible refine e_not ?_ | with_reducible refine e_truth ?_ | with_reducible refine x_bl ?_ | with_reducible refine t_bl ?_ | with_reducible refine t_int ?_ | with_reducible refine t_tup ?_ | with_reducible refine t_non ?_ | with_reducible refine e_ife ?_ | with_reducible refine e_isi ?_ | with_reducible refine f_abs ?_ | with_reducible refine f_int ?_ | with_reducible refine f_gcd ?_ | with_reducible refine f_max ?_ | with_reducible refine f_min ?_ | with_reducible refine f_tupT ?_ | with_reducible refine s_for ?_ | with_reducible refine w_rng ?_ | with_reducible refine x_rng ?_ ?_ | with_reducible refine w_it ?_ | with_reducible refine x_itT ?_ | with_reducible refine s_while ?_ | with_reducible refine e_lst ?_ | with_reducible refine e_cut ?_ | with_reducible refine e_absent ?_ | with_reducible refine e_asInt ?_ | with_reducible refine x_pI ?_ | with_reducible refine x_pN ?_ | with_reducible refine e_chain ?_ | with_reducible refine e_comp ?_ | with_reducible refine e_tcomp ?_ | with_reducible refine s_brk ?_ | with_reducible refine s_cont ?_ | ((with_reducible refine m_app (ds := ?_) ?_ ?_); rotate_left; (focus ((repeat (first | exact put_same | assumption | refine put_old ?_ (by assumption))); done))) | ((with_reducible refine m_app2 (ds := ?_) ?_ ?_ ?_); rotate_left; (focus ((repeat (first | exact put_same | assumption | refine put_old ?_ (by assumption))); done))) | ((with_reducible refine z_leniL (qs := ?_) ?_ ?_); rotate_left; first | exact Or.inl put_same | assumption | exact Or.inl (by assumption) | (refine Or.inl ?_; (focus ((repeat (first | exact put_same | assumption | refine put_old ?_ (by assumption))); done))) | exact listAt_put (by assumption) (by assumption) | exact listAt_sub (by assumption) (by assumption)) | ((with_reducible refine z_lenfL (qs := ?_) ?_ ?_); rotate_left; first | exact Or.inl put_same | assumption | exact Or.inl (by assumption) | (refine Or.inl ?_; (focus ((repeat (first | exact put_same | assumption | refine put_old ?_ (by assumption))); done))) | exact listAt_put (by assumption) (by assumption) | exact listAt_sub (by assumption) (by assumption)) | ((with_reducible refine f_lenL (ds := ?_) ?_ ?_); rotate_left; first | exact Or.inl put_same | assumption | exact Or.inl (by assumption) | (refine Or.inl ?_; (focus ((repeat (first | exact put_same | assumption | refine put_old ?_ (by assumption))); done))) | exact listAt_put (by assumption) (by assumption) | exact listAt_sub (by assumption) (by assumption)) | ((with_reducible refine i_iL (ns := ?_) ?_ ?_ ?_); rotate_left; first | exact Or.inl put_same | assumption | exact Or.inl (by assumption) | (refine Or.inl ?_; (focus ((repeat (first | exact put_same | assumption | refine put_old ?_ (by assumption))); done))) | exact listAt_put (by assumption) (by assumption) | exact listAt_sub (by assumption) (by assumption)) | ((with_reducible refine i_fL (ns := ?_) ?_ ?_ ?_); rotate_left; first | exact Or.inl put_same | assumption | exact Or.inl (by assumption) | (refine Or.inl ?_; (focus ((repeat (first | exact put_same | assumption | refine put_old ?_ (by assumption))); done))) | exact listAt_put (by assumption) (by assumption) | exact listAt_sub (by assumption) (by assumption)) | ((with_reducible refine f_tupL (ds := ?_) ?_ ?_); rotate_left; first | exact Or.inl put_same | assumption | exact Or.inl (by assumption) | (refine Or.inl ?_; (focus ((repeat (first | exact put_same | assumption | refine put_old ?_ (by assumption))); done))) | exact listAt_put (by assumption) (by assumption) | exact listAt_sub (by assumption) (by assumption)) | ((with_reducible refine x_itL (ds := ?_) ?_ ?_); rotate_left; first | exact Or.inl put_same | assumption | exact Or.inl (by assumption) | (refine Or.inl ?_; (focus ((repeat (first | exact put_same | assumption | refine put_old ?_ (by assumption))); done))) | exact listAt_put (by assumption) (by assumption) | exact listAt_sub (by assumption) (by assumption)) | with_reducible refine x_new (fun r nr => ?_) | ((with_reducible refine b_lst (ds := ?_) (es := ?_) ?_ ?_ ?_ ?_); rotate_left 2; (focus ((repeat (first | exact put_same | assumption | refine put_old ?_ (by assumption))); done)); (focus ((repeat (first | exact put_same | assumption | refine put_old ?_ (by assumption))); done))) | ((with_reducible refine b_rep (ds := ?_) ?_ ?_ ?_); rotate_left; (focus ((repeat (first | exact put_same | assumption | refine put_old ?_ (by assumption))); done))) | with_reducible refine f_lstT ?_ | with_reducible refine b_tup ?_ ?_ | with_reducible refine z_lenfT ?_ | with_reducible refine f_lenT ?_ | with_reducible refine i_fT ?_ ?_ | with_reducible refine z_isiI ?_ | with_reducible refine z_isiB ?_ | with_reducible refine z_isiF ?_ | with_reducible refine z_isiT ?_ | with_reducible refine z_lenF ?_)
      · exact den_ne _
      · refine hw.1.mulOk (Bd.of_le ?_ hB) (by omega)
        rw [Int.fdiv_eq_ediv_of_nonneg _ (Int.le_of_lt (den_pos _))]
        exact Int.natAbs_ediv_le_natAbs _ _
      · exact k M2 sb
    · rw [map_int]
      repeat' (first | ((with_reducible refine e_var (d := ?_) ?_ ?_); rotate_left; exact rfl) | with_reducible refine e_cons ?_ | with_reducible refine x_tup ?_ | with_reducible refine e_nil ?_ | with_reducible refine e_int ?_ | with_reducible refine e_idx ?_ | with_reducible refine e_bin ?_ | with_reducible refine b_add ?_ | with_reducible refine b_sub ?_ | with_reducible refine b_mul ?_ ?_ | with_reducible refine i_fr0 ?_ | with_reducible refine i_fr1 ?_ | with_reducible refine e_call ?_ | with_reducible refine e_callK ?_ | with_reducible refine e_bi ?_ | with_reducible refine s_seq ?_ | with_reducible refine s_asg ?_ | with_reducible refine s_ret ?_ | with_reducible refine e_cmp ?_ | with_reducible refine c_eq ?_ | with_reducible refine c_ne ?_ | with_reducible refine c_lt ?_ | with_reducible refine c_le ?_ | with_reducible refine c_gt ?_ | with_reducible refine c_ge ?_ | with_reducible refine s_ife ?_ | with_reducible refine x_ifT ?_ | with_reducible refine x_ifF ?_ | with_reducible refine x_ifNT ?_ | with_reducible refine x_ifNF ?_ | with_reducible refine x_ifd (fun hc => ?_) (fun hc => ?_) | with_reducible refine x_ifn (fun hc => ?_) (fun hc => ?_) | with_reducible refine x_if (fun hc => ?_) (fun hc => ?_) | with_reducible refine s_skip ?_ | with_reducible refine s_expr ?_ | with_reducible refine e_mt ?_ | with_reducible refine b_div ?_ ?_ | with_reducible refine b_mod ?_ ?_ | with_reducible refine b_pow ?_ ?_ | with_reducible refine e_tup ?_ | with_reducible refine x_len (by simp only [List.length_cons, List.length_nil]; decide) ?_ | with_reducible refine e_neg ?_ | with_reducible refine x_int ?_ | with_reducible refine e_bl ?_ | with_reducible refine e_non ?_ | with_reducible refine e_str ?_ | with_reducible refine e_and ?_ | with_reducible refine e_or ?_ | with_reducible refine e_not ?_ | with_reducible refine e_truth ?_ | with_reducible refine x_bl ?_ | with_reducible refine t_bl ?_ | with_reducible refine t_int ?_ | with_reducible refine t_tup ?_ | with_reducible refine t_non ?_ | with_reducible refine e_ife ?_ | with_reducible refine e_isi ?_ | with_reducible refine f_abs ?_ | with_reducible refine f_int ?_ | with_reducible refine f_gcd ?_ | with_reducible refine f_max ?_ | with_reducible refine f_min ?_ | with_reducible refine f_tupT ?_ | with_reducible refine s_for ?_ | with_reducible refine w_rng ?_ | with_reducible refine x_rng ?_ ?_ | with_reducible refine w_it ?_ | with_reducible refine x_itT ?_ | with_reducible refine s_while ?_ | with_reducible refine e_lst ?_ | with_reducible refine e_cut ?_ | with_reducible refine e_absent ?_ | with_reducible refine e_asInt ?_ | with_reducible refine x_pI ?_ | with_reducible refine x_pN ?_ | with_reducible refine e_chain ?_ | with_reducible refine e_comp ?_ | with_reducible refine e_tcomp ?_ | with_reducible refine s_brk ?_ | with_reducible refine s_cont ?_ | ((with_reducible refine m_app (ds := ?_) ?_ ?_); rotate_left; (focus ((repeat (first | exact put_same | assumption | refine put_old ?_ (by assumption))); done))) | ((with_reducible refine m_app2 (ds := ?_) ?_ ?_ ?_); rotate_left; (focus ((repeat (first | exact put_same | assumption | refine put_old ?_ (by assumption))); done))) | ((with_reducible refine z_leniL (qs := ?_) ?_ ?_); rotate_left; first | exact Or.inl put_same | assumption | exact Or.inl (by assumption) | (refine Or.inl ?_; (focus ((repeat (first | exact put_same | assumption | refine put_old ?_ (by assumption))); done))) | exact listAt_put (by assumption) (by assumption) | exact listAt_sub (by assumption) (by assumption)) | ((with_reducible refine z_lenfL (qs := ?_) ?_ ?_); rotate_left; first | exact Or.inl put_same | assumption | exact Or.inl (by assumption) | (refine Or.inl ?_; (focus ((repeat (first | exact put_same | assumption | refine put_old ?_ (by assumption))); done))) | exact listAt_put (by assumption) (by assumption) | exact listAt_sub (by assumption) (by assumption)) | ((with_reducible refine f_lenL (ds := ?_) ?_ ?_); rotate_left; first | exact Or.inl put_same | assumption | exact Or.inl (by assumption) | (refine Or.inl ?_; (focus ((repeat (first | exact put_same | assumption | refine put_old ?_ (by assumption))); done))) | exact listAt_put (by assumption) (by assumption) | exact listAt_sub (by assumption) (by assumption)) | ((with_reducible refine i_iL (ns := ?_) ?_ ?_ ?_); rotate_left; first | exact Or.inl put_same | assumption | exact Or.inl (by assumption) | (refine Or.inl ?_; (focus ((repeat (first | exact put_same | assumption | refine put_old ?_ (by assumption))); done))) | exact listAt_put (by assumption) (by assumption) | exact listAt_sub (by assumption) (by assumption)) | ((with_reducible refine i_fL (ns := ?_) ?_ ?_ ?_); rotate_left; first | exact Or.inl put_same | assumption | exact Or.inl (by assumption) | (refine Or.inl ?_; (focus ((repeat (first | exact put_same | assumption | refine put_old ?_ (by assumption))); done))) | exact listAt_put (by assumption) (by assumption) | exact listAt_sub (by assumption) (by assumption)) | ((with_reducible refine f_tupL (ds := ?_) ?_ ?_); rotate_left; first | exact Or.inl put_same | assumption | exact Or.inl (by assumption) | (refine Or.inl ?_; (focus ((repeat (first | exact put_same | assumption | refine put_old ?_ (by assumption))); done))) | exact listAt_put (by assumption) (by assumption) | exact listAt_sub (by assumption) (by assumption)) | ((with_reducible refine x_itL (ds := ?_) ?_ ?_); rotate_left; first | exact Or.inl put_same | assumption | exact Or.inl (by assumption) | (refine Or.inl ?_; (focus ((repeat (first | exact put_same | assumption | refine put_old ?_ (by assumption))); done))) | exact listAt_put (by assumption) (by assumption) | exact listAt_sub (by assumption) (by assumption)) | with_reducible refine x_new (fun r nr => ?_) | ((with_reducible refine b_lst (ds := ?_) (es := ?_) ?_ ?_ ?_ ?_); rotate_left 2; (focus ((repeat (first | exact put_same | assumption | refine put_old ?_ (by assumption))); done)); (focus ((repeat (first | exact put_same | assumption | refine put_old ?_ (by assumption))); done))) | ((with_reducible refine b_rep (ds := ?_) ?_ ?_ ?_); rotate_left; (focus ((repeat (first | exact put_same | assumption | refine put_old ?_ (by assumption))); done))) | with_reducible refine f_lstT ?_ | with_reducible refine b_tup ?_ ?_ | with_reducible refine z_lenfT ?_ | with_reducible refine f_lenT ?_ | with_reducible refine i_fT ?_ ?_ | with_reducible refine z_isiI ?_ | with_reducible refine z_isiB ?_ | with_reducible refine z_isiF ?_ | with_reducible refine z_isiT ?_ | with_reducible refine z_lenF ?_)
      · omega
      · rename_i q nq
        revert nr
        revert r
        intro t nt
        have hPas : ∀ x y, Pas (put (put M' q x) t y) r0 m := fun x y => hP.sub (((Sub.refl M').put nq).put (put_none nt).1)
        have wlen : ((List.range ws.length).map (whI ws)).length = ws.length := by simp
        refine for_rng (fun s σ M2 => ∃ o4 o7 o8 o9 o10, σ = [some (.ref r0), some (.tup (fL ws)), some (.int ws.length), some (.int (lcD ws ws.length)), o4, some (.ref q), some (.ref t), o7, o8, o9, o10] ∧ M2 = put (put M' q (.lst (iL ((List.range ws.length).map (whI ws))))) t (.lst (fL ((List.range s).map (smC ws))))) ⟨_, _, _, _, _, rfl, rfl⟩ ?_ ?_
        · rintro s σ M2 hs2 ⟨o4, o7, o8, o9, o10, rfl, rfl⟩
          have hsN : s < ws.length := by omega
          have e0 : (0 : Int) + s = s := by omega
          rw [e0]
          repeat' (first | ((with_reducible refine e_var (d := ?_) ?_ ?_); rotate_left; exact rfl) | with_reducible refine e_cons ?_ | with_reducible refine x_tup ?_ | with_reducible refine e_nil ?_ | with_reducible refine e_int ?_ | with_reducible refine e_idx ?_ | with_reducible refine e_bin ?_ | with_reducible refine b_add ?_ | with_reducible refine b_sub ?_ | with_reducible refine b_mul ?_ ?_ | with_reducible refine i_fr0 ?_ | with_reducible refine i_fr1 ?_ | with_reducible refine e_call ?_ | with_reducible refine e_callK ?_ | with_reducible refine e_bi ?_ | with_reducible refine s_seq ?_ | with_reducible refine s_asg ?_ | with_reducible refine s_ret ?_ | with_reducible refine e_cmp ?_ | with_reducible refine c_eq ?_ | with_reducible refine c_ne ?_ | with_reducible refine c_lt ?_ | with_reducible refine c_le ?_ | with_reducible refine c_gt ?_ | with_reducible refine c_ge ?_ | with_reducible refine s_ife ?_ | with_reducible refine x_ifT ?_ | with_reducible refine x_ifF ?_ | with_reducible refine x_ifNT ?_ | with_reducible refine x_ifNF ?_ | with_reducible refine x_ifd (fun hc => ?_) (fun hc => ?_) | with_reducible refine x_ifn (fun hc => ?_) (fun hc => ?_) | with_reducible refine x_if (fun hc => ?_) (fun hc => ?_) | with_reducible refine s_skip ?_ | with_reducible refine s_expr ?_ | with_reducible refine e_mt ?_ | with_reducible refine b_div ?_ ?_ | with_reducible refine b_mod ?_ ?_ | with_reducible refine b_pow ?_ ?_ | with_reducible refine e_tup ?_ | with_reducible refine x_len (by simp only [List.length_cons, List.length_nil]; decide) ?_ | with_reducible refine e_neg ?_ | with_reducible refine x_int ?_ | with_reducible refine e_bl ?_ | with_reducible refine e_non ?_ | with_reducible refine e_str ?_ | with_reducible refine e_and ?_ | with_reducible refine e_or ?_ | with_reducible refine e_not ?_ | with_reducible refine e_truth ?_ | with_reducible refine x_bl ?_ | with_reducible refine t_bl ?_ | with_reducible refine t_int ?_ | with_reducible refine t_tup ?_ | with_reducible refine t_non ?_ | with_reducible refine e_ife ?_ | with_reducible refine e_isi ?_ | with_reducible refine f_abs ?_ | with_reducible refine f_int ?_ | with_reducible refine f_gcd ?_ | with_reducible refine f_max ?_ | with_reducible refine f_min ?_ | with_reducible refine f_tupT ?_ | with_reducible refine s_for ?_ | with_reducible refine w_rng ?_ | with_reducible refine x_rng ?_ ?_ | with_reducible refine w_it ?_ | with_reducible refine x_itT ?_ | with_reducible refine s_while ?_ | with_reducible refine e_lst ?_ | with_reducible refine e_cut ?_ | with_reducible refine e_absent ?_ | with_reducible refine e_asInt ?_ | with_reducible refine x_pI ?_ | with_reducible refine x_pN ?_ | with_reducible refine e_chain ?_ | with_reducible refine e_comp ?_ | with_reducible refine e_tcomp ?_ | with_reducible refine s_brk ?_ | with_reducible refine s_cont ?_ | ((with_reducible refine m_app (ds := ?_) ?_ ?_); rotate_left; (focus ((repeat (first | exact put_same | assumption | refine put_old ?_ (by assumption))); done))) | ((with_reducible refine m_app2 (ds := ?_) ?_ ?_ ?_); rotate_left; (focus ((repeat (first | exact put_same | assumption | refine put_old ?_ (by assumption))); done))) | ((with_reducible refine z_leniL (qs := ?_) ?_ ?_); rotate_left; first | exact Or.inl put_same | assumption | exact Or.inl (by assumption) | (refine Or.inl ?_; (focus ((repeat (first | exact put_same | assumption | refine put_old ?_ (by assumption))); done))) | exact listAt_put (by assumption) (by assumption) | exact listAt_sub (by assumption) (by assumption)) | ((with_reducible refine z_lenfL (qs := ?_) ?_ ?_); rotate_left; first | exact Or.inl put_same | assumption | exact Or.inl (by assumption) | (refine Or.inl ?_; (focus ((repeat (first | exact put_same | assumption | refine put_old ?_ (by assumption))); done))) | exact listAt_put (by assumption) (by assumption) | exact listAt_sub (by assumption) (by assumption)) | ((with_reducible refine f_lenL (ds := ?_) ?_ ?_); rotate_left; first | exact Or.inl put_same | assumption | exact Or.inl (by assumption) | (refine Or.inl ?_; (focus ((repeat (first | exact put_same | assumption | refine put_old ?_ (by assumption))); done))) | exact listAt_put (by assumption) (by assumption) | exact listAt_sub (by assumption) (by assumption)) | ((with_reducible refine i_iL (ns := ?_) ?_ ?_ ?_); rotate_left; first | exact Or.inl put_same | assumption | exact Or.inl (by assumption) | (refine Or.inl ?_; (focus ((repeat (first | exact put_same | assumption | refine put_old ?_ (by assumption))); done))) | exact listAt_put (by assumption) (by assumption) | exact listAt_sub (by assumption) (by assumption)) | ((with_reducible refine i_fL (ns := ?_) ?_ ?_ ?_); rotate_left; first | exact Or.inl put_same | assumption | exact Or.inl (by assumption) | (refine Or.inl ?_; (focus ((repeat (first | exact put_same | assumption | refine put_old ?_ (by assumption))); done))) | exact listAt_put (by assumption) (by assumption) | exact listAt_sub (by assumption) (by assumption)) | ((with_reducible refine f_tupL (ds := ?_) ?_ ?_); rotate_left; first | exact Or.inl put_same | assumption | exact Or.inl (by assumption) | (refine Or.inl ?_; (focus ((repeat (first | exact put_same | assumption | refine put_old ?_ (by assumption))); done))) | exact listAt_put (by assumption) (by assumption) | exact listAt_sub (by assumption) (by assumption)) | ((with_reducible refine x_itL (ds := ?_) ?_ ?_); rotate_left; first | exact Or.inl put_same | assumption | exact Or.inl (by assumption) | (refine Or.inl ?_; (focus ((repeat (first | exact put_same | assumption | refine put_old ?_ (by assumption))); done))) | exact listAt_put (by assumption) (by assumption) | exact listAt_sub (by assumption) (by assumption)) | with_reducible refine x_new (fun r nr => ?_) | ((with_reducible refine b_lst (ds := ?_) (es := ?_) ?_ ?_ ?_ ?_); rotate_left 2; (focus ((repeat (first | exact put_same | assumption | refine put_old ?_ (by assumption))); done)); (focus ((repeat (first | exact put_same | assumption | refine put_old ?_ (by assumption))); done))) | ((with_reducible refine b_rep (ds := ?_) ?_ ?_ ?_); rotate_left; (focus ((repeat (first | exact put_same | assumption | refine put_old ?_ (by assumption))); done))) | with_reducible refine f_lstT ?_ | with_reducible refine b_tup ?_ ?_ | with_reducible refine z_lenfT ?_ | with_reducible refine f_lenT ?_ | with_reducible refine i_fT ?_ ?_ | with_reducible refine z_isiI ?_ | with_reducible refine z_isiB ?_ | with_reducible refine z_isiF ?_ | with_reducible refine z_isiT ?_ | with_reducible refine z_lenF ?_)
          · decide
          · refine Bd.mulOk (n := 2) (m := 2) (by decide) (Bd.of_lt (Int.fmod_nonneg_of_pos _ (by decide)) (by have := Int.fmod_lt_of_pos (s : Int) (b := 2) (by decide); omega)) (by decide)
          · omega
          · rw [sgI_mod]
            refine for_rng (fun k σ M2 => ∃ o10, σ = [some (.ref r0), some (.tup (fL ws)), some (.int ws.length), some (.int (lcD ws ws.length)), o4, some (.ref q), some (.ref t), some (.int s), some (.int (valI ws s k)), some (.int (sgI (s + k))), o10] ∧ M2 = put (put M' q (.lst (iL ((List.range ws.length).map (whI ws))))) t (.lst (fL ((List.range s).map (smC ws))))) ⟨_, rfl, rfl⟩ ?_ ?_
            · rintro k σ M2 hk ⟨o10, rfl, rfl⟩
              have hks : k ≤ s := by omega
              have e0 : (0 : Int) + k = k := by omega
              rw [e0]
              have g1 : ((List.range ws.length).map (whI ws)).getD k 0 = whI ws k := by
                rw [List.getD_eq_getElem?_getD, List.getElem?_eq_getElem (by simp; omega)]; simp
              have t1 : ((ws.length : Int) - 1).toNat = ws.length - 1 := by omega
              have t2 : ((ws.length : Int) - 1 - k).toNat = ws.length - 1 - k := by omega
              have t3 : ((s : Int) - k).toNat = s - k := by omega
              have bw := whI_bd hs (show k < ws.length by omega)
              have c1 : Bd 1000 (ch (ws.length - 1) k : Int) := sz_ch (by omega)
              have c2 : Bd 1000 (ch (ws.length - 1 - k) (s - k) : Int) := sz_ch (by omega)
              repeat' (first | with_reducible refine i_Pas (hPas _ _) ?_ (fun u lu => ?_) | ((with_reducible refine e_var (d := ?_) ?_ ?_); rotate_left; exact rfl) | with_reducible refine e_cons ?_ | with_reducible refine x_tup ?_ | with_reducible refine e_nil ?_ | with_reducible refine e_int ?_ | with_reducible refine e_idx ?_ | with_reducible refine e_bin ?_ | with_reducible refine b_add ?_ | with_reducible refine b_sub ?_ | with_reducible refine b_mul ?_ ?_ | with_reducible refine i_fr0 ?_ | with_reducible refine i_fr1 ?_ | with_reducible refine e_call ?_ | with_reducible refine e_callK ?_ | with_reducible refine e_bi ?_ | with_reducible refine s_seq ?_ | with_reducible refine s_asg ?_ | with_reducible refine s_ret ?_ | with_reducible refine e_cmp ?_ | with_reducible refine c_eq ?_ | with_reducible refine c_ne ?_ | with_reducible refine c_lt ?_ | with_reducible refine c_le ?_ | with_reducible refine c_gt ?_ | with_reducible refine c_ge ?_ | with_reducible refine s_ife ?_ | with_reducible refine x_ifT ?_ | with_reducible refine x_ifF ?_ | with_reducible refine x_ifNT ?_ | with_reducible refine x_ifNF ?_ | with_reducible refine x_ifd (fun hc => ?_) (fun hc => ?_) | with_reducible refine x_ifn (fun hc => ?_) (fun hc => ?_) | with_reducible refine x_if (fun hc => ?_) (fun hc => ?_) | with_reducible refine s_skip ?_ | with_reducible refine s_expr ?_ | with_reducible refine e_mt ?_ | with_reducible refine b_div ?_ ?_ | with_reducible refine b_mod ?_ ?_ | with_reducible refine b_pow ?_ ?_ | with_reducible refine e_tup ?_ | with_reducible refine x_len (by simp only [List.length_cons, List.length_nil]; decide) ?_ | with_reducible refine e_neg ?_ | with_reducible refine x_int ?_ | with_reducible refine e_bl ?_ | with_reducible refine e_non ?_ | with_reducible refine e_str ?_ | with_reducible refine e_and ?_ | with_reducible refine e_or ?_ | with_reducible refine e_not ?_ | with_reducible refine e_truth ?_ | with_reducible refine x_bl ?_ | with_reducible refine t_bl ?_ | with_reducible refine t_int ?_ | with_reducible refine t_tup ?_ | with_reducible refine t_non ?_ | with_reducible refine e_ife ?_ | with_reducible refine e_isi ?_ | with_reducible refine f_abs ?_ | with_reducible refine f_int ?_ | with_reducible refine f_gcd ?_ | with_reducible refine f_max ?_ | with_reducible refine f_min ?_ | with_reducible refine f_tupT ?_ | with_reducible refine s_for ?_ | with_reducible refine w_rng ?_ | with_reducible refine x_rng ?_ ?_ | with_reducible refine w_it ?_ | with_reducible refine x_itT ?_ | with_reducible refine s_while ?_ | with_reducible refine e_lst ?_ | with_reducible refine e_cut ?_ | with_reducible refine e_absent ?_ | with_reducible refine e_asInt ?_ | with_reducible refine x_pI ?_ | with_reducible refine x_pN ?_ | with_reducible refine e_chain ?_ | with_reducible refine e_comp ?_ | with_reducible refine e_tcomp ?_ | with_reducible refine s_brk ?_ | with_reducible refine s_cont ?_ | ((with_reducible refine m_app (ds := ?_) ?_ ?_); rotate_left; (focus ((repeat (first | exact put_same | assumption | refine put_old ?_ (by assumption))); done))) | ((with_reducible refine m_app2 (ds := ?_) ?_ ?_ ?_); rotate_left; (focus ((repeat (first | exact put_same | assumption | refine put_old ?_ (by assumption))); done))) | ((with_reducible refine z_leniL (qs := ?_) ?_ ?_); rotate_left; first | exact Or.inl put_same | assumption | exact Or.inl (by assumption) | (refine Or.inl ?_; (focus ((repeat (first | exact put_same | assumption | refine put_old ?_ (by assumption))); done))) | exact listAt_put (by assumption) (by assumption) | exact listAt_sub (by assumption) (by assumption)) | ((with_reducible refine z_lenfL (qs := ?_) ?_ ?_); rotate_left; first | exact Or.inl put_same | assumption | exact Or.inl (by assumption) | (refine Or.inl ?_; (focus ((repeat (first | exact put_same | assumption | refine put_old ?_ (by assumption))); done))) | exact listAt_put (by assumption) (by assumption) | exact listAt_sub (by assumption) (by assumption)) | ((with_reducible refine f_lenL (ds := ?_) ?_ ?_); rotate_left; first | exact Or.inl put_same | assumption | exact Or.inl (by assumption) | (refine Or.inl ?_; (focus ((repeat (first | exact put_same | assumption | refine put_old ?_ (by assumption))); done))) | exact listAt_put (by assumption) (by assumption) | exact listAt_sub (by assumption) (by assumption)) | ((with_reducible refine i_iL (ns := ?_) ?_ ?_ ?_); rotate_left; first | exact Or.inl put_same | assumption | exact Or.inl (by assumption) | (refine Or.inl ?_; (focus ((repeat (first | exact put_same | assumption | refine put_old ?_ (by assumption))); done))) | exact listAt_put (by assumption) (by assumption) | exact listAt_sub (by assumption) (by assumption)) | ((with_reducible refine i_fL (ns := ?_) ?_ ?_ ?_); rotate_left; first | exact Or.inl put_same | assumption | exact Or.inl (by assumption) | (refine Or.inl ?_; (focus ((repeat (first | exact put_same | assumption | refine put_old ?_ (by assumption))); done))) | exact listAt_put (by assumption) (by assumption) | exact listAt_sub (by assumption) (by assumption)) | ((with_reducible refine f_tupL (ds := ?_) ?_ ?_); rotate_left; first | exact Or.inl put_same | assumption | exact Or.inl (by assumption) | (refine Or.inl ?_; (focus ((repeat (first | exact put_same | assumption | refine put_old ?_ (by assumption))); done))) | exact listAt_put (by assumption) (by assumption) | exact listAt_sub (by assumption) (by assumption)) | ((with_reducible refine x_itL (ds := ?_) ?_ ?_); rotate_left; first | exact Or.inl put_same | assumption | exact Or.inl (by assumption) | (refine Or.inl ?_; (focus ((repeat (first | exact put_same | assumption | refine put_old ?_ (by assumption))); done))) | exact listAt_put (by assumption) (by assumption) | exact listAt_sub (by assumption) (by assumption)) | with_reducible refine x_new (fun r nr => ?_) | ((with_reducible refine b_lst (ds := ?_) (es := ?_) ?_ ?_ ?_ ?_); rotate_left 2; (focus ((repeat (first | exact put_same | assumption | refine put_old ?_ (by assumption))); done)); (focus ((repeat (first | exact put_same | assumption | refine put_old ?_ (by assumption))); done))) | ((with_reducible refine b_rep (ds := ?_) ?_ ?_ ?_); rotate_left; (focus ((repeat (first | exact put_same | assumption | refine put_old ?_ (by assumption))); done))) | with_reducible refine f_lstT ?_ | with_reducible refine b_tup ?_ ?_ | with_reducible refine z_lenfT ?_ | with_reducible refine f_lenT ?_ | with_reducible refine i_fT ?_ ?_ | with_reducible refine z_isiI ?_ | with_reducible refine z_isiB ?_ | with_reducible refine z_isiF ?_ | with_reducible refine z_isiT ?_ | with_reducible refine z_lenF ?_)
              · rw [wlen]; omega
              · rw [Int.toNat_natCast, g1]
                exact (sgI_bd _).mulOk bw (by omega)
              · omega
              · rw [t1, pasc_len]; omega
              · rw [Int.toNat_natCast, g1, t1, pasc_getD (by omega)]
                exact ((sgI_bd _).mul bw).mulOk c1 (by omega)
              · omega
              · rw [t2, pasc_len]; omega
              · rw [Int.toNat_natCast, g1, t1, pasc_getD (by omega), t2, t3, pasc_getD (by omega)]
                exact (((sgI_bd _).mul bw).mul c1).mulOk c2 (by omega)
              · rw [Int.toNat_natCast, g1, t1, pasc_getD (by omega), t2, t3, pasc_getD (by omega), ← valI_succ]
                have : sgI (s + (k + 1)) = - sgI (s + k) := sgI_succ (s + k)
                rw [this]
                exact ⟨_, Sub.refl _, _, rfl, rfl⟩
            · rintro σ M2 ⟨o10, rfl, rfl⟩
              have e1 : ((s : Int) + 1 - 0).toNat = s + 1 := by omega
              rw [e1]
              have bv : Bd (s + 1 + (2001 + (L + (ws.length * L + 1)))) (valI ws s (s + 1)) := by
                refine sumI_bd fun k hk => ?_
                have bw := whI_bd hs (show k < ws.length by omega)
                have c1 : Bd 1000 (ch (ws.length - 1) k : Int) := sz_ch (by omega)
                have c2 : Bd 1000 (ch (ws.length - 1 - k) (s - k) : Int) := sz_ch (by omega)
                exact (((((sgI_bd _).mul bw).mul c1).mul c2)).mono (by omega)
              have key := smC_of hsN
              repeat' (first | with_reducible refine c__law_ratio h1 ?_ ?_ | ((with_reducible refine e_var (d := ?_) ?_ ?_); rotate_left; exact rfl) | with_reducible refine e_cons ?_ | with_reducible refine x_tup ?_ | with_reducible refine e_nil ?_ | with_reducible refine e_int ?_ | with_reducible refine e_idx ?_ | with_reducible refine e_bin ?_ | with_reducible refine b_add ?_ | with_reducible refine b_sub ?_ | with_reducible refine b_mul ?_ ?_ | with_reducible refine i_fr0 ?_ | with_reducible refine i_fr1 ?_ | with_reducible refine e_call ?_ | with_reducible refine e_callK ?_ | with_reducible refine e_bi ?_ | with_reducible refine s_seq ?_ | with_reducible refine s_asg ?_ | with_reducible refine s_ret ?_ | with_reducible refine e_cmp ?_ | with_reducible refine c_eq ?_ | with_reducible refine c_ne ?_ | with_reducible refine c_lt ?_ | with_reducible refine c_le ?_ | with_reducible refine c_gt ?_ | with_reducible refine c_ge ?_ | with_reducible refine s_ife ?_ | with_reducible refine x_ifT ?_ | with_reducible refine x_ifF ?_ | with_reducible refine x_ifNT ?_ | with_reducible refine x_ifNF ?_ | with_reducible refine x_ifd (fun hc => ?_) (fun hc => ?_) | with_reducible refine x_ifn (fun hc => ?_) (fun hc => ?_) | with_reducible refine x_if (fun hc => ?_) (fun hc => ?_) | with_reducible refine s_skip ?_ | with_reducible refine s_expr ?_ | with_reducible refine e_mt ?_ | with_reducible refine b_div ?_ ?_ | with_reducible refine b_mod ?_ ?_ | with_reducible refine b_pow ?_ ?_ | with_reducible refine e_tup ?_ | with_reducible refine x_len (by simp only [List.length_cons, List.length_nil]; decide) ?_ | with_reducible refine e_neg ?_ | with_reducible refine x_int ?_ | with_reducible refine e_bl ?_ | with_reducible refine e_non ?_ | with_reducible refine e_str ?_ | with_reducible refine e_and ?_ | with_reducible refine e_or ?_ | with_reducible refine e_not ?_ | with_reducible refine e_truth ?_ | with_reducible refine x_bl ?_ | with_reducible refine t_bl ?_ | with_reducible refine t_int ?_ | with_reducible refine t_tup ?_ | with_reducible refine t_non ?_ | with_reducible refine e_ife ?_ | with_reducible refine e_isi ?_ | with_reducible refine f_abs ?_ | with_reducible refine f_int ?_ | with_reducible refine f_gcd ?_ | with_reducible refine f_max ?_ | with_reducible refine f_min ?_ | with_reducible refine f_tupT ?_ | with_reducible refine s_for ?_ | with_reducible refine w_rng ?_ | with_reducible refine x_rng ?_ ?_ | with_reducible refine w_it ?_ | with_reducible refine x_itT ?_ | with_reducible refine s_while ?_ | with_reducible refine e_lst ?_ | with_reducible refine e_cut ?_ | with_reducible refine e_absent ?_ | with_reducible refine e_asInt ?_ | with_reducible refine x_pI ?_ | with_reducible refine x_pN ?_ | with_reducible refine e_chain ?_ | with_reducible refine e_comp ?_ | with_reducible refine e_tcomp ?_ | with_reducible refine s_brk ?_ | with_reducible refine s_cont ?_ | ((with_reducible refine m_app (ds := ?_) ?_ ?_); rotate_left; (focus ((repeat (first | exact put_same | assumption | refine put_old ?_ (by assumption))); done))) | ((with_reducible refine m_app2 (ds := ?_) ?_ ?_ ?_); rotate_left; (focus ((repeat (first | exact put_same | assumption | refine put_old ?_ (by assumption))); done))) | ((with_reducible refine z_leniL (qs := ?_) ?_ ?_); rotate_left; first | exact Or.inl put_same | assumption | exact Or.inl (by assumption) | (refine Or.inl ?_; (focus ((repeat (first | exact put_same | assumption | refine put_old ?_ (by assumption))); done))) | exact listAt_put (by assumption) (by assumption) | exact listAt_sub (by assumption) (by assumption)) | ((with_reducible refine z_lenfL (qs := ?_) ?_ ?_); rotate_left; first | exact Or.inl put_same | assumption | exact Or.inl (by assumption) | (refine Or.inl ?_; (focus ((repeat (first | exact put_same | assumption | refine put_old ?_ (by assumption))); done))) | exact listAt_put (by assumption) (by assumption) | exact listAt_sub (by assumption) (by assumption)) | ((with_reducible refine f_lenL (ds := ?_) ?_ ?_); rotate_left; first | exact Or.inl put_same | assumption | exact Or.inl (by assumption) | (refine Or.inl ?_; (focus ((repeat (first | exact put_same | assumption | refine put_old ?_ (by assumption))); done))) | exact listAt_put (by assumption) (by assumption) | exact listAt_sub (by assumption) (by assumption)) | ((with_reducible refine i_iL (ns := ?_) ?_ ?_ ?_); rotate_left; first | exact Or.inl put_same | assumption | exact Or.inl (by assumption) | (refine Or.inl ?_; (focus ((repeat (first | exact put_same | assumption | refine put_old ?_ (by assumption))); done))) | exact listAt_put (by assumption) (by assumption) | exact listAt_sub (by assumption) (by assumption)) | ((with_reducible refine i_fL (ns := ?_) ?_ ?_ ?_); rotate_left; first | exact Or.inl put_same | assumption | exact Or.inl (by assumption) | (refine Or.inl ?_; (focus ((repeat (first | exact put_same | assumption | refine put_old ?_ (by assumption))); done))) | exact listAt_put (by assumption) (by assumption) | exact listAt_sub (by assumption) (by assumption)) | ((with_reducible refine f_tupL (ds := ?_) ?_ ?_); rotate_left; first | exact Or.inl put_same | assumption | exact Or.inl (by assumption) | (refine Or.inl ?_; (focus ((repeat (first | exact put_same | assumption | refine put_old ?_ (by assumption))); done))) | exact listAt_put (by assumption) (by assumption) | exact listAt_sub (by assumption) (by assumption)) | ((with_reducible refine x_itL (ds := ?_) ?_ ?_); rotate_left; first | exact Or.inl put_same | assumption | exact Or.inl (by assumption) | (refine Or.inl ?_; (focus ((repeat (first | exact put_same | assumption | refine put_old ?_ (by assumption))); done))) | exact listAt_put (by assumption) (by assumption) | exact listAt_sub (by assumption) (by assumption)) | with_reducible refine x_new (fun r nr => ?_) | ((with_reducible refine b_lst (ds := ?_) (es := ?_) ?_ ?_ ?_ ?_); rotate_left 2; (focus ((repeat (first | exact put_same | assumption | refine put_old ?_ (by assumption))); done)); (focus ((repeat (first | exact put_same | assumption | refine put_old ?_ (by assumption))); done))) | ((with_reducible refine b_rep (ds := ?_) ?_ ?_ ?_); rotate_left; (focus ((repeat (first | exact put_same | assumption | refine put_old ?_ (by assumption))); done))) | with_reducible refine f_lstT ?_ | with_reducible refine b_tup ?_ ?_ | with_reducible refine z_lenfT ?_ | with_reducible refine f_lenT ?_ | with_reducible refine i_fT ?_ ?_ | with_reducible refine z_isiI ?_ | with_reducible refine z_isiB ?_ | with_reducible refine z_isiF ?_ | with_reducible refine z_isiT ?_ | with_reducible refine z_lenF ?_)
              · exact Bd.mulOk (n := 10) (Bd.of_lt (by omega) (by omega)) bv (by omega)
              · omega
              · rw [fL_len]; simp
                exact big_line (by omega)
              · rw [put_put, key, fL_snoc, map_take_snoc]
                exact ⟨_, Sub.refl _, _, _, _, _, _, rfl, rfl⟩
        · rintro σ M2 ⟨o4, o7, o8, o9, o10, rfl, rfl⟩
          have e1 : ((ws.length : Int) - 0).toNat = ws.length := by omega
          rw [e1]
          have hSq : Sq (put (put M' q (.lst (iL ((List.range ws.length).map (whI ws))))) t (.lst (fL ((List.range ws.length).map (smC ws))))) (.ref t) ((List.range ws.length).map (smC ws)) := .inr ⟨t, rfl, .inl put_same⟩
          repeat' (first | with_reducible refine c__law_trim h2 hSq ?_ ?_ | ((with_reducible refine e_var (d := ?_) ?_ ?_); rotate_left; exact rfl) | with_reducible refine e_cons ?_ | with_reducible refine x_tup ?_ | with_reducible refine e_nil ?_ | with_reducible refine e_int ?_ | with_reducible refine e_idx ?_ | with_reducible refine e_bin ?_ | with_reducible refine b_add ?_ | with_reducible refine b_sub ?_ | with_reducible refine b_mul ?_ ?_ | with_reducible refine i_fr0 ?_ | with_reducible refine i_fr1 ?_ | with_reducible refine e_call ?_ | with_reducible refine e_callK ?_ | with_reducible refine e_bi ?_ | with_reducible refine s_seq ?_ | with_reducible refine s_asg ?_ | with_reducible refine s_ret ?_ | with_reducible refine e_cmp ?_ | with_reducible refine c_eq ?_ | with_reducible refine c_ne ?_ | with_reducible refine c_lt ?_ | with_reducible refine c_le ?_ | with_reducible refine c_gt ?_ | with_reducible refine c_ge ?_ | with_reducible refine s_ife ?_ | with_reducible refine x_ifT ?_ | with_reducible refine x_ifF ?_ | with_reducible refine x_ifNT ?_ | with_reducible refine x_ifNF ?_ | with_reducible refine x_ifd (fun hc => ?_) (fun hc => ?_) | with_reducible refine x_ifn (fun hc => ?_) (fun hc => ?_) | with_reducible refine x_if (fun hc => ?_) (fun hc => ?_) | with_reducible refine s_skip ?_ | with_reducible refine s_expr ?_ | with_reducible refine e_mt ?_ | with_reducible refine b_div ?_ ?_ | with_reducible refine b_mod ?_ ?_ | with_reducible refine b_pow ?_ ?_ | with_reducible refine e_tup ?_ | with_reducible refine x_len (by simp only [List.length_cons, List.length_nil]; decide) ?_ | with_reducible refine e_neg ?_ | with_reducible refine x_int ?_ | with_reducible refine e_bl ?_ | with_reducible refine e_non ?_ | with_reducible refine e_str ?_ | with_reducible refine e_and ?_ | with_reducible refine e_or ?_ | with_reducible refine e_not ?_ | with_reducible refine e_truth ?_ | with_reducible refine x_bl ?_ | with_reducible refine t_bl ?_ | with_reducible refine t_int ?_ | with_reducible refine t_tup ?_ | with_reducible refine t_non ?_ | with_reducible refine e_ife ?_ | with_reducible refine e_isi ?_ | with_reducible refine f_abs ?_ | with_reducible refine f_int ?_ | with_reducible refine f_gcd ?_ | with_reducible refine f_max ?_ | with_reducible refine f_min ?_ | with_reducible refine f_tupT ?_ | with_reducible refine s_for ?_ | with_reducible refine w_rng ?_ | with_reducible refine x_rng ?_ ?_ | with_reducible refine w_it ?_ | with_reducible refine x_itT ?_ | with_reducible refine s_while ?_ | with_reducible refine e_lst ?_ | with_reducible refine e_cut ?_ | with_reducible refine e_absent ?_ | with_reducible refine e_asInt ?_ | with_reducible refine x_pI ?_ | with_reducible refine x_pN ?_ | with_reducible refine e_chain ?_ | with_reducible refine e_comp ?_ | with_reducible refine e_tcomp ?_ | with_reducible refine s_brk ?_ | with_reducible refine s_cont ?_ | ((with_reducible refine m_app (ds := ?_) ?_ ?_); rotate_left; (focus ((repeat (first | exact put_same | assumption | refine put_old ?_ (by assumption))); done))) | ((with_reducible refine m_app2 (ds := ?_) ?_ ?_ ?_); rotate_left; (focus ((repeat (first | exact put_same | assumption | refine put_old ?_ (by assumption))); done))) | ((with_reducible refine z_leniL (qs := ?_) ?_ ?_); rotate_left; first | exact Or.inl put_same | assumption | exact Or.inl (by assumption) | (refine Or.inl ?_; (focus ((repeat (first | exact put_same | assumption | refine put_old ?_ (by assumption))); done))) | exact listAt_put (by assumption) (by assumption) | exact listAt_sub (by assumption) (by assumption)) | ((with_reducible refine z_lenfL (qs := ?_) ?_ ?_); rotate_left; first | exact Or.inl put_same | assumption | exact Or.inl (by assumption) | (refine Or.inl ?_; (focus ((repeat (first | exact put_same | assumption | refine put_old ?_ (by assumption))); done))) | exact listAt_put (by assumption) (by assumption) | exact listAt_sub (by assumption) (by assumption)) | ((with_reducible refine f_lenL (ds := ?_) ?_ ?_); rotate_left; first | exact Or.inl put_same | assumption | exact Or.inl (by assumption) | (refine Or.inl ?_; (focus ((repeat (first | exact put_same | assumption | refine put_old ?_ (by assumption))); done))) | exact listAt_put (by assumption) (by assumption) | exact listAt_sub (by assumption) (by assumption)) | ((with_reducible refine i_iL (ns := ?_) ?_ ?_ ?_); rotate_left; first | exact Or.inl put_same | assumption | exact Or.inl (by assumption) | (refine Or.inl ?_; (focus ((repeat (first | exact put_same | assumption | refine put_old ?_ (by assumption))); done))) | exact listAt_put (by assumption) (by assumption) | exact listAt_sub (by assumption) (by assumption)) | ((with_reducible refine i_fL (ns := ?_) ?_ ?_ ?_); rotate_left; first | exact Or.inl put_same | assumption | exact Or.inl (by assumption) | (refine Or.inl ?_; (focus ((repeat (first | exact put_same | assumption | refine put_old ?_ (by assumption))); done))) | exact listAt_put (by assumption) (by assumption) | exact listAt_sub (by assumption) (by assumption)) | ((with_reducible refine f_tupL (ds := ?_) ?_ ?_); rotate_left; first | exact Or.inl put_same | assumption | exact Or.inl (by assumption) | (refine Or.inl ?_; (focus ((repeat (first | exact put_same | assumption | refine put_old ?_ (by assumption))); done))) | exact listAt_put (by assumption) (by assumption) | exact listAt_sub (by assumption) (by assumption)) | ((with_reducible refine x_itL (ds := ?_) ?_ ?_); rotate_left; first | exact Or.inl put_same | assumption | exact Or.inl (by assumption) | (refine Or.inl ?_; (focus ((repeat (first | exact put_same | assumption | refine put_old ?_ (by assumption))); done))) | exact listAt_put (by assumption) (by assumption) | exact listAt_sub (by assumption) (by assumption)) | with_reducible refine x_new (fun r nr => ?_) | ((with_reducible refine b_lst (ds := ?_) (es := ?_) ?_ ?_ ?_ ?_); rotate_left 2; (focus ((repeat (first | exact put_same | assumption | refine put_old ?_ (by assumption))); done)); (focus ((repeat (first | exact put_same | assumption | refine put_old ?_ (by assumption))); done))) | ((with_reducible refine b_rep (ds := ?_) ?_ ?_ ?_); rotate_left; (focus ((repeat (first | exact put_same | assumption | refine put_old ?_ (by assumption))); done))) | with_reducible refine f_lstT ?_ | with_reducible refine b_tup ?_ ?_ | with_reducible refine z_lenfT ?_ | with_reducible refine f_lenT ?_ | with_reducible refine i_fT ?_ ?_ | with_reducible refine z_isiI ?_ | with_reducible refine z_isiB ?_ | with_reducible refine z_isiF ?_ | with_reducible refine z_isiT ?_ | with_reducible refine z_lenF ?_)
          · simp; omega
          · exact ⟨M', ((Sub.refl M').put nq).put (put_none nt).1, h⟩
theorem c__law_summed {r : Addr} {m L : Nat} {ws : List Rat} (hG : G "_law_summed" = sp__law_summed) (hP : Pas M r m) (hm : ws.length ≤ m + 1) (hN : ws.length ≤ 1000) (hL : (ws.length + 1) * L ≤ 50000000) (hs : ∀ w ∈ ws, Sz L w) (h : Q (.tup (fL (trimQ (sm ws)))) M) : G "_law_summed" [.ref r, .tup (fL ws)] M Q := by
  rw [hG]; exact ⟨r, m, ws, L, rfl, hP, hm, hN, hL, hs, h⟩
end
end Pd

set_option maxHeartbeats 4000000
namespace Pd
open PySem
theorem map_getD {n : Nat} {f : Nat → Rat} {i : Nat} : ((List.range n).map f).getD i 0 = if i < n then f i else 0 := by
  by_cases h : i < n
  · rw [if_pos h, List.getD_eq_getElem?_getD, List.getElem?_eq_getElem (by simpa using h)]; simp
  · rw [if_neg h, getD_out (by simp; omega)]
theorem natR_ne {n : Nat} (h : n ≠ 0) : (n : Rat) ≠ 0 := fun e => h (Rat.natCast_eq_zero_iff.mp e)
theorem natR_succ (n : Nat) : ((n + 1 : Nat) : Rat) = (n : Rat) + 1 := by simp
theorem smC_ties {ps : List Rat} {n s : Nat} (hl : ps.length ≤ n + 1) (hs : s ≤ n) : smC (ties ps n) s = ps.getD s 0 := by
  unfold smC
  rw [ties_len, Nat.add_sub_cancel]
  have hN : ((n + 1 : Nat) : Rat) ≠ 0 := natR_ne (by omega)
  have hc := cR_ne hs
  rw [← sumTo_mul]
  have e1 : sumTo (fun k => ((n + 1 : Nat) : Rat) * (sg (s + k) * (ties ps n).getD k 0 * cR n k * cR (n - k) (s - k))) (s + 1) =
      sumTo (fun k => sumTo (fun i => sg (s + k) * cR s k * cR k i * (ps.getD i 0 * (cR n s / cR n i))) (n + 1)) (s + 1) := by
    refine sumTo_congr fun k hk => ?_
    have h1 : (ties ps n).getD k 0 = tie ps n k := by unfold ties; rw [map_getD, if_pos (by omega)]
    have h2 := cR_mul n s k (by omega) hs
    have h3 : sumTo (fun i => ps.getD i 0 * (cR k i / cR n i)) (min (k + 1) ps.length) = sumTo (fun i => ps.getD i 0 * (cR k i / cR n i)) (n + 1) := by
      refine (sumTo_more (by omega) fun i h1 h2 => ?_).symm
      by_cases q : i < ps.length
      · rw [cR_out (show k < i by omega), Rat.div_def, Rat.zero_mul, Rat.mul_zero]
      · rw [getD_out (by omega), Rat.zero_mul]
    have h4 : sumTo (fun i => sg (s + k) * cR s k * cR k i * (ps.getD i 0 * (cR n s / cR n i))) (n + 1) = sg (s + k) * cR s k * cR n s * sumTo (fun i => ps.getD i 0 * (cR k i / cR n i)) (n + 1) := by
      rw [← sumTo_mul]
      refine sumTo_congr fun i _ => ?_
      rw [Rat.div_def, Rat.div_def]; grind
    rw [h1, h4]
    unfold tie
    rw [h3]
    generalize sumTo (fun i => ps.getD i 0 * (cR k i / cR n i)) (n + 1) = T
    have h5 : ((n + 1 : Nat) : Rat) * (T / ((n + 1 : Nat) : Rat)) = T := by rw [Rat.mul_comm]; exact Rat.div_mul_cancel hN
    generalize T / ((n + 1 : Nat) : Rat) = U at h5
    have h6 : ((n + 1 : Nat) : Rat) * (sg (s + k) * U * cR n k * cR (n - k) (s - k)) = sg (s + k) * (((n + 1 : Nat) : Rat) * U) * (cR n k * cR (n - k) (s - k)) := by grind
    rw [h6, h5, h2]; grind
  rw [e1, sumTo_swap]
  rw [sumTo_one (j := s) (by omega)]
  · have h7 : sumTo (fun i => sg (s + i) * cR s i * cR i s * (ps.getD s 0 * (cR n s / cR n s))) (s + 1) = alt s s * (ps.getD s 0 * (cR n s / cR n s)) := sumTo_mulR _ _ _
    rw [h7, alt_eq, if_pos rfl]
    have : cR n s / cR n s = 1 := by rw [Rat.div_def]; exact Rat.mul_inv_cancel _ hc
    rw [this]; grind
  · intro i hi hne
    have h7 : sumTo (fun k => sg (s + k) * cR s k * cR k i * (ps.getD i 0 * (cR n s / cR n i))) (s + 1) = alt s i * (ps.getD i 0 * (cR n s / cR n i)) := sumTo_mulR _ _ _
    rw [h7, alt_eq, if_neg (fun e => hne e.symm), Rat.zero_mul]
theorem summed_ties {ps : List Rat} {n : Nat} (hl : ps.length ≤ n + 1) (ht : Trim ps) : trimQ (sm (ties ps n)) = ps := by
  refine (trimQ_trim _).ext ht fun j => ?_
  rw [trimQ_getD]
  unfold sm
  rw [map_getD, ties_len]
  split
  · exact smC_ties hl (by omega)
  · exact (getD_out (by omega)).symm
theorem cR_abs (n k : Nat) : cR (n + 1) (k + 1) * ((k : Rat) + 1) = cR n k * ((n : Rat) + 1) := by
  have := cR_step n k
  rw [cR_succ]; grind
theorem cR_abs2 (n k : Nat) : cR (n + 1) k * ((n : Rat) + 1 - k) = cR n k * ((n : Rat) + 1) := by
  have h1 := cR_step (n + 1) k
  have h2 := cR_abs n k
  rw [natR_succ] at h1; grind
/-- degree raised -/
def rsC (ws : List Rat) (k : Nat) : Rat := (if 0 < k then ws.getD (k - 1) 0 * ((k : Rat) / ((ws.length + 1 : Nat) : Rat)) else 0) + (if k < ws.length then ws.getD k 0 * (((ws.length - k : Nat) : Rat) / ((ws.length + 1 : Nat) : Rat)) else 0)
def rs (ws : List Rat) : List Rat := (List.range (ws.length + 1)).map (rsC ws)
theorem rs_len (ws : List Rat) : (rs ws).length = ws.length + 1 := by unfold rs; simp
/-- one item's part -/
def wt (ws : List Rat) (n k : Nat) : Rat := ((n : Rat) + 1) * ws.getD k 0 * cR n k
theorem rsC_eq {ws : List Rat} {n k : Nat} (hn : ws.length = n + 1) (hk : k ≤ n + 1) : ((n : Rat) + 2) * rsC ws k * cR (n + 1) k = (if 0 < k then wt ws n (k - 1) else 0) + wt ws n k := by
  have hN : ((n : Rat) + 2) ≠ 0 := by
    have := natR_ne (show n + 2 ≠ 0 by omega)
    intro e
    apply this
    rw [← e]; simp
  have e2 : ((ws.length + 1 : Nat) : Rat) = (n : Rat) + 2 := by rw [hn]; simp; grind
  unfold rsC
  rw [e2]
  have c2 := cR_abs2 n k
  have dv : ∀ x : Rat, ((n : Rat) + 2) * (x / ((n : Rat) + 2)) = x := fun x => by rw [Rat.mul_comm]; exact Rat.div_mul_cancel hN
  have part2 : ((n : Rat) + 2) * (if k < ws.length then ws.getD k 0 * (((ws.length - k : Nat) : Rat) / ((n : Rat) + 2)) else 0) * cR (n + 1) k = wt ws n k := by
    unfold wt
    by_cases q : k < ws.length
    · rw [if_pos q]
      have e3 : ((ws.length - k : Nat) : Rat) = (n : Rat) + 1 - k := by
        have : ((ws.length - k : Nat) : Rat) + (k : Rat) = (n : Rat) + 1 := by
          rw [← Rat.natCast_add, ← natR_succ]
          congr 1
          omega
        grind
      rw [e3]
      have := dv ((n : Rat) + 1 - k)
      generalize ((n : Rat) + 1 - k) / ((n : Rat) + 2) = U at this
      have h : ((n : Rat) + 2) * (ws.getD k 0 * U) * cR (n + 1) k = ws.getD k 0 * (((n : Rat) + 2) * U) * cR (n + 1) k := by grind
      rw [h, this]; grind
    · rw [if_neg q, getD_out (by omega)]; grind
  cases k with
  | zero =>
    simp only [Nat.lt_irrefl, if_false]
    grind
  | succ k =>
    have p0 : 0 < k + 1 := by omega
    rw [if_pos p0, if_pos p0]
    have c1 := cR_abs n k
    have part1 : ((n : Rat) + 2) * (ws.getD (k + 1 - 1) 0 * (((k + 1 : Nat) : Rat) / ((n : Rat) + 2))) * cR (n + 1) (k + 1) = wt ws n (k + 1 - 1) := by
      unfold wt
      rw [Nat.add_sub_cancel]
      have := dv ((k + 1 : Nat) : Rat)
      rw [natR_succ] at this ⊢
      generalize ((k : Rat) + 1) / ((n : Rat) + 2) = U at this
      have h : ((n : Rat) + 2) * (ws.getD k 0 * U) * cR (n + 1) (k + 1) = ws.getD k 0 * (((n : Rat) + 2) * U) * cR (n + 1) (k + 1) := by grind
      rw [h, this]; grind
    grind
theorem smC_rs {ws : List Rat} {n s : Nat} (hn : ws.length = n + 1) (hs : s ≤ n + 1) : smC (rs ws) s = if s ≤ n then smC ws s else 0 := by
  have hW : ∀ k, n + 1 ≤ k → wt ws n k = 0 := fun k hk => by
    unfold wt
    rw [getD_out (by omega)]; grind
  have left : smC (rs ws) s = sumTo (fun k => sg (s + k) * ((if 0 < k then wt ws n (k - 1) else 0) + wt ws n k) * cR (n + 1 - k) (s - k)) (s + 1) := by
    unfold smC
    rw [rs_len, hn, Nat.add_sub_cancel, ← sumTo_mul]
    refine sumTo_congr fun k hk => ?_
    rw [← rsC_eq hn (by omega)]
    have h1 : (rs ws).getD k 0 = rsC ws k := by unfold rs; rw [map_getD, if_pos (by omega)]
    have e2 : ((n + 1 + 1 : Nat) : Rat) = (n : Rat) + 2 := by simp; grind
    rw [h1, e2]; grind
  have right : sumTo (fun k => sg (s + k) * wt ws n k * cR (n - k) (s - k)) (s + 1) = if s ≤ n then smC ws s else 0 := by
    by_cases q : s ≤ n
    · rw [if_pos q]
      unfold smC
      rw [hn, Nat.add_sub_cancel, ← sumTo_mul]
      refine sumTo_congr fun k hk => ?_
      unfold wt
      rw [natR_succ]; grind
    · rw [if_neg q]
      refine sumTo_zero' fun k hk => ?_
      by_cases z : k ≤ n
      · rw [cR_out (show n - k < s - k by omega), Rat.mul_zero]
      · rw [hW k (by omega)]; grind
  rw [left, ← right]
  have split1 : sumTo (fun k => sg (s + k) * ((if 0 < k then wt ws n (k - 1) else 0) + wt ws n k) * cR (n + 1 - k) (s - k)) (s + 1) =
      sumTo (fun k => sg (s + k) * (if 0 < k then wt ws n (k - 1) else 0) * cR (n + 1 - k) (s - k)) (s + 1) + sumTo (fun k => sg (s + k) * wt ws n k * cR (n + 1 - k) (s - k)) (s + 1) := by
    rw [← sumTo_add]
    exact sumTo_congr fun k _ => by grind
  have shift : sumTo (fun k => sg (s + k) * (if 0 < k then wt ws n (k - 1) else 0) * cR (n + 1 - k) (s - k)) (s + 1) = sumTo (fun k => - (sg (s + k) * wt ws n k * cR (n - k) (s - (k + 1)))) s := by
    rw [sumTo_left, if_neg (by omega)]
    have : sumTo (fun i => sg (s + (i + 1)) * (if 0 < i + 1 then wt ws n (i + 1 - 1) else 0) * cR (n + 1 - (i + 1)) (s - (i + 1))) s = sumTo (fun k => - (sg (s + k) * wt ws n k * cR (n - k) (s - (k + 1)))) s := by
      refine sumTo_congr fun i _ => ?_
      rw [if_pos (by omega), Nat.add_sub_cancel, ← Nat.add_assoc, sg_succ]
      have : n + 1 - (i + 1) = n - i := by omega
      rw [this]; grind
    rw [this]; grind
  rw [split1, shift, sumTo_succ (fun k => sg (s + k) * wt ws n k * cR (n + 1 - k) (s - k)), ← Rat.add_assoc, ← sumTo_add, sumTo_succ (fun k => sg (s + k) * wt ws n k * cR (n - k) (s - k))]
  have last : cR (n + 1 - s) (s - s) = cR (n - s) (s - s) := by rw [Nat.sub_self, cR_zero, cR_zero]
  rw [last]
  congr 1
  refine sumTo_congr fun k hk => ?_
  have e1 : n + 1 - k = (n - k) + 1 := by omega
  have e2 : s - k = (s - (k + 1)) + 1 := by omega
  rw [e1, e2, cR_succ]; grind
theorem summed_rs {ws : List Rat} (h : ws.length ≠ 0) : trimQ (sm (rs ws)) = trimQ (sm ws) := by
  obtain ⟨n, hn⟩ : ∃ n, ws.length = n + 1 := ⟨ws.length - 1, by omega⟩
  refine trimQ_ext fun j => ?_
  unfold sm
  rw [map_getD, map_getD, rs_len, hn]
  by_cases q : j ≤ n
  · rw [if_pos (by omega), if_pos (by omega), smC_rs hn (by omega), if_pos q]
  · rw [if_neg (show ¬ j < n + 1 by omega)]
    split
    · rw [smC_rs hn (by omega), if_neg q]
    · rfl
end Pd

set_option maxHeartbeats 4000000
namespace Pd
open PySem PySem.Spec L2
section
variable {G : Str → DSp} {M : Mp} {Q : DK}
def p_raised : Ps := (.seq (.asg [1] true (.bi .len (.cons (.var 0) .nil)))
  (.seq (.asg [2] true (.lst .nil))
  (.seq (.for [3] true (.rng (.int 0) (.bin .Add (.var 1) (.int 1)))
    (.seq (.asg [4] true (.tup (.cons (.int 0) (.cons (.int 1) .nil))))
    (.seq (.ife (.cmp .Gt (.var 3) (.int 0))
      (.asg [4] true (.call "plus" (.cons (.var 4) (.cons (.call "times" (.cons (.idx (.var 0) (.bin .Sub (.var 3) (.int 1))) (.cons (.call "ratio" (.cons (.var 3) (.cons (.bin .Add (.var 1) (.int 1)) .nil))) .nil))) .nil))))
      .skip)
    (.seq (.ife (.cmp .Lt (.var 3) (.var 1))
      (.asg [4] true (.call "plus" (.cons (.var 4) (.cons (.call "times" (.cons (.idx (.var 0) (.var 3)) (.cons (.call "ratio" (.cons (.bin .Sub (.var 1) (.var 3)) (.cons (.bin .Add (.var 1) (.int 1)) .nil))) .nil))) .nil))))
      .skip)
    (.expr (.mt .append (.var 2) (.cons (.var 4) .nil)))))))
  (.ret (.bi .tuple (.cons (.var 2) .nil))))))
def p__law_fraction : Ps := (.seq (.ife (.cmp .Gt (.var 2) (.int 0))
    (.ret (.call "_law_ratio" (.cons (.bin .Add (.bin .Mult (.bin .Sub (.var 0) (.int 6)) (.bin .Add (.bin .Pow (.int 10) (.int 29)) (.var 2))) (.bin .Mult (.var 0) (.var 1))) (.cons (.bin .Add (.bin .Mult (.bin .Pow (.int 10) (.int 28)) (.bin .Add (.int 1) (.var 1))) (.bin .FloorDiv (.var 2) (.int 3))) .nil))))
    .skip)
  (.ret (.call "_law_ratio" (.cons (.bin .Sub (.var 0) (.int 6)) (.cons (.bin .Add (.int 1) (.var 1)) .nil)))))
def p__law_question : Ps := (.seq (.asg [2] true (.call "_law_digits" (.cons (.var 0) (.cons (.bin .Add (.lst (.cons (.int 12) (.cons (.int 6) (.cons (.int 7) (.cons (.int 6) (.cons (.int 13) (.cons (.int 6) (.cons (.int 6) (.cons (.int 6) (.cons (.int 61) .nil)))))))))) (.bin .Mult (.lst (.cons (.int 13) (.cons (.int 9) .nil))) (.int 13))) .nil))))
  (.seq (.asg [3] true (.bin .Add (.int 1) (.idx (.var 2) (.int 2))))
  (.seq (.ife (.cmp .Eq (.idx (.var 2) (.int 3)) (.int 0))
    (.asg [3] true (.bin .Add (.int 1) (.idx (.var 2) (.int 4))))
    .skip)
  (.seq (.asg [4] true (.int 0))
  (.seq (.ife (.cmp .Eq (.idx (.var 2) (.int 5)) (.int 0))
    (.seq (.asg [4] true (.bin .Add (.int 1) (.bin .Mod (.bi .int (.cons (.var 1) .nil)) (.bin .Pow (.int 10) (.int 28)))))
    (.asg [3] true (.bi .min2 (.cons (.var 3) (.cons (.int 5) .nil)))))
    .skip)
  (.seq (.asg [5] true (.comp [6] [6] true (.rng (.int 0) (.var 3)) (.bl true) (.call "_law_fraction" (.cons (.idx (.var 2) (.bin .Add (.int 9) (.bin .Mult (.int 2) (.var 6)))) (.cons (.idx (.var 2) (.bin .Add (.int 10) (.bin .Mult (.int 2) (.var 6)))) (.cons (.var 4) .nil))))))
  (.seq (.ife (.cmp .Eq (.idx (.var 2) (.int 1)) (.int 0))
    (.asg [5] true (.comp [6] [6] true (.rng (.int 0) (.var 3)) (.bl true) (.idx (.lst (.cons (.idx (.var 5) (.var 6)) (.cons (.tup (.cons (.int 0) (.cons (.int 1) .nil))) .nil))) (.bin .Mod (.bi .int (.cons (.idx (.var 2) (.bin .Add (.int 10) (.bin .Mult (.int 2) (.var 6)))) .nil)) (.int 2)))))
    .skip)
  (.seq (.ife (.cmp .Eq (.idx (.var 2) (.int 0)) (.int 0))
    (.asg [5] true (.lst .nil))
    .skip)
  (.seq (.asg [7] true (.call "_law_trim" (.cons (.var 5) .nil)))
  (.seq (.asg [8] true (.bin .Add (.bi .max2 (.cons (.int 0) (.cons (.bin .Sub (.bi .len (.cons (.var 7) .nil)) (.int 1)) .nil))) (.idx (.var 2) (.int 6))))
  (.seq (.ife (.cmp .Eq (.idx (.var 2) (.int 7)) (.int 0))
    (.asg [8] true (.bi .max2 (.cons (.var 8) (.cons (.idx (.var 2) (.int 8)) .nil))))
    .skip)
  (.ret (.lst (.cons (.var 7) (.cons (.var 8) .nil)))))))))))))))
def p__law_is_row : Ps := (.seq (.ife (.or (.not (.truth (.isi (.var 0) .tuple))) (.cmp .NotEq (.bi .len (.cons (.var 0) .nil)) (.var 1)))
    (.ret (.bl false))
    .skip)
  (.ret (.cmp .Eq (.bi .len (.cons (.comp [2] [2] true (.itE (.var 0)) (.not (.truth (.call "_law_is_ratio" (.cons (.var 2) .nil)))) (.var 2)) .nil)) (.int 0))))
def p__law_factors : Ps := (.seq (.asg [3] true (.lst .nil))
  (.seq (.for [4] true (.rng (.int 0) (.bin .Add (.var 2) (.int 1)))
    (.seq (.asg [5] true (.int 0))
    (.seq (.asg [6] true (.int 1))
    (.seq (.for [7] true (.rng (.int 0) (.bi .min2 (.cons (.bin .Add (.var 4) (.int 1)) (.cons (.bi .len (.cons (.var 1) .nil)) .nil))))
      (.seq (.asg [8] true (.call "_law_ratio" (.cons (.bin .Mult (.idx (.idx (.var 1) (.var 7)) (.int 0)) (.idx (.idx (.var 0) (.var 4)) (.var 7))) (.cons (.bin .Mult (.idx (.idx (.var 1) (.var 7)) (.int 1)) (.idx (.idx (.var 0) (.var 2)) (.var 7))) .nil))))
      (.seq (.asg [5] true (.bin .Add (.bin .Mult (.var 5) (.idx (.var 8) (.int 1))) (.bin .Mult (.idx (.var 8) (.int 0)) (.var 6))))
      (.asg [6] true (.bin .Mult (.var 6) (.idx (.var 8) (.int 1)))))))
    (.expr (.mt .append (.var 3) (.cons (.call "_law_ratio" (.cons (.var 5) (.cons (.bin .Mult (.var 6) (.bin .Add (.var 2) (.int 1))) .nil))) .nil)))))))
  (.ret (.bi .tuple (.cons (.var 3) .nil)))))
def p_law : Ps := (.seq (.asg [1] true (.call "_law_pascal" (.cons (.int 62) .nil)))
  (.seq (.asg [2] true (.comp [3] [3] true (.rng (.int 0) (.int 2)) (.bl true) (.call "_law_question" (.cons (.call "_law_cell" (.cons (.var 0) (.cons (.bin .Mult (.int 2) (.var 3)) .nil))) (.cons (.call "_law_cell" (.cons (.var 0) (.cons (.bin .Add (.bin .Mult (.int 2) (.var 3)) (.int 1)) .nil))) .nil)))))
  (.seq (.for [4] true (.rng (.int 0) (.int 3))
    (.seq (.asg [5] true (.idx (.var 2) (.idx (.lst (.cons (.int 0) (.cons (.int 1) (.cons (.int 0) .nil)))) (.var 4))))
    (.seq (.ife (.cmp .Lt (.var 4) (.int 2))
      (.asg [6] true (.call "tie_shares" (.cons (.idx (.var 5) (.int 0)) (.cons (.idx (.var 5) (.int 1)) .nil))))
      (.asg [6] true (.callK "tie_shares" [0, 1] (.cons (.idx (.var 5) (.int 0)) .nil) (.cons (.idx (.var 5) (.int 1)) .nil))))
    (.ife (.or (.not (.truth (.call "_law_is_row" (.cons (.var 6) (.cons (.bin .Add (.idx (.var 5) (.int 1)) (.int 1)) .nil))))) (.cmp .NotEq (.call "_law_summed" (.cons (.var 1) (.cons (.var 6) .nil))) (.idx (.var 5) (.int 0))))
      (.ret (.bl false))
      .skip))))
  (.seq (.asg [7] true (.call "_law_digits" (.cons (.call "_law_cell" (.cons (.var 0) (.cons (.int 4) .nil))) (.cons (.bin .Add (.lst (.cons (.int 13) .nil)) (.bin .Mult (.lst (.cons (.int 13) (.cons (.int 9) .nil))) (.int 13))) .nil))))
  (.seq (.asg [8] true (.tcomp [3] [3] true (.rng (.int 0) (.bin .Add (.int 1) (.idx (.var 7) (.int 0)))) (.bl true) (.call "_law_fraction" (.cons (.idx (.var 7) (.bin .Add (.int 1) (.bin .Mult (.int 2) (.var 3)))) (.cons (.idx (.var 7) (.bin .Add (.int 2) (.bin .Mult (.int 2) (.var 3)))) (.cons (.int 0) .nil))))))
  (.seq (.asg [9] true (.call "_law_digits" (.cons (.call "_law_cell" (.cons (.var 0) (.cons (.int 5) .nil))) (.cons (.bin .Add (.lst (.cons (.int 5) (.cons (.int 47) .nil))) (.bin .Mult (.lst (.cons (.int 13) (.cons (.int 9) .nil))) (.int 5))) .nil))))
  (.seq (.asg [10] true (.call "_law_trim" (.cons (.comp [3] [3] true (.rng (.int 0) (.bin .Add (.int 1) (.idx (.var 9) (.int 0)))) (.bl true) (.call "_law_fraction" (.cons (.idx (.var 9) (.bin .Add (.int 2) (.bin .Mult (.int 2) (.var 3)))) (.cons (.idx (.var 9) (.bin .Add (.int 3) (.bin .Mult (.int 2) (.var 3)))) (.cons (.int 0) .nil))))) .nil)))
  (.seq (.for [5] true (.itE (.lst (.cons (.var 8) (.cons (.call "_law_factors" (.cons (.var 1) (.cons (.var 10) (.cons (.bin .Add (.int 13) (.idx (.var 9) (.int 1))) .nil)))) (.cons (.var 8) .nil)))))
    (.seq (.asg [6] true (.call "raised" (.cons (.var 5) .nil)))
    (.ife (.or (.not (.truth (.call "_law_is_row" (.cons (.var 6) (.cons (.bin .Add (.bi .len (.cons (.var 5) .nil)) (.int 1)) .nil))))) (.cmp .NotEq (.call "_law_summed" (.cons (.var 1) (.cons (.var 6) .nil))) (.call "_law_summed" (.cons (.var 1) (.cons (.var 5) .nil)))))
      (.ret (.bl false))
      .skip)))
  (.ret (.bl true))))))))))

theorem c_plus0 {q : Rat} (hG : G "plus" = sp_plus) (hq : Sz BB q) (h : Q (fr q) M) : G "plus" [.tup [.int 0, .int 1], fr q] M Q := by
  have e : (0 : Rat) + q = q := by grind
  rw [fr_zero]
  exact c_plus hG (Sz.zero (by decide)) hq (by rw [e]; exact h)
theorem sz_natR {n L : Nat} (h : Bd L (n : Int)) (hL : 0 < L) : Sz L (n : Rat) := ⟨h, Bd.one hL⟩
/-- a comprehension of whose items none is taken -/
theorem comp_none {σ : DSt} {R : List D → Mp → Prop} {v : Nat} {qs : List Rat} {elt cnd : Px} (hz : qs.length ≤ sizeLine)
    (hx : ∀ (i : Nat), i < qs.length → ∀ Q : DK, (∀ M3, Sub M M3 → Q (.bl false) M3) → wE G cnd (σ.set v (some (fr (qs.getD i 0)))) M Q)
    (hR : R [] M) : ∃ k, compN (wE G elt) (wE G cnd) [v] true (nSeq (.tup (fL qs))) σ R k 0 [] M := by
  refine comp_pure qs.length (fun i => fr (qs.getD i 0)) (fun _ => .non) (fun _ => false) hz (fun i h => ?_) ?_ (fun i h => ⟨_, rfl, fun Q k => hx i h Q k⟩) (fun i σ' M2 h e => by cases e) ?_
  · show some (fL qs)[i]? = _
    rw [List.getElem?_eq_getElem (by rw [fL_len]; exact h), fL_at]
  · show some (fL qs)[qs.length]? = _
    rw [List.getElem?_eq_none (by rw [fL_len]; exact Nat.le_refl _)]
  · have : (List.range qs.length).filterMap (fun i => if false = true then some D.non else none) = [] := by
      rw [List.filterMap_eq_nil_iff]; intro i _; rfl
    rw [this]; exact hR
theorem comp_frs {σ : DSt} {R : List D → Mp → Prop} {v : Nat} {lo hi : Int} {elt : Px} (P : Rat → Prop) (hz : (hi - lo).toNat ≤ sizeLine)
    (hx : ∀ (i : Nat) M2, (i : Int) < hi - lo → Sub M M2 → ∀ Q : DK, (∀ M3 q, Sub M M3 → P q → Q (fr q) M3) → wE G elt (σ.set v (some (.int (lo + i)))) M2 Q)
    (hR : ∀ qs : List Rat, qs.length = (hi - lo).toNat → (∀ q ∈ qs, P q) → R (fL qs) M) : ∃ k, compN (wE G elt) (wE G (.bl true)) [v] true (nRng lo hi) σ R k 0 [] M := by
  refine ⟨(hi - lo).toNat + 1, ?_⟩
  have key : ∀ (j i : Nat) (qs : List Rat), i + j = (hi - lo).toNat → qs.length = i → (∀ q ∈ qs, P q) → compN (wE G elt) (wE G (.bl true)) [v] true (nRng lo hi) σ R (j + 1) i (fL qs) M := by
    intro j
    induction j with
    | zero =>
      intro i qs e hl hq
      unfold compN nRng
      rw [if_neg (by omega)]
      exact hR qs (by omega) hq
    | succ j ih =>
      intro i qs e hl hq
      unfold compN
      unfold nRng
      rw [if_pos (by omega)]
      refine ⟨_, rfl, e_bl (.inl ⟨rfl, ?_⟩)⟩
      refine hx i M (by omega) (Sub.refl M) _ fun M3 q sb pq => ⟨by rw [fL_len]; omega, M, sb, ?_⟩
      rw [fL_snoc]
      refine ih (i + 1) (qs ++ [q]) (by omega) (by simp [hl]) fun z hz => ?_
      rcases List.mem_append.mp hz with hz | hz
      · exact hq z hz
      · simp at hz; rw [hz]; exact pq
  exact key _ 0 [] (by omega) rfl (fun q h => by cases h)
def sp_raised : DSp := fun ds M R => ∃ (ws : List Rat) (L : Nat), ds = [.tup (fL ws)] ∧ ws.length ≤ 1000 ∧ L ≤ 1000000 ∧ (∀ w ∈ ws, Sz L w) ∧ R (.tup (fL (rs ws))) M
theorem ok_raised (h1 : G "plus" = sp_plus) (h2 : G "times" = sp_times) (h3 : G "ratio" = sp_ratio) (ds M R) (h : sp_raised ds M R) : wBody G p_raised 5 ds M R := by
  obtain ⟨ws, L, rfl, hN, hL, hs, h⟩ := h
  unfold p_raised wBody
  repeat' (first | ((with_reducible refine e_var (d := ?_) ?_ ?_); rotate_left; exact rfl) | with_reducible refine e_cons ?_ | with_reducible refine x_tup ?_ | with_reducible refine e_nil ?_ | with_reducible refine e_int ?_ | with_reducible refine e_idx ?_ | with_reducible refine e_bin ?_ | with_reducible refine b_add ?_ | with_reducible refine b_sub ?_ | with_reducible refine b_mul ?_ ?_ | with_reducible refine i_fr0 ?_ | with_reducible refine i_fr1 ?_ | with_reducible refine e_call ?_ | with_reducible refine e_callK ?_ | with_reducible refine e_bi ?_ | with_reducible refine s_seq ?_ | with_reducible refine s_asg ?_ | with_reducible refine s_ret ?_ | with_reducible refine e_cmp ?_ | with_reducible refine c_eq ?_ | with_reducible refine c_ne ?_ | with_reducible refine c_lt ?_ | with_reducible refine c_le ?_ | with_reducible refine c_gt ?_ | with_reducible refine c_ge ?_ | with_reducible refine s_ife ?_ | with_reducible refine x_ifT ?_ | with_reducible refine x_ifF ?_ | with_reducible refine x_ifNT ?_ | with_reducible refine x_ifNF ?_ | with_reducible refine x_ifd (fun hc => ?_) (fun hc => ?_) | with_reducible refine x_ifn (fun hc => ?_) (fun hc => ?_) | with_reducible refine x_if (fun hc => ?_) (fun hc => ?_) | with_reducible refine s_skip ?_ | with_reducible refine s_expr ?_ | with_reducible refine e_mt ?_ | with_reducible refine b_div ?_ ?_ | with_reducible refine b_mod ?_ ?_ | with_reducible refine b_pow ?_ ?_ | with_reducible refine e_tup ?_ | with_reducible refine x_len (by simp only [List.length_cons, List.length_nil]; decide) ?_ | with_reducible refine e_neg ?_ | with_reducible refine x_int ?_ | with_reducible refine e_bl ?_ | with_reducible refine e_non ?_ | with_reducible refine e_str ?_ | with_reducible refine e_and ?_ | with_reducible refine e_or ?_ | with_reducible refine e_not ?_ | with_reducible refine e_truth ?_ | with_reducible refine x_bl ?_ | with_reducible refine t_bl ?_ | with_reducible refine t_int ?_ | with_reducible refine t_tup ?_ | with_reducible refine t_non ?_ | with_reducible refine e_ife ?_ | with_reducible refine e_isi ?_ | with_reducible refine f_abs ?_ | with_reducible refine f_int ?_ | with_reducible refine f_gcd ?_ | with_reducible refine f_max ?_ | with_reducible refine f_min ?_ | with_reducible refine f_tupT ?_ | with_reducible refine s_for ?_ | with_reducible refine w_rng ?_ | with_reducible refine x_rng ?_ ?_ | with_reducible refine w_it ?_ | with_reducible refine x_itT ?_ | with_reducible refine s_while ?_ | with_reducible refine e_lst ?_ | with_reducible refine e_cut ?_ | with_reducible refine e_absent ?_ | with_reducible refine e_asInt ?_ | with_reducible refine x_pI ?_ | with_reducible refine x_pN ?_ | with_reducible refine e_chain ?_ | with_reducible refine e_comp ?_ | with_reducible refine e_tcomp ?_ | with_reducible refine s_brk ?_ | with_reducible refine s_cont ?_ | ((with_reducible refine m_app (ds := ?_) ?_ ?_); rotate_left; (focus ((repeat (first | exact put_same | assumption | refine put_old ?_ (by assumption))); done))) | ((with_reducible refine m_app2 (ds := ?_) ?_ ?_ ?_); rotate_left; (focus ((repeat (first | exact put_same | assumption | refine put_old ?_ (by assumption))); done))) | ((with_reducible refine z_leniL (qs := ?_) ?_ ?_); rotate_left; first | exact Or.inl put_same | assumption | exact Or.inl (by assumption) | (refine Or.inl ?_; (focus ((repeat (first | exact put_same | assumption | refine put_old ?_ (by assumption))); done))) | exact listAt_put (by assumption) (by assumption) | exact listAt_sub (by assumption) (by assumption)) | ((with_reducible refine z_lenfL (qs := ?_) ?_ ?_); rotate_left; first | exact Or.inl put_same | assumption | exact Or.inl (by assumption) | (refine Or.inl ?_; (focus ((repeat (first | exact put_same | assumption | refine put_old ?_ (by assumption))); done))) | exact listAt_put (by assumption) (by assumption) | exact listAt_sub (by assumption) (by assumption)) | ((with_reducible refine f_lenL (ds := ?_) ?_ ?_); rotate_left; first | exact Or.inl put_same | assumption | exact Or.inl (by assumption) | (refine Or.inl ?_; (focus ((repeat (first | exact put_same | assumption | refine put_old ?_ (by assumption))); done))) | exact listAt_put (by assumption) (by assumption) | exact listAt_sub (by assumption) (by assumption)) | ((with_reducible refine i_iL (ns := ?_) ?_ ?_ ?_); rotate_left; first | exact Or.inl put_same | assumption | exact Or.inl (by assumption) | (refine Or.inl ?_; (focus ((repeat (first | exact put_same | assumption | refine put_old ?_ (by assumption))); done))) | exact listAt_put (by assumption) (by assumption) | exact listAt_sub (by assumption) (by assumption)) | ((with_reducible refine i_fL (ns := ?_) ?_ ?_ ?_); rotate_left; first | exact Or.inl put_same | assumption | exact Or.inl (by assumption) | (refine Or.inl ?_; (focus ((repeat (first | exact put_same | assumption | refine put_old ?_ (by assumption))); done))) | exact listAt_put (by assumption) (by assumption) | exact listAt_sub (by assumption) (by assumption)) | ((with_reducible refine f_tupL (ds := ?_) ?_ ?_); rotate_left; first | exact Or.inl put_same | assumption | exact Or.inl (by assumption) | (refine Or.inl ?_; (focus ((repeat (first | exact put_same | assumption | refine put_old ?_ (by assumption))); done))) | exact listAt_put (by assumption) (by assumption) | exact listAt_sub (by assumption) (by assumption)) | ((with_reducible refine x_itL (ds := ?_) ?_ ?_); rotate_left; first | exact Or.inl put_same | assumption | exact Or.inl (by assumption) | (refine Or.inl ?_; (focus ((repeat (first | exact put_same | assumption | refine put_old ?_ (by assumption))); done))) | exact listAt_put (by assumption) (by assumption) | exact listAt_sub (by assumption) (by assumption)) | with_reducible refine x_new (fun r nr => ?_) | ((with_reducible refine b_lst (ds := ?_) (es := ?_) ?_ ?_ ?_ ?_); rotate_left 2; (focus ((repeat (first | exact put_same | assumption | refine put_old ?_ (by assumption))); done)); (focus ((repeat (first | exact put_same | assumption | refine put_old ?_ (by assumption))); done))) | ((with_reducible refine b_rep (ds := ?_) ?_ ?_ ?_); rotate_left; (focus ((repeat (first | exact put_same | assumption | refine put_old ?_ (by assumption))); done))) | with_reducible refine f_lstT ?_ | with_reducible refine b_tup ?_ ?_ | with_reducible refine z_lenfT ?_ | with_reducible refine f_lenT ?_ | with_reducible refine i_fT ?_ ?_ | with_reducible refine z_isiI ?_ | with_reducible refine z_isiB ?_ | with_reducible refine z_isiF ?_ | with_reducible refine z_isiT ?_ | with_reducible refine z_lenF ?_)
  · omega
  · revert nr
    revert r
    intro a na
    refine for_rng (fun k σ M' => ∃ (o o' : Option D), σ = [some (.tup (fL ws)), some (.int ws.length), some (.ref a), o, o'] ∧ M' = put M a (.lst (fL ((List.range k).map (rsC ws))))) ⟨_, _, rfl, rfl⟩ ?_ ?_
    · rintro k σ M' hk ⟨o, o', rfl, rfl⟩
      have hk' : k ≤ ws.length := by omega
      have e0 : (0 : Int) + k = k := by omega
      rw [e0]
      have lnz : ((ws.length : Int) + 1) ≠ 0 := by omega
      have b1 : Bd 20 (k : Int) := Bd.of_lt (by omega) (by omega)
      have b2 : Bd 20 ((ws.length : Int) + 1) := Bd.of_lt (by omega) (by omega)
      have b3 : Bd 20 ((ws.length : Int) - k) := Bd.of_lt (by omega) (by omega)
      have sA : Sz 20 (Rat.divInt (k : Int) ((ws.length : Int) + 1)) := Sz.divInt b1 b2 lnz
      have sB : Sz 20 (Rat.divInt ((ws.length : Int) - k) ((ws.length : Int) + 1)) := Sz.divInt b3 b2 lnz
      have t1 : ((k : Int) - 1).toNat = k - 1 := by omega
      have t2 : ((k : Int)).toNat = k := by omega
      have eA : Rat.divInt (k : Int) ((ws.length : Int) + 1) = (k : Rat) / ((ws.length + 1 : Nat) : Rat) := by rw [Rat.divInt_eq_div]; rfl
      have eB : Rat.divInt ((ws.length : Int) - k) ((ws.length : Int) + 1) = ((ws.length - k : Nat) : Rat) / ((ws.length + 1 : Nat) : Rat) := by
        rw [Rat.divInt_eq_div]
        have : (ws.length : Int) - k = ((ws.length - k : Nat) : Int) := by omega
        rw [this]; rfl
      have w1 : 0 < k → Sz L (ws.getD (k - 1) 0) := fun q => hs _ (getD_memR (by omega))
      have w2 : k < ws.length → Sz L (ws.getD k 0) := fun q => hs _ (getD_memR (by omega))
      have small : ∀ {q : Rat} {m : Nat}, Sz m q → m ≤ 5000000 → Sz BB q := fun h q => h.mono (by show _ ≤ 60000000; omega)
      have fin : ∀ (q : Rat) (X : MO), q = rsC ws k → put (put M a X) a (.lst (fL ((List.range k).map (rsC ws)) ++ [fr q])) = put M a (.lst (fL ((List.range (k + 1)).map (rsC ws)))) := fun q X e => by rw [e, put_put, fL_snoc, map_take_snoc]
      repeat' (first | with_reducible refine c_plus0 h1 ?_ ?_ | with_reducible refine c_plus h1 ?_ ?_ ?_ | with_reducible refine c_times h2 ?_ ?_ ?_ | with_reducible refine c_ratio h3 ?_ ?_ | ((with_reducible refine e_var (d := ?_) ?_ ?_); rotate_left; exact rfl) | with_reducible refine e_cons ?_ | with_reducible refine x_tup ?_ | with_reducible refine e_nil ?_ | with_reducible refine e_int ?_ | with_reducible refine e_idx ?_ | with_reducible refine e_bin ?_ | with_reducible refine b_add ?_ | with_reducible refine b_sub ?_ | with_reducible refine b_mul ?_ ?_ | with_reducible refine i_fr0 ?_ | with_reducible refine i_fr1 ?_ | with_reducible refine e_call ?_ | with_reducible refine e_callK ?_ | with_reducible refine e_bi ?_ | with_reducible refine s_seq ?_ | with_reducible refine s_asg ?_ | with_reducible refine s_ret ?_ | with_reducible refine e_cmp ?_ | with_reducible refine c_eq ?_ | with_reducible refine c_ne ?_ | with_reducible refine c_lt ?_ | with_reducible refine c_le ?_ | with_reducible refine c_gt ?_ | with_reducible refine c_ge ?_ | with_reducible refine s_ife ?_ | with_reducible refine x_ifT ?_ | with_reducible refine x_ifF ?_ | with_reducible refine x_ifNT ?_ | with_reducible refine x_ifNF ?_ | with_reducible refine x_ifd (fun hc => ?_) (fun hc => ?_) | with_reducible refine x_ifn (fun hc => ?_) (fun hc => ?_) | with_reducible refine x_if (fun hc => ?_) (fun hc => ?_) | with_reducible refine s_skip ?_ | with_reducible refine s_expr ?_ | with_reducible refine e_mt ?_ | with_reducible refine b_div ?_ ?_ | with_reducible refine b_mod ?_ ?_ | with_reducible refine b_pow ?_ ?_ | with_reducible refine e_tup ?_ | with_reducible refine x_len (by simp only [List.length_cons, List.length_nil]; decide) ?_ | with_reducible refine e_neg ?_ | with_reducible refine x_int ?_ | with_reducible refine e_bl ?_ | with_reducible refine e_non ?_ | with_reducible refine e_str ?_ | with_reducible refine e_and ?_ | with_reducible refine e_or ?_ | with_reducible refine e_not ?_ | with_reducible refine e_truth ?_ | with_reducible refine x_bl ?_ | with_reducible refine t_bl ?_ | with_reducible refine t_int ?_ | with_reducible refine t_tup ?_ | with_reducible refine t_non ?_ | with_reducible refine e_ife ?_ | with_reducible refine e_isi ?_ | with_reducible refine f_abs ?_ | with_reducible refine f_int ?_ | with_reducible refine f_gcd ?_ | with_reducible refine f_max ?_ | with_reducible refine f_min ?_ | with_reducible refine f_tupT ?_ | with_reducible refine s_for ?_ | with_reducible refine w_rng ?_ | with_reducible refine x_rng ?_ ?_ | with_reducible refine w_it ?_ | with_reducible refine x_itT ?_ | with_reducible refine s_while ?_ | with_reducible refine e_lst ?_ | with_reducible refine e_cut ?_ | with_reducible refine e_absent ?_ | with_reducible refine e_asInt ?_ | with_reducible refine x_pI ?_ | with_reducible refine x_pN ?_ | with_reducible refine e_chain ?_ | with_reducible refine e_comp ?_ | with_reducible refine e_tcomp ?_ | with_reducible refine s_brk ?_ | with_reducible refine s_cont ?_ | ((with_reducible refine m_app (ds := ?_) ?_ ?_); rotate_left; (focus ((repeat (first | exact put_same | assumption | refine put_old ?_ (by assumption))); done))) | ((with_reducible refine m_app2 (ds := ?_) ?_ ?_ ?_); rotate_left; (focus ((repeat (first | exact put_same | assumption | refine put_old ?_ (by assumption))); done))) | ((with_reducible refine z_leniL (qs := ?_) ?_ ?_); rotate_left; first | exact Or.inl put_same | assumption | exact Or.inl (by assumption) | (refine Or.inl ?_; (focus ((repeat (first | exact put_same | assumption | refine put_old ?_ (by assumption))); done))) | exact listAt_put (by assumption) (by assumption) | exact listAt_sub (by assumption) (by assumption)) | ((with_reducible refine z_lenfL (qs := ?_) ?_ ?_); rotate_left; first | exact Or.inl put_same | assumption | exact Or.inl (by assumption) | (refine Or.inl ?_; (focus ((repeat (first | exact put_same | assumption | refine put_old ?_ (by assumption))); done))) | exact listAt_put (by assumption) (by assumption) | exact listAt_sub (by assumption) (by assumption)) | ((with_reducible refine f_lenL (ds := ?_) ?_ ?_); rotate_left; first | exact Or.inl put_same | assumption | exact Or.inl (by assumption) | (refine Or.inl ?_; (focus ((repeat (first | exact put_same | assumption | refine put_old ?_ (by assumption))); done))) | exact listAt_put (by assumption) (by assumption) | exact listAt_sub (by assumption) (by assumption)) | ((with_reducible refine i_iL (ns := ?_) ?_ ?_ ?_); rotate_left; first | exact Or.inl put_same | assumption | exact Or.inl (by assumption) | (refine Or.inl ?_; (focus ((repeat (first | exact put_same | assumption | refine put_old ?_ (by assumption))); done))) | exact listAt_put (by assumption) (by assumption) | exact listAt_sub (by assumption) (by assumption)) | ((with_reducible refine i_fL (ns := ?_) ?_ ?_ ?_); rotate_left; first | exact Or.inl put_same | assumption | exact Or.inl (by assumption) | (refine Or.inl ?_; (focus ((repeat (first | exact put_same | assumption | refine put_old ?_ (by assumption))); done))) | exact listAt_put (by assumption) (by assumption) | exact listAt_sub (by assumption) (by assumption)) | ((with_reducible refine f_tupL (ds := ?_) ?_ ?_); rotate_left; first | exact Or.inl put_same | assumption | exact Or.inl (by assumption) | (refine Or.inl ?_; (focus ((repeat (first | exact put_same | assumption | refine put_old ?_ (by assumption))); done))) | exact listAt_put (by assumption) (by assumption) | exact listAt_sub (by assumption) (by assumption)) | ((with_reducible refine x_itL (ds := ?_) ?_ ?_); rotate_left; first | exact Or.inl put_same | assumption | exact Or.inl (by assumption) | (refine Or.inl ?_; (focus ((repeat (first | exact put_same | assumption | refine put_old ?_ (by assumption))); done))) | exact listAt_put (by assumption) (by assumption) | exact listAt_sub (by assumption) (by assumption)) | with_reducible refine x_new (fun r nr => ?_) | ((with_reducible refine b_lst (ds := ?_) (es := ?_) ?_ ?_ ?_ ?_); rotate_left 2; (focus ((repeat (first | exact put_same | assumption | refine put_old ?_ (by assumption))); done)); (focus ((repeat (first | exact put_same | assumption | refine put_old ?_ (by assumption))); done))) | ((with_reducible refine b_rep (ds := ?_) ?_ ?_ ?_); rotate_left; (focus ((repeat (first | exact put_same | assumption | refine put_old ?_ (by assumption))); done))) | with_reducible refine f_lstT ?_ | with_reducible refine b_tup ?_ ?_ | with_reducible refine z_lenfT ?_ | with_reducible refine f_lenT ?_ | with_reducible refine i_fT ?_ ?_ | with_reducible refine z_isiI ?_ | with_reducible refine z_isiB ?_ | with_reducible refine z_isiF ?_ | with_reducible refine z_isiT ?_ | with_reducible refine z_lenF ?_)
      all_goals try (first | omega | exact lnz | (rw [t1]; exact small (w1 (by omega)) (by omega)) | (rw [t2]; exact small (w2 (by omega)) (by omega)) | exact small sA (by omega) | exact small sB (by omega) | (rw [t1]; exact small ((w1 (by omega)).mul sA) (by omega)) | (rw [t2]; exact small ((w2 (by omega)).mul sB) (by omega)) | (rw [fL_len]; simp; exact big_line (by omega)))
      · refine ⟨_, Sub.refl _, _, _, rfl, fin _ _ ?_⟩
        unfold rsC
        rw [if_pos (by omega), if_pos (by omega), t1, t2, eA, eB]
      · refine ⟨_, Sub.refl _, _, _, rfl, fin _ _ ?_⟩
        unfold rsC
        rw [if_pos (by omega), if_neg (by omega), t1, eA, Rat.add_zero]
      · refine ⟨_, Sub.refl _, _, _, rfl, fin _ _ ?_⟩
        unfold rsC
        rw [if_neg (by omega), if_pos (by omega), t2, eB, Rat.zero_add]
      · refine ⟨_, Sub.refl _, _, _, rfl, fin 0 _ ?_⟩
        unfold rsC
        rw [if_neg (by omega), if_neg (by omega), Rat.add_zero]
    · rintro σ M' ⟨o, o', rfl, rfl⟩
      have e1 : ((ws.length : Int) + 1 - 0).toNat = ws.length + 1 := by omega
      rw [e1]
      repeat' (first | ((with_reducible refine e_var (d := ?_) ?_ ?_); rotate_left; exact rfl) | with_reducible refine e_cons ?_ | with_reducible refine x_tup ?_ | with_reducible refine e_nil ?_ | with_reducible refine e_int ?_ | with_reducible refine e_idx ?_ | with_reducible refine e_bin ?_ | with_reducible refine b_add ?_ | with_reducible refine b_sub ?_ | with_reducible refine b_mul ?_ ?_ | with_reducible refine i_fr0 ?_ | with_reducible refine i_fr1 ?_ | with_reducible refine e_call ?_ | with_reducible refine e_callK ?_ | with_reducible refine e_bi ?_ | with_reducible refine s_seq ?_ | with_reducible refine s_asg ?_ | with_reducible refine s_ret ?_ | with_reducible refine e_cmp ?_ | with_reducible refine c_eq ?_ | with_reducible refine c_ne ?_ | with_reducible refine c_lt ?_ | with_reducible refine c_le ?_ | with_reducible refine c_gt ?_ | with_reducible refine c_ge ?_ | with_reducible refine s_ife ?_ | with_reducible refine x_ifT ?_ | with_reducible refine x_ifF ?_ | with_reducible refine x_ifNT ?_ | with_reducible refine x_ifNF ?_ | with_reducible refine x_ifd (fun hc => ?_) (fun hc => ?_) | with_reducible refine x_ifn (fun hc => ?_) (fun hc => ?_) | with_reducible refine x_if (fun hc => ?_) (fun hc => ?_) | with_reducible refine s_skip ?_ | with_reducible refine s_expr ?_ | with_reducible refine e_mt ?_ | with_reducible refine b_div ?_ ?_ | with_reducible refine b_mod ?_ ?_ | with_reducible refine b_pow ?_ ?_ | with_reducible refine e_tup ?_ | with_reducible refine x_len (by simp only [List.length_cons, List.length_nil]; decide) ?_ | with_reducible refine e_neg ?_ | with_reducible refine x_int ?_ | with_reducible refine e_bl ?_ | with_reducible refine e_non ?_ | with_reducible refine e_str ?_ | with_reducible refine e_and ?_ | with_reducible refine e_or ?_ | with_reducible refine e_not ?_ | with_reducible refine e_truth ?_ | with_reducible refine x_bl ?_ | with_reducible refine t_bl ?_ | with_reducible refine t_int ?_ | with_reducible refine t_tup ?_ | with_reducible refine t_non ?_ | with_reducible refine e_ife ?_ | with_reducible refine e_isi ?_ | with_reducible refine f_abs ?_ | with_reducible refine f_int ?_ | with_reducible refine f_gcd ?_ | with_reducible refine f_max ?_ | with_reducible refine f_min ?_ | with_reducible refine f_tupT ?_ | with_reducible refine s_for ?_ | with_reducible refine w_rng ?_ | with_reducible refine x_rng ?_ ?_ | with_reducible refine w_it ?_ | with_reducible refine x_itT ?_ | with_reducible refine s_while ?_ | with_reducible refine e_lst ?_ | with_reducible refine e_cut ?_ | with_reducible refine e_absent ?_ | with_reducible refine e_asInt ?_ | with_reducible refine x_pI ?_ | with_reducible refine x_pN ?_ | with_reducible refine e_chain ?_ | with_reducible refine e_comp ?_ | with_reducible refine e_tcomp ?_ | with_reducible refine s_brk ?_ | with_reducible refine s_cont ?_ | ((with_reducible refine m_app (ds := ?_) ?_ ?_); rotate_left; (focus ((repeat (first | exact put_same | assumption | refine put_old ?_ (by assumption))); done))) | ((with_reducible refine m_app2 (ds := ?_) ?_ ?_ ?_); rotate_left; (focus ((repeat (first | exact put_same | assumption | refine put_old ?_ (by assumption))); done))) | ((with_reducible refine z_leniL (qs := ?_) ?_ ?_); rotate_left; first | exact Or.inl put_same | assumption | exact Or.inl (by assumption) | (refine Or.inl ?_; (focus ((repeat (first | exact put_same | assumption | refine put_old ?_ (by assumption))); done))) | exact listAt_put (by assumption) (by assumption) | exact listAt_sub (by assumption) (by assumption)) | ((with_reducible refine z_lenfL (qs := ?_) ?_ ?_); rotate_left; first | exact Or.inl put_same | assumption | exact Or.inl (by assumption) | (refine Or.inl ?_; (focus ((repeat (first | exact put_same | assumption | refine put_old ?_ (by assumption))); done))) | exact listAt_put (by assumption) (by assumption) | exact listAt_sub (by assumption) (by assumption)) | ((with_reducible refine f_lenL (ds := ?_) ?_ ?_); rotate_left; first | exact Or.inl put_same | assumption | exact Or.inl (by assumption) | (refine Or.inl ?_; (focus ((repeat (first | exact put_same | assumption | refine put_old ?_ (by assumption))); done))) | exact listAt_put (by assumption) (by assumption) | exact listAt_sub (by assumption) (by assumption)) | ((with_reducible refine i_iL (ns := ?_) ?_ ?_ ?_); rotate_left; first | exact Or.inl put_same | assumption | exact Or.inl (by assumption) | (refine Or.inl ?_; (focus ((repeat (first | exact put_same | assumption | refine put_old ?_ (by assumption))); done))) | exact listAt_put (by assumption) (by assumption) | exact listAt_sub (by assumption) (by assumption)) | ((with_reducible refine i_fL (ns := ?_) ?_ ?_ ?_); rotate_left; first | exact Or.inl put_same | assumption | exact Or.inl (by assumption) | (refine Or.inl ?_; (focus ((repeat (first | exact put_same | assumption | refine put_old ?_ (by assumption))); done))) | exact listAt_put (by assumption) (by assumption) | exact listAt_sub (by assumption) (by assumption)) | ((with_reducible refine f_tupL (ds := ?_) ?_ ?_); rotate_left; first | exact Or.inl put_same | assumption | exact Or.inl (by assumption) | (refine Or.inl ?_; (focus ((repeat (first | exact put_same | assumption | refine put_old ?_ (by assumption))); done))) | exact listAt_put (by assumption) (by assumption) | exact listAt_sub (by assumption) (by assumption)) | ((with_reducible refine x_itL (ds := ?_) ?_ ?_); rotate_left; first | exact Or.inl put_same | assumption | exact Or.inl (by assumption) | (refine Or.inl ?_; (focus ((repeat (first | exact put_same | assumption | refine put_old ?_ (by assumption))); done))) | exact listAt_put (by assumption) (by assumption) | exact listAt_sub (by assumption) (by assumption)) | with_reducible refine x_new (fun r nr => ?_) | ((with_reducible refine b_lst (ds := ?_) (es := ?_) ?_ ?_ ?_ ?_); rotate_left 2; (focus ((repeat (first | exact put_same | assumption | refine put_old ?_ (by assumption))); done)); (focus ((repeat (first | exact put_same | assumption | refine put_old ?_ (by assumption))); done))) | ((with_reducible refine b_rep (ds := ?_) ?_ ?_ ?_); rotate_left; (focus ((repeat (first | exact put_same | assumption | refine put_old ?_ (by assumption))); done))) | with_reducible refine f_lstT ?_ | with_reducible refine b_tup ?_ ?_ | with_reducible refine z_lenfT ?_ | with_reducible refine f_lenT ?_ | with_reducible refine i_fT ?_ ?_ | with_reducible refine z_isiI ?_ | with_reducible refine z_isiB ?_ | with_reducible refine z_isiF ?_ | with_reducible refine z_isiT ?_ | with_reducible refine z_lenF ?_)
      exact ⟨M, (Sub.refl M).put na, h⟩
theorem c_raised {ws : List Rat} {L : Nat} (hG : G "raised" = sp_raised) (hN : ws.length ≤ 1000) (hL : L ≤ 1000000) (hs : ∀ w ∈ ws, Sz L w) (h : Q (.tup (fL (rs ws))) M) : G "raised" [.tup (fL ws)] M Q := by rw [hG]; exact ⟨ws, L, rfl, hN, hL, hs, h⟩
def sp__law_fraction : DSp := fun ds M R => ∃ (t b g : Int), ds = [.int t, .int b, .int g] ∧ (0 ≤ t ∧ t < 100) ∧ (0 ≤ b ∧ b < 100) ∧ (0 ≤ g ∧ g ≤ 10 ^ 28) ∧ ∀ q, Sz 200 q → R (fr q) M
theorem ok__law_fraction (h1 : G "_law_ratio" = sp_ratio) (ds M R) (h : sp__law_fraction ds M R) : wBody G p__law_fraction 3 ds M R := by
  obtain ⟨t, b, g, rfl, ht, hb, hg, h⟩ := h
  have e29 : (10 : Int) ^ (29 : Int).toNat = 100000000000000000000000000000 := by decide
  have e28 : (10 : Int) ^ (28 : Int).toNat = 10000000000000000000000000000 := by decide
  have e28' : (10 : Int) ^ 28 = 10000000000000000000000000000 := by decide
  rw [e28'] at hg
  have x1 : Bd 8 (t - 6) := Bd.of_le (b := 255) (by omega) (by decide)
  have x2 : Bd 110 ((10 : Int) ^ (29 : Int).toNat + g) := by rw [e29]; exact Bd.of_lt (by omega) (by omega)
  have x3 : Bd 8 t := Bd.of_lt (by omega) (by omega)
  have x4 : Bd 8 b := Bd.of_lt (by omega) (by omega)
  have x5 : Bd 110 ((10 : Int) ^ (28 : Int).toNat) := by rw [e28]; decide
  have x6 : Bd 8 (1 + b) := Bd.of_lt (by omega) (by omega)
  have g3 : 0 ≤ g.fdiv 3 ∧ g.fdiv 3 ≤ 10000000000000000000000000000 := by
    rw [Int.fdiv_eq_ediv_of_nonneg _ (by decide)]; omega
  have pos : 0 < (10 : Int) ^ (28 : Int).toNat * (1 + b) := Int.mul_pos (by rw [e28]; decide) (by omega)
  unfold p__law_fraction wBody
  repeat' (first | with_reducible refine c__law_ratio h1 ?_ ?_ | ((with_reducible refine e_var (d := ?_) ?_ ?_); rotate_left; exact rfl) | with_reducible refine e_cons ?_ | with_reducible refine x_tup ?_ | with_reducible refine e_nil ?_ | with_reducible refine e_int ?_ | with_reducible refine e_idx ?_ | with_reducible refine e_bin ?_ | with_reducible refine b_add ?_ | with_reducible refine b_sub ?_ | with_reducible refine b_mul ?_ ?_ | with_reducible refine i_fr0 ?_ | with_reducible refine i_fr1 ?_ | with_reducible refine e_call ?_ | with_reducible refine e_callK ?_ | with_reducible refine e_bi ?_ | with_reducible refine s_seq ?_ | with_reducible refine s_asg ?_ | with_reducible refine s_ret ?_ | with_reducible refine e_cmp ?_ | with_reducible refine c_eq ?_ | with_reducible refine c_ne ?_ | with_reducible refine c_lt ?_ | with_reducible refine c_le ?_ | with_reducible refine c_gt ?_ | with_reducible refine c_ge ?_ | with_reducible refine s_ife ?_ | with_reducible refine x_ifT ?_ | with_reducible refine x_ifF ?_ | with_reducible refine x_ifNT ?_ | with_reducible refine x_ifNF ?_ | with_reducible refine x_ifd (fun hc => ?_) (fun hc => ?_) | with_reducible refine x_ifn (fun hc => ?_) (fun hc => ?_) | with_reducible refine x_if (fun hc => ?_) (fun hc => ?_) | with_reducible refine s_skip ?_ | with_reducible refine s_expr ?_ | with_reducible refine e_mt ?_ | with_reducible refine b_div ?_ ?_ | with_reducible refine b_mod ?_ ?_ | with_reducible refine b_pow ?_ ?_ | with_reducible refine e_tup ?_ | with_reducible refine x_len (by simp only [List.length_cons, List.length_nil]; decide) ?_ | with_reducible refine e_neg ?_ | with_reducible refine x_int ?_ | with_reducible refine e_bl ?_ | with_reducible refine e_non ?_ | with_reducible refine e_str ?_ | with_reducible refine e_and ?_ | with_reducible refine e_or ?_ | with_reducible refine e_not ?_ | with_reducible refine e_truth ?_ | with_reducible refine x_bl ?_ | with_reducible refine t_bl ?_ | with_reducible refine t_int ?_ | with_reducible refine t_tup ?_ | with_reducible refine t_non ?_ | with_reducible refine e_ife ?_ | with_reducible refine e_isi ?_ | with_reducible refine f_abs ?_ | with_reducible refine f_int ?_ | with_reducible refine f_gcd ?_ | with_reducible refine f_max ?_ | with_reducible refine f_min ?_ | with_reducible refine f_tupT ?_ | with_reducible refine s_for ?_ | with_reducible refine w_rng ?_ | with_reducible refine x_rng ?_ ?_ | with_reducible refine w_it ?_ | with_reducible refine x_itT ?_ | with_reducible refine s_while ?_ | with_reducible refine e_lst ?_ | with_reducible refine e_cut ?_ | with_reducible refine e_absent ?_ | with_reducible refine e_asInt ?_ | with_reducible refine x_pI ?_ | with_reducible refine x_pN ?_ | with_reducible refine e_chain ?_ | with_reducible refine e_comp ?_ | with_reducible refine e_tcomp ?_ | with_reducible refine s_brk ?_ | with_reducible refine s_cont ?_ | ((with_reducible refine m_app (ds := ?_) ?_ ?_); rotate_left; (focus ((repeat (first | exact put_same | assumption | refine put_old ?_ (by assumption))); done))) | ((with_reducible refine m_app2 (ds := ?_) ?_ ?_ ?_); rotate_left; (focus ((repeat (first | exact put_same | assumption | refine put_old ?_ (by assumption))); done))) | ((with_reducible refine z_leniL (qs := ?_) ?_ ?_); rotate_left; first | exact Or.inl put_same | assumption | exact Or.inl (by assumption) | (refine Or.inl ?_; (focus ((repeat (first | exact put_same | assumption | refine put_old ?_ (by assumption))); done))) | exact listAt_put (by assumption) (by assumption) | exact listAt_sub (by assumption) (by assumption)) | ((with_reducible refine z_lenfL (qs := ?_) ?_ ?_); rotate_left; first | exact Or.inl put_same | assumption | exact Or.inl (by assumption) | (refine Or.inl ?_; (focus ((repeat (first | exact put_same | assumption | refine put_old ?_ (by assumption))); done))) | exact listAt_put (by assumption) (by assumption) | exact listAt_sub (by assumption) (by assumption)) | ((with_reducible refine f_lenL (ds := ?_) ?_ ?_); rotate_left; first | exact Or.inl put_same | assumption | exact Or.inl (by assumption) | (refine Or.inl ?_; (focus ((repeat (first | exact put_same | assumption | refine put_old ?_ (by assumption))); done))) | exact listAt_put (by assumption) (by assumption) | exact listAt_sub (by assumption) (by assumption)) | ((with_reducible refine i_iL (ns := ?_) ?_ ?_ ?_); rotate_left; first | exact Or.inl put_same | assumption | exact Or.inl (by assumption) | (refine Or.inl ?_; (focus ((repeat (first | exact put_same | assumption | refine put_old ?_ (by assumption))); done))) | exact listAt_put (by assumption) (by assumption) | exact listAt_sub (by assumption) (by assumption)) | ((with_reducible refine i_fL (ns := ?_) ?_ ?_ ?_); rotate_left; first | exact Or.inl put_same | assumption | exact Or.inl (by assumption) | (refine Or.inl ?_; (focus ((repeat (first | exact put_same | assumption | refine put_old ?_ (by assumption))); done))) | exact listAt_put (by assumption) (by assumption) | exact listAt_sub (by assumption) (by assumption)) | ((with_reducible refine f_tupL (ds := ?_) ?_ ?_); rotate_left; first | exact Or.inl put_same | assumption | exact Or.inl (by assumption) | (refine Or.inl ?_; (focus ((repeat (first | exact put_same | assumption | refine put_old ?_ (by assumption))); done))) | exact listAt_put (by assumption) (by assumption) | exact listAt_sub (by assumption) (by assumption)) | ((with_reducible refine x_itL (ds := ?_) ?_ ?_); rotate_left; first | exact Or.inl put_same | assumption | exact Or.inl (by assumption) | (refine Or.inl ?_; (focus ((repeat (first | exact put_same | assumption | refine put_old ?_ (by assumption))); done))) | exact listAt_put (by assumption) (by assumption) | exact listAt_sub (by assumption) (by assumption)) | with_reducible refine x_new (fun r nr => ?_) | ((with_reducible refine b_lst (ds := ?_) (es := ?_) ?_ ?_ ?_ ?_); rotate_left 2; (focus ((repeat (first | exact put_same | assumption | refine put_old ?_ (by assumption))); done)); (focus ((repeat (first | exact put_same | assumption | refine put_old ?_ (by assumption))); done))) | ((with_reducible refine b_rep (ds := ?_) ?_ ?_ ?_); rotate_left; (focus ((repeat (first | exact put_same | assumption | refine put_old ?_ (by assumption))); done))) | with_reducible refine f_lstT ?_ | with_reducible refine b_tup ?_ ?_ | with_reducible refine z_lenfT ?_ | with_reducible refine f_lenT ?_ | with_reducible refine i_fT ?_ ?_ | with_reducible refine z_isiI ?_ | with_reducible refine z_isiB ?_ | with_reducible refine z_isiF ?_ | with_reducible refine z_isiT ?_ | with_reducible refine z_lenF ?_)
  · decide
  · exact x1.mulOk x2 (by decide)
  · exact x3.mulOk x4 (by decide)
  · decide
  · exact x5.mulOk x6 (by decide)
  · decide
  · omega
  · refine ⟨M, Sub.refl M, h _ (Sz.divInt ?_ ?_ (by omega))⟩
    · exact ((x1.mul x2).add ((x3.mul x4).mono (by omega))).mono (by omega)
    · exact ((x5.mul x6).add (Bd.of_lt (n := 118) g3.1 (by omega))).mono (by omega)
  · omega
  · exact ⟨M, Sub.refl M, h _ (Sz.divInt (x1.mono (by omega)) (x6.mono (by omega)) (by omega))⟩
theorem c__law_fraction {t b g : Int} (hG : G "_law_fraction" = sp__law_fraction) (ht : 0 ≤ t ∧ t < 100) (hb : 0 ≤ b ∧ b < 100) (hg : 0 ≤ g ∧ g ≤ 10 ^ 28) (h : ∀ q, Sz 200 q → Q (fr q) M) : G "_law_fraction" [.int t, .int b, .int g] M Q := by rw [hG]; exact ⟨t, b, g, rfl, ht, hb, hg, h⟩
def sp__law_is_row : DSp := fun ds M R => ∃ (ws : List Rat) (n : Int), ds = [.tup (fL ws), .int n] ∧ n = ws.length ∧ ws.length ≤ 1000 ∧ R (.bl true) M
theorem ok__law_is_row (h1 : G "_law_is_ratio" = sp__law_is_ratio) (ds M R) (h : sp__law_is_row ds M R) : wBody G p__law_is_row 3 ds M R := by
  obtain ⟨ws, n, rfl, rfl, hN, h⟩ := h
  unfold p__law_is_row wBody
  repeat' (first | ((with_reducible refine e_var (d := ?_) ?_ ?_); rotate_left; exact rfl) | with_reducible refine e_cons ?_ | with_reducible refine x_tup ?_ | with_reducible refine e_nil ?_ | with_reducible refine e_int ?_ | with_reducible refine e_idx ?_ | with_reducible refine e_bin ?_ | with_reducible refine b_add ?_ | with_reducible refine b_sub ?_ | with_reducible refine b_mul ?_ ?_ | with_reducible refine i_fr0 ?_ | with_reducible refine i_fr1 ?_ | with_reducible refine e_call ?_ | with_reducible refine e_callK ?_ | with_reducible refine e_bi ?_ | with_reducible refine s_seq ?_ | with_reducible refine s_asg ?_ | with_reducible refine s_ret ?_ | with_reducible refine e_cmp ?_ | with_reducible refine c_eq ?_ | with_reducible refine c_ne ?_ | with_reducible refine c_lt ?_ | with_reducible refine c_le ?_ | with_reducible refine c_gt ?_ | with_reducible refine c_ge ?_ | with_reducible refine s_ife ?_ | with_reducible refine x_ifT ?_ | with_reducible refine x_ifF ?_ | with_reducible refine x_ifNT ?_ | with_reducible refine x_ifNF ?_ | with_reducible refine x_ifd (fun hc => ?_) (fun hc => ?_) | with_reducible refine x_ifn (fun hc => ?_) (fun hc => ?_) | with_reducible refine x_if (fun hc => ?_) (fun hc => ?_) | with_reducible refine s_skip ?_ | with_reducible refine s_expr ?_ | with_reducible refine e_mt ?_ | with_reducible refine b_div ?_ ?_ | with_reducible refine b_mod ?_ ?_ | with_reducible refine b_pow ?_ ?_ | with_reducible refine e_tup ?_ | with_reducible refine x_len (by simp only [List.length_cons, List.length_nil]; decide) ?_ | with_reducible refine e_neg ?_ | with_reducible refine x_int ?_ | with_reducible refine e_bl ?_ | with_reducible refine e_non ?_ | with_reducible refine e_str ?_ | with_reducible refine e_and ?_ | with_reducible refine e_or ?_ | with_reducible refine e_not ?_ | with_reducible refine e_truth ?_ | with_reducible refine x_bl ?_ | with_reducible refine t_bl ?_ | with_reducible refine t_int ?_ | with_reducible refine t_tup ?_ | with_reducible refine t_non ?_ | with_reducible refine e_ife ?_ | with_reducible refine e_isi ?_ | with_reducible refine f_abs ?_ | with_reducible refine f_int ?_ | with_reducible refine f_gcd ?_ | with_reducible refine f_max ?_ | with_reducible refine f_min ?_ | with_reducible refine f_tupT ?_ | with_reducible refine s_for ?_ | with_reducible refine w_rng ?_ | with_reducible refine x_rng ?_ ?_ | with_reducible refine w_it ?_ | with_reducible refine x_itT ?_ | with_reducible refine s_while ?_ | with_reducible refine e_lst ?_ | with_reducible refine e_cut ?_ | with_reducible refine e_absent ?_ | with_reducible refine e_asInt ?_ | with_reducible refine x_pI ?_ | with_reducible refine x_pN ?_ | with_reducible refine e_chain ?_ | with_reducible refine e_comp ?_ | with_reducible refine e_tcomp ?_ | with_reducible refine s_brk ?_ | with_reducible refine s_cont ?_ | ((with_reducible refine m_app (ds := ?_) ?_ ?_); rotate_left; (focus ((repeat (first | exact put_same | assumption | refine put_old ?_ (by assumption))); done))) | ((with_reducible refine m_app2 (ds := ?_) ?_ ?_ ?_); rotate_left; (focus ((repeat (first | exact put_same | assumption | refine put_old ?_ (by assumption))); done))) | ((with_reducible refine z_leniL (qs := ?_) ?_ ?_); rotate_left; first | exact Or.inl put_same | assumption | exact Or.inl (by assumption) | (refine Or.inl ?_; (focus ((repeat (first | exact put_same | assumption | refine put_old ?_ (by assumption))); done))) | exact listAt_put (by assumption) (by assumption) | exact listAt_sub (by assumption) (by assumption)) | ((with_reducible refine z_lenfL (qs := ?_) ?_ ?_); rotate_left; first | exact Or.inl put_same | assumption | exact Or.inl (by assumption) | (refine Or.inl ?_; (focus ((repeat (first | exact put_same | assumption | refine put_old ?_ (by assumption))); done))) | exact listAt_put (by assumption) (by assumption) | exact listAt_sub (by assumption) (by assumption)) | ((with_reducible refine f_lenL (ds := ?_) ?_ ?_); rotate_left; first | exact Or.inl put_same | assumption | exact Or.inl (by assumption) | (refine Or.inl ?_; (focus ((repeat (first | exact put_same | assumption | refine put_old ?_ (by assumption))); done))) | exact listAt_put (by assumption) (by assumption) | exact listAt_sub (by assumption) (by assumption)) | ((with_reducible refine i_iL (ns := ?_) ?_ ?_ ?_); rotate_left; first | exact Or.inl put_same | assumption | exact Or.inl (by assumption) | (refine Or.inl ?_; (focus ((repeat (first | exact put_same | assumption | refine put_old ?_ (by assumption))); done))) | exact listAt_put (by assumption) (by assumption) | exact listAt_sub (by assumption) (by assumption)) | ((with_reducible refine i_fL (ns := ?_) ?_ ?_ ?_); rotate_left; first | exact Or.inl put_same | assumption | exact Or.inl (by assumption) | (refine Or.inl ?_; (focus ((repeat (first | exact put_same | assumption | refine put_old ?_ (by assumption))); done))) | exact listAt_put (by assumption) (by assumption) | exact listAt_sub (by assumption) (by assumption)) | ((with_reducible refine f_tupL (ds := ?_) ?_ ?_); rotate_left; first | exact Or.inl put_same | assumption | exact Or.inl (by assumption) | (refine Or.inl ?_; (focus ((repeat (first | exact put_same | assumption | refine put_old ?_ (by assumption))); done))) | exact listAt_put (by assumption) (by assumption) | exact listAt_sub (by assumption) (by assumption)) | ((with_reducible refine x_itL (ds := ?_) ?_ ?_); rotate_left; first | exact Or.inl put_same | assumption | exact Or.inl (by assumption) | (refine Or.inl ?_; (focus ((repeat (first | exact put_same | assumption | refine put_old ?_ (by assumption))); done))) | exact listAt_put (by assumption) (by assumption) | exact listAt_sub (by assumption) (by assumption)) | with_reducible refine x_new (fun r nr => ?_) | ((with_reducible refine b_lst (ds := ?_) (es := ?_) ?_ ?_ ?_ ?_); rotate_left 2; (focus ((repeat (first | exact put_same | assumption | refine put_old ?_ (by assumption))); done)); (focus ((repeat (first | exact put_same | assumption | refine put_old ?_ (by assumption))); done))) | ((with_reducible refine b_rep (ds := ?_) ?_ ?_ ?_); rotate_left; (focus ((repeat (first | exact put_same | assumption | refine put_old ?_ (by assumption))); done))) | with_reducible refine f_lstT ?_ | with_reducible refine b_tup ?_ ?_ | with_reducible refine z_lenfT ?_ | with_reducible refine f_lenT ?_ | with_reducible refine i_fT ?_ ?_ | with_reducible refine z_isiI ?_ | with_reducible refine z_isiB ?_ | with_reducible refine z_isiF ?_ | with_reducible refine z_isiT ?_ | with_reducible refine z_lenF ?_)
  all_goals (try (exfalso; first | contradiction | omega))
  refine comp_none (by have := big_line (show ws.length ≤ 1000000 by omega); omega) (fun i hi Q k => ?_) ?_
  · repeat' (first | with_reducible refine c__law_is_ratio h1 ?_ | ((with_reducible refine e_var (d := ?_) ?_ ?_); rotate_left; exact rfl) | with_reducible refine e_cons ?_ | with_reducible refine x_tup ?_ | with_reducible refine e_nil ?_ | with_reducible refine e_int ?_ | with_reducible refine e_idx ?_ | with_reducible refine e_bin ?_ | with_reducible refine b_add ?_ | with_reducible refine b_sub ?_ | with_reducible refine b_mul ?_ ?_ | with_reducible refine i_fr0 ?_ | with_reducible refine i_fr1 ?_ | with_reducible refine e_call ?_ | with_reducible refine e_callK ?_ | with_reducible refine e_bi ?_ | with_reducible refine s_seq ?_ | with_reducible refine s_asg ?_ | with_reducible refine s_ret ?_ | with_reducible refine e_cmp ?_ | with_reducible refine c_eq ?_ | with_reducible refine c_ne ?_ | with_reducible refine c_lt ?_ | with_reducible refine c_le ?_ | with_reducible refine c_gt ?_ | with_reducible refine c_ge ?_ | with_reducible refine s_ife ?_ | with_reducible refine x_ifT ?_ | with_reducible refine x_ifF ?_ | with_reducible refine x_ifNT ?_ | with_reducible refine x_ifNF ?_ | with_reducible refine x_ifd (fun hc => ?_) (fun hc => ?_) | with_reducible refine x_ifn (fun hc => ?_) (fun hc => ?_) | with_reducible refine x_if (fun hc => ?_) (fun hc => ?_) | with_reducible refine s_skip ?_ | with_reducible refine s_expr ?_ | with_reducible refine e_mt ?_ | with_reducible refine b_div ?_ ?_ | with_reducible refine b_mod ?_ ?_ | with_reducible refine b_pow ?_ ?_ | with_reducible refine e_tup ?_ | with_reducible refine x_len (by simp only [List.length_cons, List.length_nil]; decide) ?_ | with_reducible refine e_neg ?_ | with_reducible refine x_int ?_ | with_reducible refine e_bl ?_ | with_reducible refine e_non ?_ | with_reducible refine e_str ?_ | with_reducible refine e_and ?_ | with_reducible refine e_or ?_ | with_reducible refine e_not ?_ | with_reducible refine e_truth ?_ | with_reducible refine x_bl ?_ | with_reducible refine t_bl ?_ | with_reducible refine t_int ?_ | with_reducible refine t_tup ?_ | with_reducible refine t_non ?_ | with_reducible refine e_ife ?_ | with_reducible refine e_isi ?_ | with_reducible refine f_abs ?_ | with_reducible refine f_int ?_ | with_reducible refine f_gcd ?_ | with_reducible refine f_max ?_ | with_reducible refine f_min ?_ | with_reducible refine f_tupT ?_ | with_reducible refine s_for ?_ | with_reducible refine w_rng ?_ | with_reducible refine x_rng ?_ ?_ | with_reducible refine w_it ?_ | with_reducible refine x_itT ?_ | with_reducible refine s_while ?_ | with_reducible refine e_lst ?_ | with_reducible refine e_cut ?_ | with_reducible refine e_absent ?_ | with_reducible refine e_asInt ?_ | with_reducible refine x_pI ?_ | with_reducible refine x_pN ?_ | with_reducible refine e_chain ?_ | with_reducible refine e_comp ?_ | with_reducible refine e_tcomp ?_ | with_reducible refine s_brk ?_ | with_reducible refine s_cont ?_ | ((with_reducible refine m_app (ds := ?_) ?_ ?_); rotate_left; (focus ((repeat (first | exact put_same | assumption | refine put_old ?_ (by assumption))); done))) | ((with_reducible refine m_app2 (ds := ?_) ?_ ?_ ?_); rotate_left; (focus ((repeat (first | exact put_same | assumption | refine put_old ?_ (by assumption))); done))) | ((with_reducible refine z_leniL (qs := ?_) ?_ ?_); rotate_left; first | exact Or.inl put_same | assumption | exact Or.inl (by assumption) | (refine Or.inl ?_; (focus ((repeat (first | exact put_same | assumption | refine put_old ?_ (by assumption))); done))) | exact listAt_put (by assumption) (by assumption) | exact listAt_sub (by assumption) (by assumption)) | ((with_reducible refine z_lenfL (qs := ?_) ?_ ?_); rotate_left; first | exact Or.inl put_same | assumption | exact Or.inl (by assumption) | (refine Or.inl ?_; (focus ((repeat (first | exact put_same | assumption | refine put_old ?_ (by assumption))); done))) | exact listAt_put (by assumption) (by assumption) | exact listAt_sub (by assumption) (by assumption)) | ((with_reducible refine f_lenL (ds := ?_) ?_ ?_); rotate_left; first | exact Or.inl put_same | assumption | exact Or.inl (by assumption) | (refine Or.inl ?_; (focus ((repeat (first | exact put_same | assumption | refine put_old ?_ (by assumption))); done))) | exact listAt_put (by assumption) (by assumption) | exact listAt_sub (by assumption) (by assumption)) | ((with_reducible refine i_iL (ns := ?_) ?_ ?_ ?_); rotate_left; first | exact Or.inl put_same | assumption | exact Or.inl (by assumption) | (refine Or.inl ?_; (focus ((repeat (first | exact put_same | assumption | refine put_old ?_ (by assumption))); done))) | exact listAt_put (by assumption) (by assumption) | exact listAt_sub (by assumption) (by assumption)) | ((with_reducible refine i_fL (ns := ?_) ?_ ?_ ?_); rotate_left; first | exact Or.inl put_same | assumption | exact Or.inl (by assumption) | (refine Or.inl ?_; (focus ((repeat (first | exact put_same | assumption | refine put_old ?_ (by assumption))); done))) | exact listAt_put (by assumption) (by assumption) | exact listAt_sub (by assumption) (by assumption)) | ((with_reducible refine f_tupL (ds := ?_) ?_ ?_); rotate_left; first | exact Or.inl put_same | assumption | exact Or.inl (by assumption) | (refine Or.inl ?_; (focus ((repeat (first | exact put_same | assumption | refine put_old ?_ (by assumption))); done))) | exact listAt_put (by assumption) (by assumption) | exact listAt_sub (by assumption) (by assumption)) | ((with_reducible refine x_itL (ds := ?_) ?_ ?_); rotate_left; first | exact Or.inl put_same | assumption | exact Or.inl (by assumption) | (refine Or.inl ?_; (focus ((repeat (first | exact put_same | assumption | refine put_old ?_ (by assumption))); done))) | exact listAt_put (by assumption) (by assumption) | exact listAt_sub (by assumption) (by assumption)) | with_reducible refine x_new (fun r nr => ?_) | ((with_reducible refine b_lst (ds := ?_) (es := ?_) ?_ ?_ ?_ ?_); rotate_left 2; (focus ((repeat (first | exact put_same | assumption | refine put_old ?_ (by assumption))); done)); (focus ((repeat (first | exact put_same | assumption | refine put_old ?_ (by assumption))); done))) | ((with_reducible refine b_rep (ds := ?_) ?_ ?_ ?_); rotate_left; (focus ((repeat (first | exact put_same | assumption | refine put_old ?_ (by assumption))); done))) | with_reducible refine f_lstT ?_ | with_reducible refine b_tup ?_ ?_ | with_reducible refine z_lenfT ?_ | with_reducible refine f_lenT ?_ | with_reducible refine i_fT ?_ ?_ | with_reducible refine z_isiI ?_ | with_reducible refine z_isiB ?_ | with_reducible refine z_isiF ?_ | with_reducible refine z_isiT ?_ | with_reducible refine z_lenF ?_)
    exact k M (Sub.refl M)
  · repeat' (first | ((with_reducible refine e_var (d := ?_) ?_ ?_); rotate_left; exact rfl) | with_reducible refine e_cons ?_ | with_reducible refine x_tup ?_ | with_reducible refine e_nil ?_ | with_reducible refine e_int ?_ | with_reducible refine e_idx ?_ | with_reducible refine e_bin ?_ | with_reducible refine b_add ?_ | with_reducible refine b_sub ?_ | with_reducible refine b_mul ?_ ?_ | with_reducible refine i_fr0 ?_ | with_reducible refine i_fr1 ?_ | with_reducible refine e_call ?_ | with_reducible refine e_callK ?_ | with_reducible refine e_bi ?_ | with_reducible refine s_seq ?_ | with_reducible refine s_asg ?_ | with_reducible refine s_ret ?_ | with_reducible refine e_cmp ?_ | with_reducible refine c_eq ?_ | with_reducible refine c_ne ?_ | with_reducible refine c_lt ?_ | with_reducible refine c_le ?_ | with_reducible refine c_gt ?_ | with_reducible refine c_ge ?_ | with_reducible refine s_ife ?_ | with_reducible refine x_ifT ?_ | with_reducible refine x_ifF ?_ | with_reducible refine x_ifNT ?_ | with_reducible refine x_ifNF ?_ | with_reducible refine x_ifd (fun hc => ?_) (fun hc => ?_) | with_reducible refine x_ifn (fun hc => ?_) (fun hc => ?_) | with_reducible refine x_if (fun hc => ?_) (fun hc => ?_) | with_reducible refine s_skip ?_ | with_reducible refine s_expr ?_ | with_reducible refine e_mt ?_ | with_reducible refine b_div ?_ ?_ | with_reducible refine b_mod ?_ ?_ | with_reducible refine b_pow ?_ ?_ | with_reducible refine e_tup ?_ | with_reducible refine x_len (by simp only [List.length_cons, List.length_nil]; decide) ?_ | with_reducible refine e_neg ?_ | with_reducible refine x_int ?_ | with_reducible refine e_bl ?_ | with_reducible refine e_non ?_ | with_reducible refine e_str ?_ | with_reducible refine e_and ?_ | with_reducible refine e_or ?_ | with_reducible refine e_not ?_ | with_reducible refine e_truth ?_ | with_reducible refine x_bl ?_ | with_reducible refine t_bl ?_ | with_reducible refine t_int ?_ | with_reducible refine t_tup ?_ | with_reducible refine t_non ?_ | with_reducible refine e_ife ?_ | with_reducible refine e_isi ?_ | with_reducible refine f_abs ?_ | with_reducible refine f_int ?_ | with_reducible refine f_gcd ?_ | with_reducible refine f_max ?_ | with_reducible refine f_min ?_ | with_reducible refine f_tupT ?_ | with_reducible refine s_for ?_ | with_reducible refine w_rng ?_ | with_reducible refine x_rng ?_ ?_ | with_reducible refine w_it ?_ | with_reducible refine x_itT ?_ | with_reducible refine s_while ?_ | with_reducible refine e_lst ?_ | with_reducible refine e_cut ?_ | with_reducible refine e_absent ?_ | with_reducible refine e_asInt ?_ | with_reducible refine x_pI ?_ | with_reducible refine x_pN ?_ | with_reducible refine e_chain ?_ | with_reducible refine e_comp ?_ | with_reducible refine e_tcomp ?_ | with_reducible refine s_brk ?_ | with_reducible refine s_cont ?_ | ((with_reducible refine m_app (ds := ?_) ?_ ?_); rotate_left; (focus ((repeat (first | exact put_same | assumption | refine put_old ?_ (by assumption))); done))) | ((with_reducible refine m_app2 (ds := ?_) ?_ ?_ ?_); rotate_left; (focus ((repeat (first | exact put_same | assumption | refine put_old ?_ (by assumption))); done))) | ((with_reducible refine z_leniL (qs := ?_) ?_ ?_); rotate_left; first | exact Or.inl put_same | assumption | exact Or.inl (by assumption) | (refine Or.inl ?_; (focus ((repeat (first | exact put_same | assumption | refine put_old ?_ (by assumption))); done))) | exact listAt_put (by assumption) (by assumption) | exact listAt_sub (by assumption) (by assumption)) | ((with_reducible refine z_lenfL (qs := ?_) ?_ ?_); rotate_left; first | exact Or.inl put_same | assumption | exact Or.inl (by assumption) | (refine Or.inl ?_; (focus ((repeat (first | exact put_same | assumption | refine put_old ?_ (by assumption))); done))) | exact listAt_put (by assumption) (by assumption) | exact listAt_sub (by assumption) (by assumption)) | ((with_reducible refine f_lenL (ds := ?_) ?_ ?_); rotate_left; first | exact Or.inl put_same | assumption | exact Or.inl (by assumption) | (refine Or.inl ?_; (focus ((repeat (first | exact put_same | assumption | refine put_old ?_ (by assumption))); done))) | exact listAt_put (by assumption) (by assumption) | exact listAt_sub (by assumption) (by assumption)) | ((with_reducible refine i_iL (ns := ?_) ?_ ?_ ?_); rotate_left; first | exact Or.inl put_same | assumption | exact Or.inl (by assumption) | (refine Or.inl ?_; (focus ((repeat (first | exact put_same | assumption | refine put_old ?_ (by assumption))); done))) | exact listAt_put (by assumption) (by assumption) | exact listAt_sub (by assumption) (by assumption)) | ((with_reducible refine i_fL (ns := ?_) ?_ ?_ ?_); rotate_left; first | exact Or.inl put_same | assumption | exact Or.inl (by assumption) | (refine Or.inl ?_; (focus ((repeat (first | exact put_same | assumption | refine put_old ?_ (by assumption))); done))) | exact listAt_put (by assumption) (by assumption) | exact listAt_sub (by assumption) (by assumption)) | ((with_reducible refine f_tupL (ds := ?_) ?_ ?_); rotate_left; first | exact Or.inl put_same | assumption | exact Or.inl (by assumption) | (refine Or.inl ?_; (focus ((repeat (first | exact put_same | assumption | refine put_old ?_ (by assumption))); done))) | exact listAt_put (by assumption) (by assumption) | exact listAt_sub (by assumption) (by assumption)) | ((with_reducible refine x_itL (ds := ?_) ?_ ?_); rotate_left; first | exact Or.inl put_same | assumption | exact Or.inl (by assumption) | (refine Or.inl ?_; (focus ((repeat (first | exact put_same | assumption | refine put_old ?_ (by assumption))); done))) | exact listAt_put (by assumption) (by assumption) | exact listAt_sub (by assumption) (by assumption)) | with_reducible refine x_new (fun r nr => ?_) | ((with_reducible refine b_lst (ds := ?_) (es := ?_) ?_ ?_ ?_ ?_); rotate_left 2; (focus ((repeat (first | exact put_same | assumption | refine put_old ?_ (by assumption))); done)); (focus ((repeat (first | exact put_same | assumption | refine put_old ?_ (by assumption))); done))) | ((with_reducible refine b_rep (ds := ?_) ?_ ?_ ?_); rotate_left; (focus ((repeat (first | exact put_same | assumption | refine put_old ?_ (by assumption))); done))) | with_reducible refine f_lstT ?_ | with_reducible refine b_tup ?_ ?_ | with_reducible refine z_lenfT ?_ | with_reducible refine f_lenT ?_ | with_reducible refine i_fT ?_ ?_ | with_reducible refine z_isiI ?_ | with_reducible refine z_isiB ?_ | with_reducible refine z_isiF ?_ | with_reducible refine z_isiT ?_ | with_reducible refine z_lenF ?_)
    exact ⟨M, (Sub.refl M).put nr, h⟩
theorem c__law_is_row {ws : List Rat} {n : Int} (hG : G "_law_is_row" = sp__law_is_row) (hn : n = ws.length) (hN : ws.length ≤ 1000) (h : Q (.bl true) M) : G "_law_is_row" [.tup (fL ws), .int n] M Q := by rw [hG]; exact ⟨ws, n, rfl, hn, hN, h⟩
def sp__law_factors : DSp := fun ds M R => ∃ (r : Addr) (m : Nat) (ps : List Rat) (n : Nat), ds = [.ref r, .tup (fL ps), .int n] ∧ Pas M r m ∧ n ≤ m ∧ n ≤ 100 ∧ ps.length ≤ 20 ∧ (∀ w ∈ ps, Sz 200 w) ∧ ∀ ws : List Rat, ws.length = n + 1 → (∀ w ∈ ws, Sz 20000 w) → R (.tup (fL ws)) M
theorem ok__law_factors (h1 : G "_law_ratio" = sp_ratio) (ds M R) (h : sp__law_factors ds M R) : wBody G p__law_factors 9 ds M R := by
  obtain ⟨r0, m, ps, n, rfl, hP, hm, hn, hl, hs, h⟩ := h
  unfold p__law_factors wBody
  repeat' (first | ((with_reducible refine e_var (d := ?_) ?_ ?_); rotate_left; exact rfl) | with_reducible refine e_cons ?_ | with_reducible refine x_tup ?_ | with_reducible refine e_nil ?_ | with_reducible refine e_int ?_ | with_reducible refine e_idx ?_ | with_reducible refine e_bin ?_ | with_reducible refine b_add ?_ | with_reducible refine b_sub ?_ | with_reducible refine b_mul ?_ ?_ | with_reducible refine i_fr0 ?_ | with_reducible refine i_fr1 ?_ | with_reducible refine e_call ?_ | with_reducible refine e_callK ?_ | with_reducible refine e_bi ?_ | with_reducible refine s_seq ?_ | with_reducible refine s_asg ?_ | with_reducible refine s_ret ?_ | with_reducible refine e_cmp ?_ | with_reducible refine c_eq ?_ | with_reducible refine c_ne ?_ | with_reducible refine c_lt ?_ | with_reducible refine c_le ?_ | with_reducible refine c_gt ?_ | with_reducible refine c_ge ?_ | with_reducible refine s_ife ?_ | with_reducible refine x_ifT ?_ | with_reducible refine x_ifF ?_ | with_reducible refine x_ifNT ?_ | with_reducible refine x_ifNF ?_ | with_reducible refine x_ifd (fun hc => ?_) (fun hc => ?_) | with_reducible refine x_ifn (fun hc => ?_) (fun hc => ?_) | with_reducible refine x_if (fun hc => ?_) (fun hc => ?_) | with_reducible refine s_skip ?_ | with_reducible refine s_expr ?_ | with_reducible refine e_mt ?_ | with_reducible refine b_div ?_ ?_ | with_reducible refine b_mod ?_ ?_ | with_reducible refine b_pow ?_ ?_ | with_reducible refine e_tup ?_ | with_reducible refine x_len (by simp only [List.length_cons, List.length_nil]; decide) ?_ | with_reducible refine e_neg ?_ | with_reducible refine x_int ?_ | with_reducible refine e_bl ?_ | with_reducible refine e_non ?_ | with_reducible refine e_str ?_ | with_reducible refine e_and ?_ | with_reducible refine e_or ?_ | with_reducible refine e_not ?_ | with_reducible refine e_truth ?_ | with_reducible refine x_bl ?_ | with_reducible refine t_bl ?_ | with_reducible refine t_int ?_ | with_reducible refine t_tup ?_ | with_reducible refine t_non ?_ | with_reducible refine e_ife ?_ | with_reducible refine e_isi ?_ | with_reducible refine f_abs ?_ | with_reducible refine f_int ?_ | with_reducible refine f_gcd ?_ | with_reducible refine f_max ?_ | with_reducible refine f_min ?_ | with_reducible refine f_tupT ?_ | with_reducible refine s_for ?_ | with_reducible refine w_rng ?_ | with_reducible refine x_rng ?_ ?_ | with_reducible refine w_it ?_ | with_reducible refine x_itT ?_ | with_reducible refine s_while ?_ | with_reducible refine e_lst ?_ | with_reducible refine e_cut ?_ | with_reducible refine e_absent ?_ | with_reducible refine e_asInt ?_ | with_reducible refine x_pI ?_ | with_reducible refine x_pN ?_ | with_reducible refine e_chain ?_ | with_reducible refine e_comp ?_ | with_reducible refine e_tcomp ?_ | with_reducible refine s_brk ?_ | with_reducible refine s_cont ?_ | ((with_reducible refine m_app (ds := ?_) ?_ ?_); rotate_left; (focus ((repeat (first | exact put_same | assumption | refine put_old ?_ (by assumption))); done))) | ((with_reducible refine m_app2 (ds := ?_) ?_ ?_ ?_); rotate_left; (focus ((repeat (first | exact put_same | assumption | refine put_old ?_ (by assumption))); done))) | ((with_reducible refine z_leniL (qs := ?_) ?_ ?_); rotate_left; first | exact Or.inl put_same | assumption | exact Or.inl (by assumption) | (refine Or.inl ?_; (focus ((repeat (first | exact put_same | assumption | refine put_old ?_ (by assumption))); done))) | exact listAt_put (by assumption) (by assumption) | exact listAt_sub (by assumption) (by assumption)) | ((with_reducible refine z_lenfL (qs := ?_) ?_ ?_); rotate_left; first | exact Or.inl put_same | assumption | exact Or.inl (by assumption) | (refine Or.inl ?_; (focus ((repeat (first | exact put_same | assumption | refine put_old ?_ (by assumption))); done))) | exact listAt_put (by assumption) (by assumption) | exact listAt_sub (by assumption) (by assumption)) | ((with_reducible refine f_lenL (ds := ?_) ?_ ?_); rotate_left; first | exact Or.inl put_same | assumption | exact Or.inl (by assumption) | (refine Or.inl ?_; (focus ((repeat (first | exact put_same | assumption | refine put_old ?_ (by assumption))); done))) | exact listAt_put (by assumption) (by assumption) | exact listAt_sub (by assumption) (by assumption)) | ((with_reducible refine i_iL (ns := ?_) ?_ ?_ ?_); rotate_left; first | exact Or.inl put_same | assumption | exact Or.inl (by assumption) | (refine Or.inl ?_; (focus ((repeat (first | exact put_same | assumption | refine put_old ?_ (by assumption))); done))) | exact listAt_put (by assumption) (by assumption) | exact listAt_sub (by assumption) (by assumption)) | ((with_reducible refine i_fL (ns := ?_) ?_ ?_ ?_); rotate_left; first | exact Or.inl put_same | assumption | exact Or.inl (by assumption) | (refine Or.inl ?_; (focus ((repeat (first | exact put_same | assumption | refine put_old ?_ (by assumption))); done))) | exact listAt_put (by assumption) (by assumption) | exact listAt_sub (by assumption) (by assumption)) | ((with_reducible refine f_tupL (ds := ?_) ?_ ?_); rotate_left; first | exact Or.inl put_same | assumption | exact Or.inl (by assumption) | (refine Or.inl ?_; (focus ((repeat (first | exact put_same | assumption | refine put_old ?_ (by assumption))); done))) | exact listAt_put (by assumption) (by assumption) | exact listAt_sub (by assumption) (by assumption)) | ((with_reducible refine x_itL (ds := ?_) ?_ ?_); rotate_left; first | exact Or.inl put_same | assumption | exact Or.inl (by assumption) | (refine Or.inl ?_; (focus ((repeat (first | exact put_same | assumption | refine put_old ?_ (by assumption))); done))) | exact listAt_put (by assumption) (by assumption) | exact listAt_sub (by assumption) (by assumption)) | with_reducible refine x_new (fun r nr => ?_) | ((with_reducible refine b_lst (ds := ?_) (es := ?_) ?_ ?_ ?_ ?_); rotate_left 2; (focus ((repeat (first | exact put_same | assumption | refine put_old ?_ (by assumption))); done)); (focus ((repeat (first | exact put_same | assumption | refine put_old ?_ (by assumption))); done))) | ((with_reducible refine b_rep (ds := ?_) ?_ ?_ ?_); rotate_left; (focus ((repeat (first | exact put_same | assumption | refine put_old ?_ (by assumption))); done))) | with_reducible refine f_lstT ?_ | with_reducible refine b_tup ?_ ?_ | with_reducible refine z_lenfT ?_ | with_reducible refine f_lenT ?_ | with_reducible refine i_fT ?_ ?_ | with_reducible refine z_isiI ?_ | with_reducible refine z_isiB ?_ | with_reducible refine z_isiF ?_ | with_reducible refine z_isiT ?_ | with_reducible refine z_lenF ?_)
  · omega
  · revert nr
    revert r
    intro a na
    have hPas : ∀ x, Pas (put M a x) r0 m := fun x => hP.sub ((Sub.refl M).put na)
    refine for_rng (fun k σ M' => ∃ (ws : List Rat) (o4 o5 o6 o7 o8 : Option D), σ = [some (.ref r0), some (.tup (fL ps)), some (.int n), some (.ref a), o4, o5, o6, o7, o8] ∧ M' = put M a (.lst (fL ws)) ∧ ws.length = k ∧ ∀ w ∈ ws, Sz 20000 w) ⟨[], _, _, _, _, _, rfl, rfl, rfl, fun w hw => by cases hw⟩ ?_ ?_
    · rintro k σ M' hk ⟨ws, o4, o5, o6, o7, o8, rfl, rfl, hwl, hws⟩
      have hk' : k ≤ n := by omega
      have e0 : (0 : Int) + k = k := by omega
      rw [e0]
      repeat' (first | ((with_reducible refine e_var (d := ?_) ?_ ?_); rotate_left; exact rfl) | with_reducible refine e_cons ?_ | with_reducible refine x_tup ?_ | with_reducible refine e_nil ?_ | with_reducible refine e_int ?_ | with_reducible refine e_idx ?_ | with_reducible refine e_bin ?_ | with_reducible refine b_add ?_ | with_reducible refine b_sub ?_ | with_reducible refine b_mul ?_ ?_ | with_reducible refine i_fr0 ?_ | with_reducible refine i_fr1 ?_ | with_reducible refine e_call ?_ | with_reducible refine e_callK ?_ | with_reducible refine e_bi ?_ | with_reducible refine s_seq ?_ | with_reducible refine s_asg ?_ | with_reducible refine s_ret ?_ | with_reducible refine e_cmp ?_ | with_reducible refine c_eq ?_ | with_reducible refine c_ne ?_ | with_reducible refine c_lt ?_ | with_reducible refine c_le ?_ | with_reducible refine c_gt ?_ | with_reducible refine c_ge ?_ | with_reducible refine s_ife ?_ | with_reducible refine x_ifT ?_ | with_reducible refine x_ifF ?_ | with_reducible refine x_ifNT ?_ | with_reducible refine x_ifNF ?_ | with_reducible refine x_ifd (fun hc => ?_) (fun hc => ?_) | with_reducible refine x_ifn (fun hc => ?_) (fun hc => ?_) | with_reducible refine x_if (fun hc => ?_) (fun hc => ?_) | with_reducible refine s_skip ?_ | with_reducible refine s_expr ?_ | with_reducible refine e_mt ?_ | with_reducible refine b_div ?_ ?_ | with_reducible refine b_mod ?_ ?_ | with_reducible refine b_pow ?_ ?_ | with_reducible refine e_tup ?_ | with_reducible refine x_len (by simp only [List.length_cons, List.length_nil]; decide) ?_ | with_reducible refine e_neg ?_ | with_reducible refine x_int ?_ | with_reducible refine e_bl ?_ | with_reducible refine e_non ?_ | with_reducible refine e_str ?_ | with_reducible refine e_and ?_ | with_reducible refine e_or ?_ | with_reducible refine e_not ?_ | with_reducible refine e_truth ?_ | with_reducible refine x_bl ?_ | with_reducible refine t_bl ?_ | with_reducible refine t_int ?_ | with_reducible refine t_tup ?_ | with_reducible refine t_non ?_ | with_reducible refine e_ife ?_ | with_reducible refine e_isi ?_ | with_reducible refine f_abs ?_ | with_reducible refine f_int ?_ | with_reducible refine f_gcd ?_ | with_reducible refine f_max ?_ | with_reducible refine f_min ?_ | with_reducible refine f_tupT ?_ | with_reducible refine s_for ?_ | with_reducible refine w_rng ?_ | with_reducible refine x_rng ?_ ?_ | with_reducible refine w_it ?_ | with_reducible refine x_itT ?_ | with_reducible refine s_while ?_ | with_reducible refine e_lst ?_ | with_reducible refine e_cut ?_ | with_reducible refine e_absent ?_ | with_reducible refine e_asInt ?_ | with_reducible refine x_pI ?_ | with_reducible refine x_pN ?_ | with_reducible refine e_chain ?_ | with_reducible refine e_comp ?_ | with_reducible refine e_tcomp ?_ | with_reducible refine s_brk ?_ | with_reducible refine s_cont ?_ | ((with_reducible refine m_app (ds := ?_) ?_ ?_); rotate_left; (focus ((repeat (first | exact put_same | assumption | refine put_old ?_ (by assumption))); done))) | ((with_reducible refine m_app2 (ds := ?_) ?_ ?_ ?_); rotate_left; (focus ((repeat (first | exact put_same | assumption | refine put_old ?_ (by assumption))); done))) | ((with_reducible refine z_leniL (qs := ?_) ?_ ?_); rotate_left; first | exact Or.inl put_same | assumption | exact Or.inl (by assumption) | (refine Or.inl ?_; (focus ((repeat (first | exact put_same | assumption | refine put_old ?_ (by assumption))); done))) | exact listAt_put (by assumption) (by assumption) | exact listAt_sub (by assumption) (by assumption)) | ((with_reducible refine z_lenfL (qs := ?_) ?_ ?_); rotate_left; first | exact Or.inl put_same | assumption | exact Or.inl (by assumption) | (refine Or.inl ?_; (focus ((repeat (first | exact put_same | assumption | refine put_old ?_ (by assumption))); done))) | exact listAt_put (by assumption) (by assumption) | exact listAt_sub (by assumption) (by assumption)) | ((with_reducible refine f_lenL (ds := ?_) ?_ ?_); rotate_left; first | exact Or.inl put_same | assumption | exact Or.inl (by assumption) | (refine Or.inl ?_; (focus ((repeat (first | exact put_same | assumption | refine put_old ?_ (by assumption))); done))) | exact listAt_put (by assumption) (by assumption) | exact listAt_sub (by assumption) (by assumption)) | ((with_reducible refine i_iL (ns := ?_) ?_ ?_ ?_); rotate_left; first | exact Or.inl put_same | assumption | exact Or.inl (by assumption) | (refine Or.inl ?_; (focus ((repeat (first | exact put_same | assumption | refine put_old ?_ (by assumption))); done))) | exact listAt_put (by assumption) (by assumption) | exact listAt_sub (by assumption) (by assumption)) | ((with_reducible refine i_fL (ns := ?_) ?_ ?_ ?_); rotate_left; first | exact Or.inl put_same | assumption | exact Or.inl (by assumption) | (refine Or.inl ?_; (focus ((repeat (first | exact put_same | assumption | refine put_old ?_ (by assumption))); done))) | exact listAt_put (by assumption) (by assumption) | exact listAt_sub (by assumption) (by assumption)) | ((with_reducible refine f_tupL (ds := ?_) ?_ ?_); rotate_left; first | exact Or.inl put_same | assumption | exact Or.inl (by assumption) | (refine Or.inl ?_; (focus ((repeat (first | exact put_same | assumption | refine put_old ?_ (by assumption))); done))) | exact listAt_put (by assumption) (by assumption) | exact listAt_sub (by assumption) (by assumption)) | ((with_reducible refine x_itL (ds := ?_) ?_ ?_); rotate_left; first | exact Or.inl put_same | assumption | exact Or.inl (by assumption) | (refine Or.inl ?_; (focus ((repeat (first | exact put_same | assumption | refine put_old ?_ (by assumption))); done))) | exact listAt_put (by assumption) (by assumption) | exact listAt_sub (by assumption) (by assumption)) | with_reducible refine x_new (fun r nr => ?_) | ((with_reducible refine b_lst (ds := ?_) (es := ?_) ?_ ?_ ?_ ?_); rotate_left 2; (focus ((repeat (first | exact put_same | assumption | refine put_old ?_ (by assumption))); done)); (focus ((repeat (first | exact put_same | assumption | refine put_old ?_ (by assumption))); done))) | ((with_reducible refine b_rep (ds := ?_) ?_ ?_ ?_); rotate_left; (focus ((repeat (first | exact put_same | assumption | refine put_old ?_ (by assumption))); done))) | with_reducible refine f_lstT ?_ | with_reducible refine b_tup ?_ ?_ | with_reducible refine z_lenfT ?_ | with_reducible refine f_lenT ?_ | with_reducible refine i_fT ?_ ?_ | with_reducible refine z_isiI ?_ | with_reducible refine z_isiB ?_ | with_reducible refine z_isiF ?_ | with_reducible refine z_isiT ?_ | with_reducible refine z_lenF ?_)
      · split <;> omega
      · refine for_rng (fun j σ M' => ∃ (t b : Int) (o7 o8 : Option D), σ = [some (.ref r0), some (.tup (fL ps)), some (.int n), some (.ref a), some (.int k), some (.int t), some (.int b), o7, o8] ∧ M' = put M a (.lst (fL ws)) ∧ 0 < b ∧ Bd (400 * j + 1) b ∧ Bd (401 * j + 1) t) ⟨0, 1, _, _, rfl, rfl, by decide, by decide, by decide⟩ ?_ ?_
        · rintro j σ M' hj ⟨t, b, o7, o8, rfl, rfl, hb0, hb, ht⟩
          have hjk : j ≤ k ∧ j < ps.length := by split at hj <;> omega
          have e0 : (0 : Int) + j = j := by omega
          rw [e0]
          have sp := hs _ (getD_memR hjk.2)
          have t1 : ((k : Int)).toNat = k := by omega
          have t2 : ((n : Int)).toNat = n := by omega
          have t3 : ((j : Int)).toNat = j := by omega
          have c1 : Bd 101 (ch k j : Int) := sz_ch (by omega)
          have c2 : Bd 101 (ch n j : Int) := sz_ch (by omega)
          have hp := ch_pos (show j ≤ n by omega)
          have nz : ((ps.getD j 0).den : Int) * (ch n j : Int) ≠ 0 := Int.mul_ne_zero (den_ne _) (by omega)
          have sq : Sz 301 (Rat.divInt ((ps.getD j 0).num * (ch k j : Int)) (((ps.getD j 0).den : Int) * (ch n j : Int))) := Sz.divInt (sp.1.mul c1) (sp.2.mul c2) nz
          have hz := Nat.mul_le_mul_left 401 (show j ≤ 20 by omega)
          repeat' (first | with_reducible refine i_Pas (hPas _) ?_ (fun u lu => ?_) | with_reducible refine c__law_ratio h1 ?_ ?_ | ((with_reducible refine e_var (d := ?_) ?_ ?_); rotate_left; exact rfl) | with_reducible refine e_cons ?_ | with_reducible refine x_tup ?_ | with_reducible refine e_nil ?_ | with_reducible refine e_int ?_ | with_reducible refine e_idx ?_ | with_reducible refine e_bin ?_ | with_reducible refine b_add ?_ | with_reducible refine b_sub ?_ | with_reducible refine b_mul ?_ ?_ | with_reducible refine i_fr0 ?_ | with_reducible refine i_fr1 ?_ | with_reducible refine e_call ?_ | with_reducible refine e_callK ?_ | with_reducible refine e_bi ?_ | with_reducible refine s_seq ?_ | with_reducible refine s_asg ?_ | with_reducible refine s_ret ?_ | with_reducible refine e_cmp ?_ | with_reducible refine c_eq ?_ | with_reducible refine c_ne ?_ | with_reducible refine c_lt ?_ | with_reducible refine c_le ?_ | with_reducible refine c_gt ?_ | with_reducible refine c_ge ?_ | with_reducible refine s_ife ?_ | with_reducible refine x_ifT ?_ | with_reducible refine x_ifF ?_ | with_reducible refine x_ifNT ?_ | with_reducible refine x_ifNF ?_ | with_reducible refine x_ifd (fun hc => ?_) (fun hc => ?_) | with_reducible refine x_ifn (fun hc => ?_) (fun hc => ?_) | with_reducible refine x_if (fun hc => ?_) (fun hc => ?_) | with_reducible refine s_skip ?_ | with_reducible refine s_expr ?_ | with_reducible refine e_mt ?_ | with_reducible refine b_div ?_ ?_ | with_reducible refine b_mod ?_ ?_ | with_reducible refine b_pow ?_ ?_ | with_reducible refine e_tup ?_ | with_reducible refine x_len (by simp only [List.length_cons, List.length_nil]; decide) ?_ | with_reducible refine e_neg ?_ | with_reducible refine x_int ?_ | with_reducible refine e_bl ?_ | with_reducible refine e_non ?_ | with_reducible refine e_str ?_ | with_reducible refine e_and ?_ | with_reducible refine e_or ?_ | with_reducible refine e_not ?_ | with_reducible refine e_truth ?_ | with_reducible refine x_bl ?_ | with_reducible refine t_bl ?_ | with_reducible refine t_int ?_ | with_reducible refine t_tup ?_ | with_reducible refine t_non ?_ | with_reducible refine e_ife ?_ | with_reducible refine e_isi ?_ | with_reducible refine f_abs ?_ | with_reducible refine f_int ?_ | with_reducible refine f_gcd ?_ | with_reducible refine f_max ?_ | with_reducible refine f_min ?_ | with_reducible refine f_tupT ?_ | with_reducible refine s_for ?_ | with_reducible refine w_rng ?_ | with_reducible refine x_rng ?_ ?_ | with_reducible refine w_it ?_ | with_reducible refine x_itT ?_ | with_reducible refine s_while ?_ | with_reducible refine e_lst ?_ | with_reducible refine e_cut ?_ | with_reducible refine e_absent ?_ | with_reducible refine e_asInt ?_ | with_reducible refine x_pI ?_ | with_reducible refine x_pN ?_ | with_reducible refine e_chain ?_ | with_reducible refine e_comp ?_ | with_reducible refine e_tcomp ?_ | with_reducible refine s_brk ?_ | with_reducible refine s_cont ?_ | ((with_reducible refine m_app (ds := ?_) ?_ ?_); rotate_left; (focus ((repeat (first | exact put_same | assumption | refine put_old ?_ (by assumption))); done))) | ((with_reducible refine m_app2 (ds := ?_) ?_ ?_ ?_); rotate_left; (focus ((repeat (first | exact put_same | assumption | refine put_old ?_ (by assumption))); done))) | ((with_reducible refine z_leniL (qs := ?_) ?_ ?_); rotate_left; first | exact Or.inl put_same | assumption | exact Or.inl (by assumption) | (refine Or.inl ?_; (focus ((repeat (first | exact put_same | assumption | refine put_old ?_ (by assumption))); done))) | exact listAt_put (by assumption) (by assumption) | exact listAt_sub (by assumption) (by assumption)) | ((with_reducible refine z_lenfL (qs := ?_) ?_ ?_); rotate_left; first | exact Or.inl put_same | assumption | exact Or.inl (by assumption) | (refine Or.inl ?_; (focus ((repeat (first | exact put_same | assumption | refine put_old ?_ (by assumption))); done))) | exact listAt_put (by assumption) (by assumption) | exact listAt_sub (by assumption) (by assumption)) | ((with_reducible refine f_lenL (ds := ?_) ?_ ?_); rotate_left; first | exact Or.inl put_same | assumption | exact Or.inl (by assumption) | (refine Or.inl ?_; (focus ((repeat (first | exact put_same | assumption | refine put_old ?_ (by assumption))); done))) | exact listAt_put (by assumption) (by assumption) | exact listAt_sub (by assumption) (by assumption)) | ((with_reducible refine i_iL (ns := ?_) ?_ ?_ ?_); rotate_left; first | exact Or.inl put_same | assumption | exact Or.inl (by assumption) | (refine Or.inl ?_; (focus ((repeat (first | exact put_same | assumption | refine put_old ?_ (by assumption))); done))) | exact listAt_put (by assumption) (by assumption) | exact listAt_sub (by assumption) (by assumption)) | ((with_reducible refine i_fL (ns := ?_) ?_ ?_ ?_); rotate_left; first | exact Or.inl put_same | assumption | exact Or.inl (by assumption) | (refine Or.inl ?_; (focus ((repeat (first | exact put_same | assumption | refine put_old ?_ (by assumption))); done))) | exact listAt_put (by assumption) (by assumption) | exact listAt_sub (by assumption) (by assumption)) | ((with_reducible refine f_tupL (ds := ?_) ?_ ?_); rotate_left; first | exact Or.inl put_same | assumption | exact Or.inl (by assumption) | (refine Or.inl ?_; (focus ((repeat (first | exact put_same | assumption | refine put_old ?_ (by assumption))); done))) | exact listAt_put (by assumption) (by assumption) | exact listAt_sub (by assumption) (by assumption)) | ((with_reducible refine x_itL (ds := ?_) ?_ ?_); rotate_left; first | exact Or.inl put_same | assumption | exact Or.inl (by assumption) | (refine Or.inl ?_; (focus ((repeat (first | exact put_same | assumption | refine put_old ?_ (by assumption))); done))) | exact listAt_put (by assumption) (by assumption) | exact listAt_sub (by assumption) (by assumption)) | with_reducible refine x_new (fun r nr => ?_) | ((with_reducible refine b_lst (ds := ?_) (es := ?_) ?_ ?_ ?_ ?_); rotate_left 2; (focus ((repeat (first | exact put_same | assumption | refine put_old ?_ (by assumption))); done)); (focus ((repeat (first | exact put_same | assumption | refine put_old ?_ (by assumption))); done))) | ((with_reducible refine b_rep (ds := ?_) ?_ ?_ ?_); rotate_left; (focus ((repeat (first | exact put_same | assumption | refine put_old ?_ (by assumption))); done))) | with_reducible refine f_lstT ?_ | with_reducible refine b_tup ?_ ?_ | with_reducible refine z_lenfT ?_ | with_reducible refine f_lenT ?_ | with_reducible refine i_fT ?_ ?_ | with_reducible refine z_isiI ?_ | with_reducible refine z_isiB ?_ | with_reducible refine z_isiF ?_ | with_reducible refine z_isiT ?_ | with_reducible refine z_lenF ?_)
          · omega
          · omega
          · rw [t1, pasc_len]; omega
          · rw [t1, t3, pasc_getD (by omega)]; exact sp.1.mulOk c1 (by decide)
          · omega
          · omega
          · rw [t2, pasc_len]; omega
          · rw [t2, t3, pasc_getD (by omega)]; exact sp.2.mulOk c2 (by decide)
          · rw [t2, t3, pasc_getD (by omega)]; exact nz
          · rw [t1, t2, t3, pasc_getD (by omega), pasc_getD (by omega)]; exact ht.mulOk sq.2 (by omega)
          · rw [t1, t2, t3, pasc_getD (by omega), pasc_getD (by omega)]; exact sq.1.mulOk hb (by omega)
          · rw [t1, t2, t3, pasc_getD (by omega), pasc_getD (by omega)]; exact hb.mulOk sq.2 (by omega)
          · rw [t1, t2, t3, pasc_getD (by omega), pasc_getD (by omega)]
            refine ⟨_, Sub.refl _, _, _, _, _, rfl, rfl, Int.mul_pos hb0 (den_pos _), (hb.mul sq.2).mono (by omega), ?_⟩
            exact (((ht.mul sq.2).mono (m := 401 * j + 302) (by omega)).add ((sq.1.mul hb).mono (by omega))).mono (by omega)
        · rintro σ M' ⟨t, b, o7, o8, rfl, rfl, hb0, hb, ht⟩
          have hj : ((if (ps.length : Int) < k + 1 then (ps.length : Int) else k + 1) - 0).toNat ≤ 20 := by split <;> omega
          have b1 : Bd 8001 b := hb.mono (by omega)
          have b2 : Bd 8100 t := ht.mono (by omega)
          have b3 : Bd 20 ((n : Int) + 1) := Bd.of_lt (by omega) (by omega)
          have nz : b * ((n : Int) + 1) ≠ 0 := Int.mul_ne_zero (by omega) (by omega)
          repeat' (first | with_reducible refine c__law_ratio h1 ?_ ?_ | ((with_reducible refine e_var (d := ?_) ?_ ?_); rotate_left; exact rfl) | with_reducible refine e_cons ?_ | with_reducible refine x_tup ?_ | with_reducible refine e_nil ?_ | with_reducible refine e_int ?_ | with_reducible refine e_idx ?_ | with_reducible refine e_bin ?_ | with_reducible refine b_add ?_ | with_reducible refine b_sub ?_ | with_reducible refine b_mul ?_ ?_ | with_reducible refine i_fr0 ?_ | with_reducible refine i_fr1 ?_ | with_reducible refine e_call ?_ | with_reducible refine e_callK ?_ | with_reducible refine e_bi ?_ | with_reducible refine s_seq ?_ | with_reducible refine s_asg ?_ | with_reducible refine s_ret ?_ | with_reducible refine e_cmp ?_ | with_reducible refine c_eq ?_ | with_reducible refine c_ne ?_ | with_reducible refine c_lt ?_ | with_reducible refine c_le ?_ | with_reducible refine c_gt ?_ | with_reducible refine c_ge ?_ | with_reducible refine s_ife ?_ | with_reducible refine x_ifT ?_ | with_reducible refine x_ifF ?_ | with_reducible refine x_ifNT ?_ | with_reducible refine x_ifNF ?_ | with_reducible refine x_ifd (fun hc => ?_) (fun hc => ?_) | with_reducible refine x_ifn (fun hc => ?_) (fun hc => ?_) | with_reducible refine x_if (fun hc => ?_) (fun hc => ?_) | with_reducible refine s_skip ?_ | with_reducible refine s_expr ?_ | with_reducible refine e_mt ?_ | with_reducible refine b_div ?_ ?_ | with_reducible refine b_mod ?_ ?_ | with_reducible refine b_pow ?_ ?_ | with_reducible refine e_tup ?_ | with_reducible refine x_len (by simp only [List.length_cons, List.length_nil]; decide) ?_ | with_reducible refine e_neg ?_ | with_reducible refine x_int ?_ | with_reducible refine e_bl ?_ | with_reducible refine e_non ?_ | with_reducible refine e_str ?_ | with_reducible refine e_and ?_ | with_reducible refine e_or ?_ | with_reducible refine e_not ?_ | with_reducible refine e_truth ?_ | with_reducible refine x_bl ?_ | with_reducible refine t_bl ?_ | with_reducible refine t_int ?_ | with_reducible refine t_tup ?_ | with_reducible refine t_non ?_ | with_reducible refine e_ife ?_ | with_reducible refine e_isi ?_ | with_reducible refine f_abs ?_ | with_reducible refine f_int ?_ | with_reducible refine f_gcd ?_ | with_reducible refine f_max ?_ | with_reducible refine f_min ?_ | with_reducible refine f_tupT ?_ | with_reducible refine s_for ?_ | with_reducible refine w_rng ?_ | with_reducible refine x_rng ?_ ?_ | with_reducible refine w_it ?_ | with_reducible refine x_itT ?_ | with_reducible refine s_while ?_ | with_reducible refine e_lst ?_ | with_reducible refine e_cut ?_ | with_reducible refine e_absent ?_ | with_reducible refine e_asInt ?_ | with_reducible refine x_pI ?_ | with_reducible refine x_pN ?_ | with_reducible refine e_chain ?_ | with_reducible refine e_comp ?_ | with_reducible refine e_tcomp ?_ | with_reducible refine s_brk ?_ | with_reducible refine s_cont ?_ | ((with_reducible refine m_app (ds := ?_) ?_ ?_); rotate_left; (focus ((repeat (first | exact put_same | assumption | refine put_old ?_ (by assumption))); done))) | ((with_reducible refine m_app2 (ds := ?_) ?_ ?_ ?_); rotate_left; (focus ((repeat (first | exact put_same | assumption | refine put_old ?_ (by assumption))); done))) | ((with_reducible refine z_leniL (qs := ?_) ?_ ?_); rotate_left; first | exact Or.inl put_same | assumption | exact Or.inl (by assumption) | (refine Or.inl ?_; (focus ((repeat (first | exact put_same | assumption | refine put_old ?_ (by assumption))); done))) | exact listAt_put (by assumption) (by assumption) | exact listAt_sub (by assumption) (by assumption)) | ((with_reducible refine z_lenfL (qs := ?_) ?_ ?_); rotate_left; first | exact Or.inl put_same | assumption | exact Or.inl (by assumption) | (refine Or.inl ?_; (focus ((repeat (first | exact put_same | assumption | refine put_old ?_ (by assumption))); done))) | exact listAt_put (by assumption) (by assumption) | exact listAt_sub (by assumption) (by assumption)) | ((with_reducible refine f_lenL (ds := ?_) ?_ ?_); rotate_left; first | exact Or.inl put_same | assumption | exact Or.inl (by assumption) | (refine Or.inl ?_; (focus ((repeat (first | exact put_same | assumption | refine put_old ?_ (by assumption))); done))) | exact listAt_put (by assumption) (by assumption) | exact listAt_sub (by assumption) (by assumption)) | ((with_reducible refine i_iL (ns := ?_) ?_ ?_ ?_); rotate_left; first | exact Or.inl put_same | assumption | exact Or.inl (by assumption) | (refine Or.inl ?_; (focus ((repeat (first | exact put_same | assumption | refine put_old ?_ (by assumption))); done))) | exact listAt_put (by assumption) (by assumption) | exact listAt_sub (by assumption) (by assumption)) | ((with_reducible refine i_fL (ns := ?_) ?_ ?_ ?_); rotate_left; first | exact Or.inl put_same | assumption | exact Or.inl (by assumption) | (refine Or.inl ?_; (focus ((repeat (first | exact put_same | assumption | refine put_old ?_ (by assumption))); done))) | exact listAt_put (by assumption) (by assumption) | exact listAt_sub (by assumption) (by assumption)) | ((with_reducible refine f_tupL (ds := ?_) ?_ ?_); rotate_left; first | exact Or.inl put_same | assumption | exact Or.inl (by assumption) | (refine Or.inl ?_; (focus ((repeat (first | exact put_same | assumption | refine put_old ?_ (by assumption))); done))) | exact listAt_put (by assumption) (by assumption) | exact listAt_sub (by assumption) (by assumption)) | ((with_reducible refine x_itL (ds := ?_) ?_ ?_); rotate_left; first | exact Or.inl put_same | assumption | exact Or.inl (by assumption) | (refine Or.inl ?_; (focus ((repeat (first | exact put_same | assumption | refine put_old ?_ (by assumption))); done))) | exact listAt_put (by assumption) (by assumption) | exact listAt_sub (by assumption) (by assumption)) | with_reducible refine x_new (fun r nr => ?_) | ((with_reducible refine b_lst (ds := ?_) (es := ?_) ?_ ?_ ?_ ?_); rotate_left 2; (focus ((repeat (first | exact put_same | assumption | refine put_old ?_ (by assumption))); done)); (focus ((repeat (first | exact put_same | assumption | refine put_old ?_ (by assumption))); done))) | ((with_reducible refine b_rep (ds := ?_) ?_ ?_ ?_); rotate_left; (focus ((repeat (first | exact put_same | assumption | refine put_old ?_ (by assumption))); done))) | with_reducible refine f_lstT ?_ | with_reducible refine b_tup ?_ ?_ | with_reducible refine z_lenfT ?_ | with_reducible refine f_lenT ?_ | with_reducible refine i_fT ?_ ?_ | with_reducible refine z_isiI ?_ | with_reducible refine z_isiB ?_ | with_reducible refine z_isiF ?_ | with_reducible refine z_isiT ?_ | with_reducible refine z_lenF ?_)
          · exact b1.mulOk b3 (by decide)
          · exact nz
          · rw [fL_len]; exact big_line (by omega)
          · rw [put_put, fL_snoc]
            refine ⟨_, Sub.refl _, _, _, _, _, _, _, rfl, rfl, by simp [hwl], fun w hw => ?_⟩
            rcases List.mem_append.mp hw with hw | hw
            · exact hws w hw
            · simp at hw
              subst hw
              exact Sz.divInt (b2.mono (by omega)) ((b1.mul b3).mono (by omega)) nz
    · rintro σ M' ⟨ws, o4, o5, o6, o7, o8, rfl, rfl, hwl, hws⟩
      repeat' (first | ((with_reducible refine e_var (d := ?_) ?_ ?_); rotate_left; exact rfl) | with_reducible refine e_cons ?_ | with_reducible refine x_tup ?_ | with_reducible refine e_nil ?_ | with_reducible refine e_int ?_ | with_reducible refine e_idx ?_ | with_reducible refine e_bin ?_ | with_reducible refine b_add ?_ | with_reducible refine b_sub ?_ | with_reducible refine b_mul ?_ ?_ | with_reducible refine i_fr0 ?_ | with_reducible refine i_fr1 ?_ | with_reducible refine e_call ?_ | with_reducible refine e_callK ?_ | with_reducible refine e_bi ?_ | with_reducible refine s_seq ?_ | with_reducible refine s_asg ?_ | with_reducible refine s_ret ?_ | with_reducible refine e_cmp ?_ | with_reducible refine c_eq ?_ | with_reducible refine c_ne ?_ | with_reducible refine c_lt ?_ | with_reducible refine c_le ?_ | with_reducible refine c_gt ?_ | with_reducible refine c_ge ?_ | with_reducible refine s_ife ?_ | with_reducible refine x_ifT ?_ | with_reducible refine x_ifF ?_ | with_reducible refine x_ifNT ?_ | with_reducible refine x_ifNF ?_ | with_reducible refine x_ifd (fun hc => ?_) (fun hc => ?_) | with_reducible refine x_ifn (fun hc => ?_) (fun hc => ?_) | with_reducible refine x_if (fun hc => ?_) (fun hc => ?_) | with_reducible refine s_skip ?_ | with_reducible refine s_expr ?_ | with_reducible refine e_mt ?_ | with_reducible refine b_div ?_ ?_ | with_reducible refine b_mod ?_ ?_ | with_reducible refine b_pow ?_ ?_ | with_reducible refine e_tup ?_ | with_reducible refine x_len (by simp only [List.length_cons, List.length_nil]; decide) ?_ | with_reducible refine e_neg ?_ | with_reducible refine x_int ?_ | with_reducible refine e_bl ?_ | with_reducible refine e_non ?_ | with_reducible refine e_str ?_ | with_reducible refine e_and ?_ | with_reducible refine e_or ?_ | with_reducible refine e_not ?_ | with_reducible refine e_truth ?_ | with_reducible refine x_bl ?_ | with_reducible refine t_bl ?_ | with_reducible refine t_int ?_ | with_reducible refine t_tup ?_ | with_reducible refine t_non ?_ | with_reducible refine e_ife ?_ | with_reducible refine e_isi ?_ | with_reducible refine f_abs ?_ | with_reducible refine f_int ?_ | with_reducible refine f_gcd ?_ | with_reducible refine f_max ?_ | with_reducible refine f_min ?_ | with_reducible refine f_tupT ?_ | with_reducible refine s_for ?_ | with_reducible refine w_rng ?_ | with_reducible refine x_rng ?_ ?_ | with_reducible refine w_it ?_ | with_reducible refine x_itT ?_ | with_reducible refine s_while ?_ | with_reducible refine e_lst ?_ | with_reducible refine e_cut ?_ | with_reducible refine e_absent ?_ | with_reducible refine e_asInt ?_ | with_reducible refine x_pI ?_ | with_reducible refine x_pN ?_ | with_reducible refine e_chain ?_ | with_reducible refine e_comp ?_ | with_reducible refine e_tcomp ?_ | with_reducible refine s_brk ?_ | with_reducible refine s_cont ?_ | ((with_reducible refine m_app (ds := ?_) ?_ ?_); rotate_left; (focus ((repeat (first | exact put_same | assumption | refine put_old ?_ (by assumption))); done))) | ((with_reducible refine m_app2 (ds := ?_) ?_ ?_ ?_); rotate_left; (focus ((repeat (first | exact put_same | assumption | refine put_old ?_ (by assumption))); done))) | ((with_reducible refine z_leniL (qs := ?_) ?_ ?_); rotate_left; first | exact Or.inl put_same | assumption | exact Or.inl (by assumption) | (refine Or.inl ?_; (focus ((repeat (first | exact put_same | assumption | refine put_old ?_ (by assumption))); done))) | exact listAt_put (by assumption) (by assumption) | exact listAt_sub (by assumption) (by assumption)) | ((with_reducible refine z_lenfL (qs := ?_) ?_ ?_); rotate_left; first | exact Or.inl put_same | assumption | exact Or.inl (by assumption) | (refine Or.inl ?_; (focus ((repeat (first | exact put_same | assumption | refine put_old ?_ (by assumption))); done))) | exact listAt_put (by assumption) (by assumption) | exact listAt_sub (by assumption) (by assumption)) | ((with_reducible refine f_lenL (ds := ?_) ?_ ?_); rotate_left; first | exact Or.inl put_same | assumption | exact Or.inl (by assumption) | (refine Or.inl ?_; (focus ((repeat (first | exact put_same | assumption | refine put_old ?_ (by assumption))); done))) | exact listAt_put (by assumption) (by assumption) | exact listAt_sub (by assumption) (by assumption)) | ((with_reducible refine i_iL (ns := ?_) ?_ ?_ ?_); rotate_left; first | exact Or.inl put_same | assumption | exact Or.inl (by assumption) | (refine Or.inl ?_; (focus ((repeat (first | exact put_same | assumption | refine put_old ?_ (by assumption))); done))) | exact listAt_put (by assumption) (by assumption) | exact listAt_sub (by assumption) (by assumption)) | ((with_reducible refine i_fL (ns := ?_) ?_ ?_ ?_); rotate_left; first | exact Or.inl put_same | assumption | exact Or.inl (by assumption) | (refine Or.inl ?_; (focus ((repeat (first | exact put_same | assumption | refine put_old ?_ (by assumption))); done))) | exact listAt_put (by assumption) (by assumption) | exact listAt_sub (by assumption) (by assumption)) | ((with_reducible refine f_tupL (ds := ?_) ?_ ?_); rotate_left; first | exact Or.inl put_same | assumption | exact Or.inl (by assumption) | (refine Or.inl ?_; (focus ((repeat (first | exact put_same | assumption | refine put_old ?_ (by assumption))); done))) | exact listAt_put (by assumption) (by assumption) | exact listAt_sub (by assumption) (by assumption)) | ((with_reducible refine x_itL (ds := ?_) ?_ ?_); rotate_left; first | exact Or.inl put_same | assumption | exact Or.inl (by assumption) | (refine Or.inl ?_; (focus ((repeat (first | exact put_same | assumption | refine put_old ?_ (by assumption))); done))) | exact listAt_put (by assumption) (by assumption) | exact listAt_sub (by assumption) (by assumption)) | with_reducible refine x_new (fun r nr => ?_) | ((with_reducible refine b_lst (ds := ?_) (es := ?_) ?_ ?_ ?_ ?_); rotate_left 2; (focus ((repeat (first | exact put_same | assumption | refine put_old ?_ (by assumption))); done)); (focus ((repeat (first | exact put_same | assumption | refine put_old ?_ (by assumption))); done))) | ((with_reducible refine b_rep (ds := ?_) ?_ ?_ ?_); rotate_left; (focus ((repeat (first | exact put_same | assumption | refine put_old ?_ (by assumption))); done))) | with_reducible refine f_lstT ?_ | with_reducible refine b_tup ?_ ?_ | with_reducible refine z_lenfT ?_ | with_reducible refine f_lenT ?_ | with_reducible refine i_fT ?_ ?_ | with_reducible refine z_isiI ?_ | with_reducible refine z_isiB ?_ | with_reducible refine z_isiF ?_ | with_reducible refine z_isiT ?_ | with_reducible refine z_lenF ?_)
      exact ⟨M, (Sub.refl M).put na, h ws (by rw [hwl]; omega) hws⟩
theorem c__law_factors {r : Addr} {m n : Nat} {k : Int} {ps : List Rat} (hG : G "_law_factors" = sp__law_factors) (hk : k = n) (hP : Pas M r m) (hm : n ≤ m) (hn : n ≤ 100) (hl : ps.length ≤ 20) (hs : ∀ w ∈ ps, Sz 200 w) (h : ∀ ws : List Rat, ws.length = n + 1 → (∀ w ∈ ws, Sz 20000 w) → Q (.tup (fL ws)) M) : G "_law_factors" [.ref r, .tup (fL ps), .int k] M Q := by rw [hG, hk]; exact ⟨r, m, ps, n, rfl, hP, hm, hn, hl, hs, h⟩
def sp__law_question : DSp := fun ds M R => ∃ (c e : Int), ds = [.int c, .int e] ∧ ∀ (r : Addr) (M' : Mp) (qs : List Rat) (n : Nat), Sub M M' → listAt M' r [.tup (fL qs), .int n] → Trim qs → qs.length ≤ n + 1 → n ≤ 61 → qs.length ≤ 13 → (∀ q ∈ qs, Sz 200 q) → R (.ref r) M'
def qz : List Int := [12, 6, 7, 6, 13, 6, 6, 6, 61] ++ (List.replicate 13 [13, 9]).flatten
theorem sz_getD {qs : List Rat} {i L : Nat} (h : ∀ q ∈ qs, Sz L q) (hL : 0 < L) : Sz L (qs.getD i 0) := by
  by_cases q : i < qs.length
  · exact h _ (getD_memR q)
  · rw [getD_out (by omega)]; exact Sz.zero hL
theorem trimQ_mem {qs : List Rat} {P : Rat → Prop} (h : ∀ q ∈ qs, P q) : ∀ q ∈ trimQ qs, P q := fun q hq => h q (List.mem_of_mem_take hq)
theorem ok__law_question (h1 : G "_law_digits" = sp__law_digits) (h2 : G "_law_fraction" = sp__law_fraction) (h3 : G "_law_trim" = sp__law_trim) (ds M R) (h : sp__law_question ds M R) : wBody G p__law_question 9 ds M R := by
  obtain ⟨c, e, rfl, h⟩ := h
  unfold p__law_question wBody
  repeat' (first | ((with_reducible refine e_var (d := ?_) ?_ ?_); rotate_left; exact rfl) | with_reducible refine e_cons ?_ | with_reducible refine x_tup ?_ | with_reducible refine e_nil ?_ | with_reducible refine e_int ?_ | with_reducible refine e_idx ?_ | with_reducible refine e_bin ?_ | with_reducible refine b_add ?_ | with_reducible refine b_sub ?_ | with_reducible refine b_mul ?_ ?_ | with_reducible refine i_fr0 ?_ | with_reducible refine i_fr1 ?_ | with_reducible refine e_call ?_ | with_reducible refine e_callK ?_ | with_reducible refine e_bi ?_ | with_reducible refine s_seq ?_ | with_reducible refine s_asg ?_ | with_reducible refine s_ret ?_ | with_reducible refine e_cmp ?_ | with_reducible refine c_eq ?_ | with_reducible refine c_ne ?_ | with_reducible refine c_lt ?_ | with_reducible refine c_le ?_ | with_reducible refine c_gt ?_ | with_reducible refine c_ge ?_ | with_reducible refine x_ifT ?_ | with_reducible refine x_ifF ?_ | with_reducible refine x_ifNT ?_ | with_reducible refine x_ifNF ?_ | with_reducible refine x_ifd (fun hc => ?_) (fun hc => ?_) | with_reducible refine x_ifn (fun hc => ?_) (fun hc => ?_) | with_reducible refine x_if (fun hc => ?_) (fun hc => ?_) | with_reducible refine s_skip ?_ | with_reducible refine s_expr ?_ | with_reducible refine e_mt ?_ | with_reducible refine b_div ?_ ?_ | with_reducible refine b_mod ?_ ?_ | with_reducible refine b_pow ?_ ?_ | with_reducible refine e_tup ?_ | with_reducible refine x_len (by simp only [List.length_cons, List.length_nil]; decide) ?_ | with_reducible refine e_neg ?_ | with_reducible refine x_int ?_ | with_reducible refine e_bl ?_ | with_reducible refine e_non ?_ | with_reducible refine e_str ?_ | with_reducible refine e_and ?_ | with_reducible refine e_or ?_ | with_reducible refine e_not ?_ | with_reducible refine e_truth ?_ | with_reducible refine x_bl ?_ | with_reducible refine t_bl ?_ | with_reducible refine t_int ?_ | with_reducible refine t_tup ?_ | with_reducible refine t_non ?_ | with_reducible refine e_ife ?_ | with_reducible refine e_isi ?_ | with_reducible refine f_abs ?_ | with_reducible refine f_int ?_ | with_reducible refine f_gcd ?_ | with_reducible refine f_max ?_ | with_reducible refine f_min ?_ | with_reducible refine f_tupT ?_ | with_reducible refine s_for ?_ | with_reducible refine w_rng ?_ | with_reducible refine x_rng ?_ ?_ | with_reducible refine w_it ?_ | with_reducible refine x_itT ?_ | with_reducible refine s_while ?_ | with_reducible refine e_lst ?_ | with_reducible refine e_cut ?_ | with_reducible refine e_absent ?_ | with_reducible refine e_asInt ?_ | with_reducible refine x_pI ?_ | with_reducible refine x_pN ?_ | with_reducible refine e_chain ?_ | with_reducible refine e_comp ?_ | with_reducible refine e_tcomp ?_ | with_reducible refine s_brk ?_ | with_reducible refine s_cont ?_ | ((with_reducible refine m_app (ds := ?_) ?_ ?_); rotate_left; (focus ((repeat (first | exact put_same | assumption | refine put_old ?_ (by assumption))); done))) | ((with_reducible refine m_app2 (ds := ?_) ?_ ?_ ?_); rotate_left; (focus ((repeat (first | exact put_same | assumption | refine put_old ?_ (by assumption))); done))) | ((with_reducible refine z_leniL (qs := ?_) ?_ ?_); rotate_left; first | exact Or.inl put_same | assumption | exact Or.inl (by assumption) | (refine Or.inl ?_; (focus ((repeat (first | exact put_same | assumption | refine put_old ?_ (by assumption))); done))) | exact listAt_put (by assumption) (by assumption) | exact listAt_sub (by assumption) (by assumption)) | ((with_reducible refine z_lenfL (qs := ?_) ?_ ?_); rotate_left; first | exact Or.inl put_same | assumption | exact Or.inl (by assumption) | (refine Or.inl ?_; (focus ((repeat (first | exact put_same | assumption | refine put_old ?_ (by assumption))); done))) | exact listAt_put (by assumption) (by assumption) | exact listAt_sub (by assumption) (by assumption)) | ((with_reducible refine f_lenL (ds := ?_) ?_ ?_); rotate_left; first | exact Or.inl put_same | assumption | exact Or.inl (by assumption) | (refine Or.inl ?_; (focus ((repeat (first | exact put_same | assumption | refine put_old ?_ (by assumption))); done))) | exact listAt_put (by assumption) (by assumption) | exact listAt_sub (by assumption) (by assumption)) | ((with_reducible refine i_iL (ns := ?_) ?_ ?_ ?_); rotate_left; first | exact Or.inl put_same | assumption | exact Or.inl (by assumption) | (refine Or.inl ?_; (focus ((repeat (first | exact put_same | assumption | refine put_old ?_ (by assumption))); done))) | exact listAt_put (by assumption) (by assumption) | exact listAt_sub (by assumption) (by assumption)) | ((with_reducible refine i_fL (ns := ?_) ?_ ?_ ?_); rotate_left; first | exact Or.inl put_same | assumption | exact Or.inl (by assumption) | (refine Or.inl ?_; (focus ((repeat (first | exact put_same | assumption | refine put_old ?_ (by assumption))); done))) | exact listAt_put (by assumption) (by assumption) | exact listAt_sub (by assumption) (by assumption)) | ((with_reducible refine f_tupL (ds := ?_) ?_ ?_); rotate_left; first | exact Or.inl put_same | assumption | exact Or.inl (by assumption) | (refine Or.inl ?_; (focus ((repeat (first | exact put_same | assumption | refine put_old ?_ (by assumption))); done))) | exact listAt_put (by assumption) (by assumption) | exact listAt_sub (by assumption) (by assumption)) | ((with_reducible refine x_itL (ds := ?_) ?_ ?_); rotate_left; first | exact Or.inl put_same | assumption | exact Or.inl (by assumption) | (refine Or.inl ?_; (focus ((repeat (first | exact put_same | assumption | refine put_old ?_ (by assumption))); done))) | exact listAt_put (by assumption) (by assumption) | exact listAt_sub (by assumption) (by assumption)) | with_reducible refine x_new (fun r nr => ?_) | ((with_reducible refine b_lst (ds := ?_) (es := ?_) ?_ ?_ ?_ ?_); rotate_left 2; (focus ((repeat (first | exact put_same | assumption | refine put_old ?_ (by assumption))); done)); (focus ((repeat (first | exact put_same | assumption | refine put_old ?_ (by assumption))); done))) | ((with_reducible refine b_rep (ds := ?_) ?_ ?_ ?_); rotate_left; (focus ((repeat (first | exact put_same | assumption | refine put_old ?_ (by assumption))); done))) | with_reducible refine f_lstT ?_ | with_reducible refine b_tup ?_ ?_ | with_reducible refine z_lenfT ?_ | with_reducible refine f_lenT ?_ | with_reducible refine i_fT ?_ ?_ | with_reducible refine z_isiI ?_ | with_reducible refine z_isiB ?_ | with_reducible refine z_isiF ?_ | with_reducible refine z_isiT ?_ | with_reducible refine z_lenF ?_)
  · decide
  · decide
  · rename_i a na b nb d nd
    refine c__law_digits h1 (zs := qz) (.inl (put_same.trans rfl)) (by decide) (by decide) fun q ns nq hd => ?_
    have hlen : ns.length = 35 := hd.1
    have s4 := fun o => sub_new (o := o) (sub_new (o := .lst ((List.replicate (Int.toNat 13) [D.int 13, D.int 9]).flatten)) (sub_new (o := .lst [D.int 13, D.int 9]) (sub_new (Sub.refl M) na) nb) nd) nr
    have sb := fun o => sub_new (o := o) (s4 _) nq
    have sb := sb (.lst (iL ns))
    have lq := (.inl put_same : listAt (put (put (put (put (put M a (.lst [D.int 12, D.int 6, D.int 7, D.int 6, D.int 13, D.int 6, D.int 6, D.int 6, D.int 61])) b (.lst [D.int 13, D.int 9])) d (.lst (List.replicate (Int.toNat 13) [D.int 13, D.int 9]).flatten)) r (.lst ([D.int 12, D.int 6, D.int 7, D.int 6, D.int 13, D.int 6, D.int 6, D.int 6, D.int 61] ++ (List.replicate (Int.toNat 13) [D.int 13, D.int 9]).flatten))) q (.lst (iL ns))) q (iL ns))
    clear nq s4
    generalize put (put (put (put (put M a (.lst [D.int 12, D.int 6, D.int 7, D.int 6, D.int 13, D.int 6, D.int 6, D.int 6, D.int 61])) b (.lst [D.int 13, D.int 9])) d (.lst (List.replicate (Int.toNat 13) [D.int 13, D.int 9]).flatten)) r (.lst ([D.int 12, D.int 6, D.int 7, D.int 6, D.int 13, D.int 6, D.int 6, D.int 6, D.int 61] ++ (List.replicate (Int.toNat 13) [D.int 13, D.int 9]).flatten))) q (.lst (iL ns)) = M1 at sb lq ⊢
    clear nr nd nb na
    have big : ∀ i : Nat, i < 35 → qz.getD i 0 ≤ 61 := by decide
    have dg : ∀ i : Nat, i < 35 → 0 ≤ ns.getD i 0 ∧ ns.getD i 0 < 100 := fun i hi => ⟨(hd.2 i hi).1, by have := (hd.2 i hi).2; have := big i hi; omega⟩
    have d2 : 0 ≤ ns.getD 2 0 ∧ ns.getD 2 0 < 7 := hd.2 2 (by decide)
    have d4 : 0 ≤ ns.getD 4 0 ∧ ns.getD 4 0 < 13 := hd.2 4 (by decide)
    have d6 : 0 ≤ ns.getD 6 0 ∧ ns.getD 6 0 < 6 := hd.2 6 (by decide)
    have d8 : 0 ≤ ns.getD 8 0 ∧ ns.getD 8 0 < 61 := hd.2 8 (by decide)
    repeat' (first | ((with_reducible refine e_var (d := ?_) ?_ ?_); rotate_left; exact rfl) | with_reducible refine e_cons ?_ | with_reducible refine x_tup ?_ | with_reducible refine e_nil ?_ | with_reducible refine e_int ?_ | with_reducible refine e_idx ?_ | with_reducible refine e_bin ?_ | with_reducible refine b_add ?_ | with_reducible refine b_sub ?_ | with_reducible refine b_mul ?_ ?_ | with_reducible refine i_fr0 ?_ | with_reducible refine i_fr1 ?_ | with_reducible refine e_call ?_ | with_reducible refine e_callK ?_ | with_reducible refine e_bi ?_ | with_reducible refine s_seq ?_ | with_reducible refine s_asg ?_ | with_reducible refine s_ret ?_ | with_reducible refine e_cmp ?_ | with_reducible refine c_eq ?_ | with_reducible refine c_ne ?_ | with_reducible refine c_lt ?_ | with_reducible refine c_le ?_ | with_reducible refine c_gt ?_ | with_reducible refine c_ge ?_ | with_reducible refine x_ifT ?_ | with_reducible refine x_ifF ?_ | with_reducible refine x_ifNT ?_ | with_reducible refine x_ifNF ?_ | with_reducible refine x_ifd (fun hc => ?_) (fun hc => ?_) | with_reducible refine x_ifn (fun hc => ?_) (fun hc => ?_) | with_reducible refine x_if (fun hc => ?_) (fun hc => ?_) | with_reducible refine s_skip ?_ | with_reducible refine s_expr ?_ | with_reducible refine e_mt ?_ | with_reducible refine b_div ?_ ?_ | with_reducible refine b_mod ?_ ?_ | with_reducible refine b_pow ?_ ?_ | with_reducible refine e_tup ?_ | with_reducible refine x_len (by simp only [List.length_cons, List.length_nil]; decide) ?_ | with_reducible refine e_neg ?_ | with_reducible refine x_int ?_ | with_reducible refine e_bl ?_ | with_reducible refine e_non ?_ | with_reducible refine e_str ?_ | with_reducible refine e_and ?_ | with_reducible refine e_or ?_ | with_reducible refine e_not ?_ | with_reducible refine e_truth ?_ | with_reducible refine x_bl ?_ | with_reducible refine t_bl ?_ | with_reducible refine t_int ?_ | with_reducible refine t_tup ?_ | with_reducible refine t_non ?_ | with_reducible refine e_ife ?_ | with_reducible refine e_isi ?_ | with_reducible refine f_abs ?_ | with_reducible refine f_int ?_ | with_reducible refine f_gcd ?_ | with_reducible refine f_max ?_ | with_reducible refine f_min ?_ | with_reducible refine f_tupT ?_ | with_reducible refine s_for ?_ | with_reducible refine w_rng ?_ | with_reducible refine x_rng ?_ ?_ | with_reducible refine w_it ?_ | with_reducible refine x_itT ?_ | with_reducible refine s_while ?_ | with_reducible refine e_lst ?_ | with_reducible refine e_cut ?_ | with_reducible refine e_absent ?_ | with_reducible refine e_asInt ?_ | with_reducible refine x_pI ?_ | with_reducible refine x_pN ?_ | with_reducible refine e_chain ?_ | with_reducible refine e_comp ?_ | with_reducible refine e_tcomp ?_ | with_reducible refine s_brk ?_ | with_reducible refine s_cont ?_ | ((with_reducible refine m_app (ds := ?_) ?_ ?_); rotate_left; (focus ((repeat (first | exact put_same | assumption | refine put_old ?_ (by assumption))); done))) | ((with_reducible refine m_app2 (ds := ?_) ?_ ?_ ?_); rotate_left; (focus ((repeat (first | exact put_same | assumption | refine put_old ?_ (by assumption))); done))) | ((with_reducible refine z_leniL (qs := ?_) ?_ ?_); rotate_left; first | exact Or.inl put_same | assumption | exact Or.inl (by assumption) | (refine Or.inl ?_; (focus ((repeat (first | exact put_same | assumption | refine put_old ?_ (by assumption))); done))) | exact listAt_put (by assumption) (by assumption) | exact listAt_sub (by assumption) (by assumption)) | ((with_reducible refine z_lenfL (qs := ?_) ?_ ?_); rotate_left; first | exact Or.inl put_same | assumption | exact Or.inl (by assumption) | (refine Or.inl ?_; (focus ((repeat (first | exact put_same | assumption | refine put_old ?_ (by assumption))); done))) | exact listAt_put (by assumption) (by assumption) | exact listAt_sub (by assumption) (by assumption)) | ((with_reducible refine f_lenL (ds := ?_) ?_ ?_); rotate_left; first | exact Or.inl put_same | assumption | exact Or.inl (by assumption) | (refine Or.inl ?_; (focus ((repeat (first | exact put_same | assumption | refine put_old ?_ (by assumption))); done))) | exact listAt_put (by assumption) (by assumption) | exact listAt_sub (by assumption) (by assumption)) | ((with_reducible refine i_iL (ns := ?_) ?_ ?_ ?_); rotate_left; first | exact Or.inl put_same | assumption | exact Or.inl (by assumption) | (refine Or.inl ?_; (focus ((repeat (first | exact put_same | assumption | refine put_old ?_ (by assumption))); done))) | exact listAt_put (by assumption) (by assumption) | exact listAt_sub (by assumption) (by assumption)) | ((with_reducible refine i_fL (ns := ?_) ?_ ?_ ?_); rotate_left; first | exact Or.inl put_same | assumption | exact Or.inl (by assumption) | (refine Or.inl ?_; (focus ((repeat (first | exact put_same | assumption | refine put_old ?_ (by assumption))); done))) | exact listAt_put (by assumption) (by assumption) | exact listAt_sub (by assumption) (by assumption)) | ((with_reducible refine f_tupL (ds := ?_) ?_ ?_); rotate_left; first | exact Or.inl put_same | assumption | exact Or.inl (by assumption) | (refine Or.inl ?_; (focus ((repeat (first | exact put_same | assumption | refine put_old ?_ (by assumption))); done))) | exact listAt_put (by assumption) (by assumption) | exact listAt_sub (by assumption) (by assumption)) | ((with_reducible refine x_itL (ds := ?_) ?_ ?_); rotate_left; first | exact Or.inl put_same | assumption | exact Or.inl (by assumption) | (refine Or.inl ?_; (focus ((repeat (first | exact put_same | assumption | refine put_old ?_ (by assumption))); done))) | exact listAt_put (by assumption) (by assumption) | exact listAt_sub (by assumption) (by assumption)) | with_reducible refine x_new (fun r nr => ?_) | ((with_reducible refine b_lst (ds := ?_) (es := ?_) ?_ ?_ ?_ ?_); rotate_left 2; (focus ((repeat (first | exact put_same | assumption | refine put_old ?_ (by assumption))); done)); (focus ((repeat (first | exact put_same | assumption | refine put_old ?_ (by assumption))); done))) | ((with_reducible refine b_rep (ds := ?_) ?_ ?_ ?_); rotate_left; (focus ((repeat (first | exact put_same | assumption | refine put_old ?_ (by assumption))); done))) | with_reducible refine f_lstT ?_ | with_reducible refine b_tup ?_ ?_ | with_reducible refine z_lenfT ?_ | with_reducible refine f_lenT ?_ | with_reducible refine i_fT ?_ ?_ | with_reducible refine z_isiI ?_ | with_reducible refine z_isiB ?_ | with_reducible refine z_isiF ?_ | with_reducible refine z_isiT ?_ | with_reducible refine z_lenF ?_)
    · omega
    refine s_join (fun σ M' => M' = M1 ∧ ∃ sz : Int, σ = [some (.int c), some (.int e), some (.ref q), some (.int sz), none, none, none, none, none] ∧ 1 ≤ sz ∧ sz ≤ 13) ?_ ?_
    · repeat' (first | ((with_reducible refine e_var (d := ?_) ?_ ?_); rotate_left; exact rfl) | with_reducible refine e_cons ?_ | with_reducible refine x_tup ?_ | with_reducible refine e_nil ?_ | with_reducible refine e_int ?_ | with_reducible refine e_idx ?_ | with_reducible refine e_bin ?_ | with_reducible refine b_add ?_ | with_reducible refine b_sub ?_ | with_reducible refine b_mul ?_ ?_ | with_reducible refine i_fr0 ?_ | with_reducible refine i_fr1 ?_ | with_reducible refine e_call ?_ | with_reducible refine e_callK ?_ | with_reducible refine e_bi ?_ | with_reducible refine s_seq ?_ | with_reducible refine s_asg ?_ | with_reducible refine s_ret ?_ | with_reducible refine e_cmp ?_ | with_reducible refine c_eq ?_ | with_reducible refine c_ne ?_ | with_reducible refine c_lt ?_ | with_reducible refine c_le ?_ | with_reducible refine c_gt ?_ | with_reducible refine c_ge ?_ | with_reducible refine s_ife ?_ | with_reducible refine x_ifT ?_ | with_reducible refine x_ifF ?_ | with_reducible refine x_ifNT ?_ | with_reducible refine x_ifNF ?_ | with_reducible refine x_ifd (fun hc => ?_) (fun hc => ?_) | with_reducible refine x_ifn (fun hc => ?_) (fun hc => ?_) | with_reducible refine x_if (fun hc => ?_) (fun hc => ?_) | with_reducible refine s_skip ?_ | with_reducible refine s_expr ?_ | with_reducible refine e_mt ?_ | with_reducible refine b_div ?_ ?_ | with_reducible refine b_mod ?_ ?_ | with_reducible refine b_pow ?_ ?_ | with_reducible refine e_tup ?_ | with_reducible refine x_len (by simp only [List.length_cons, List.length_nil]; decide) ?_ | with_reducible refine e_neg ?_ | with_reducible refine x_int ?_ | with_reducible refine e_bl ?_ | with_reducible refine e_non ?_ | with_reducible refine e_str ?_ | with_reducible refine e_and ?_ | with_reducible refine e_or ?_ | with_reducible refine e_not ?_ | with_reducible refine e_truth ?_ | with_reducible refine x_bl ?_ | with_reducible refine t_bl ?_ | with_reducible refine t_int ?_ | with_reducible refine t_tup ?_ | with_reducible refine t_non ?_ | with_reducible refine e_ife ?_ | with_reducible refine e_isi ?_ | with_reducible refine f_abs ?_ | with_reducible refine f_int ?_ | with_reducible refine f_gcd ?_ | with_reducible refine f_max ?_ | with_reducible refine f_min ?_ | with_reducible refine f_tupT ?_ | with_reducible refine s_for ?_ | with_reducible refine w_rng ?_ | with_reducible refine x_rng ?_ ?_ | with_reducible refine w_it ?_ | with_reducible refine x_itT ?_ | with_reducible refine s_while ?_ | with_reducible refine e_lst ?_ | with_reducible refine e_cut ?_ | with_reducible refine e_absent ?_ | with_reducible refine e_asInt ?_ | with_reducible refine x_pI ?_ | with_reducible refine x_pN ?_ | with_reducible refine e_chain ?_ | with_reducible refine e_comp ?_ | with_reducible refine e_tcomp ?_ | with_reducible refine s_brk ?_ | with_reducible refine s_cont ?_ | ((with_reducible refine m_app (ds := ?_) ?_ ?_); rotate_left; (focus ((repeat (first | exact put_same | assumption | refine put_old ?_ (by assumption))); done))) | ((with_reducible refine m_app2 (ds := ?_) ?_ ?_ ?_); rotate_left; (focus ((repeat (first | exact put_same | assumption | refine put_old ?_ (by assumption))); done))) | ((with_reducible refine z_leniL (qs := ?_) ?_ ?_); rotate_left; first | exact Or.inl put_same | assumption | exact Or.inl (by assumption) | (refine Or.inl ?_; (focus ((repeat (first | exact put_same | assumption | refine put_old ?_ (by assumption))); done))) | exact listAt_put (by assumption) (by assumption) | exact listAt_sub (by assumption) (by assumption)) | ((with_reducible refine z_lenfL (qs := ?_) ?_ ?_); rotate_left; first | exact Or.inl put_same | assumption | exact Or.inl (by assumption) | (refine Or.inl ?_; (focus ((repeat (first | exact put_same | assumption | refine put_old ?_ (by assumption))); done))) | exact listAt_put (by assumption) (by assumption) | exact listAt_sub (by assumption) (by assumption)) | ((with_reducible refine f_lenL (ds := ?_) ?_ ?_); rotate_left; first | exact Or.inl put_same | assumption | exact Or.inl (by assumption) | (refine Or.inl ?_; (focus ((repeat (first | exact put_same | assumption | refine put_old ?_ (by assumption))); done))) | exact listAt_put (by assumption) (by assumption) | exact listAt_sub (by assumption) (by assumption)) | ((with_reducible refine i_iL (ns := ?_) ?_ ?_ ?_); rotate_left; first | exact Or.inl put_same | assumption | exact Or.inl (by assumption) | (refine Or.inl ?_; (focus ((repeat (first | exact put_same | assumption | refine put_old ?_ (by assumption))); done))) | exact listAt_put (by assumption) (by assumption) | exact listAt_sub (by assumption) (by assumption)) | ((with_reducible refine i_fL (ns := ?_) ?_ ?_ ?_); rotate_left; first | exact Or.inl put_same | assumption | exact Or.inl (by assumption) | (refine Or.inl ?_; (focus ((repeat (first | exact put_same | assumption | refine put_old ?_ (by assumption))); done))) | exact listAt_put (by assumption) (by assumption) | exact listAt_sub (by assumption) (by assumption)) | ((with_reducible refine f_tupL (ds := ?_) ?_ ?_); rotate_left; first | exact Or.inl put_same | assumption | exact Or.inl (by assumption) | (refine Or.inl ?_; (focus ((repeat (first | exact put_same | assumption | refine put_old ?_ (by assumption))); done))) | exact listAt_put (by assumption) (by assumption) | exact listAt_sub (by assumption) (by assumption)) | ((with_reducible refine x_itL (ds := ?_) ?_ ?_); rotate_left; first | exact Or.inl put_same | assumption | exact Or.inl (by assumption) | (refine Or.inl ?_; (focus ((repeat (first | exact put_same | assumption | refine put_old ?_ (by assumption))); done))) | exact listAt_put (by assumption) (by assumption) | exact listAt_sub (by assumption) (by assumption)) | with_reducible refine x_new (fun r nr => ?_) | ((with_reducible refine b_lst (ds := ?_) (es := ?_) ?_ ?_ ?_ ?_); rotate_left 2; (focus ((repeat (first | exact put_same | assumption | refine put_old ?_ (by assumption))); done)); (focus ((repeat (first | exact put_same | assumption | refine put_old ?_ (by assumption))); done))) | ((with_reducible refine b_rep (ds := ?_) ?_ ?_ ?_); rotate_left; (focus ((repeat (first | exact put_same | assumption | refine put_old ?_ (by assumption))); done))) | with_reducible refine f_lstT ?_ | with_reducible refine b_tup ?_ ?_ | with_reducible refine z_lenfT ?_ | with_reducible refine f_lenT ?_ | with_reducible refine i_fT ?_ ?_ | with_reducible refine z_isiI ?_ | with_reducible refine z_isiB ?_ | with_reducible refine z_isiF ?_ | with_reducible refine z_isiT ?_ | with_reducible refine z_lenF ?_)
      · omega
      · omega
      · exact ⟨rfl, _, rfl, by have : ((4 : Int)).toNat = 4 := rfl; rw [this]; omega, by have : ((4 : Int)).toNat = 4 := rfl; rw [this]; omega⟩
      · exact ⟨rfl, _, rfl, by have : ((2 : Int)).toNat = 2 := rfl; rw [this]; omega, by have : ((2 : Int)).toNat = 2 := rfl; rw [this]; omega⟩
    rintro σ M' ⟨rfl, sz, rfl, z1, z2⟩
    repeat' (first | ((with_reducible refine e_var (d := ?_) ?_ ?_); rotate_left; exact rfl) | with_reducible refine e_cons ?_ | with_reducible refine x_tup ?_ | with_reducible refine e_nil ?_ | with_reducible refine e_int ?_ | with_reducible refine e_idx ?_ | with_reducible refine e_bin ?_ | with_reducible refine b_add ?_ | with_reducible refine b_sub ?_ | with_reducible refine b_mul ?_ ?_ | with_reducible refine i_fr0 ?_ | with_reducible refine i_fr1 ?_ | with_reducible refine e_call ?_ | with_reducible refine e_callK ?_ | with_reducible refine e_bi ?_ | with_reducible refine s_seq ?_ | with_reducible refine s_asg ?_ | with_reducible refine s_ret ?_ | with_reducible refine e_cmp ?_ | with_reducible refine c_eq ?_ | with_reducible refine c_ne ?_ | with_reducible refine c_lt ?_ | with_reducible refine c_le ?_ | with_reducible refine c_gt ?_ | with_reducible refine c_ge ?_ | with_reducible refine x_ifT ?_ | with_reducible refine x_ifF ?_ | with_reducible refine x_ifNT ?_ | with_reducible refine x_ifNF ?_ | with_reducible refine x_ifd (fun hc => ?_) (fun hc => ?_) | with_reducible refine x_ifn (fun hc => ?_) (fun hc => ?_) | with_reducible refine x_if (fun hc => ?_) (fun hc => ?_) | with_reducible refine s_skip ?_ | with_reducible refine s_expr ?_ | with_reducible refine e_mt ?_ | with_reducible refine b_div ?_ ?_ | with_reducible refine b_mod ?_ ?_ | with_reducible refine b_pow ?_ ?_ | with_reducible refine e_tup ?_ | with_reducible refine x_len (by simp only [List.length_cons, List.length_nil]; decide) ?_ | with_reducible refine e_neg ?_ | with_reducible refine x_int ?_ | with_reducible refine e_bl ?_ | with_reducible refine e_non ?_ | with_reducible refine e_str ?_ | with_reducible refine e_and ?_ | with_reducible refine e_or ?_ | with_reducible refine e_not ?_ | with_reducible refine e_truth ?_ | with_reducible refine x_bl ?_ | with_reducible refine t_bl ?_ | with_reducible refine t_int ?_ | with_reducible refine t_tup ?_ | with_reducible refine t_non ?_ | with_reducible refine e_ife ?_ | with_reducible refine e_isi ?_ | with_reducible refine f_abs ?_ | with_reducible refine f_int ?_ | with_reducible refine f_gcd ?_ | with_reducible refine f_max ?_ | with_reducible refine f_min ?_ | with_reducible refine f_tupT ?_ | with_reducible refine s_for ?_ | with_reducible refine w_rng ?_ | with_reducible refine x_rng ?_ ?_ | with_reducible refine w_it ?_ | with_reducible refine x_itT ?_ | with_reducible refine s_while ?_ | with_reducible refine e_lst ?_ | with_reducible refine e_cut ?_ | with_reducible refine e_absent ?_ | with_reducible refine e_asInt ?_ | with_reducible refine x_pI ?_ | with_reducible refine x_pN ?_ | with_reducible refine e_chain ?_ | with_reducible refine e_comp ?_ | with_reducible refine e_tcomp ?_ | with_reducible refine s_brk ?_ | with_reducible refine s_cont ?_ | ((with_reducible refine m_app (ds := ?_) ?_ ?_); rotate_left; (focus ((repeat (first | exact put_same | assumption | refine put_old ?_ (by assumption))); done))) | ((with_reducible refine m_app2 (ds := ?_) ?_ ?_ ?_); rotate_left; (focus ((repeat (first | exact put_same | assumption | refine put_old ?_ (by assumption))); done))) | ((with_reducible refine z_leniL (qs := ?_) ?_ ?_); rotate_left; first | exact Or.inl put_same | assumption | exact Or.inl (by assumption) | (refine Or.inl ?_; (focus ((repeat (first | exact put_same | assumption | refine put_old ?_ (by assumption))); done))) | exact listAt_put (by assumption) (by assumption) | exact listAt_sub (by assumption) (by assumption)) | ((with_reducible refine z_lenfL (qs := ?_) ?_ ?_); rotate_left; first | exact Or.inl put_same | assumption | exact Or.inl (by assumption) | (refine Or.inl ?_; (focus ((repeat (first | exact put_same | assumption | refine put_old ?_ (by assumption))); done))) | exact listAt_put (by assumption) (by assumption) | exact listAt_sub (by assumption) (by assumption)) | ((with_reducible refine f_lenL (ds := ?_) ?_ ?_); rotate_left; first | exact Or.inl put_same | assumption | exact Or.inl (by assumption) | (refine Or.inl ?_; (focus ((repeat (first | exact put_same | assumption | refine put_old ?_ (by assumption))); done))) | exact listAt_put (by assumption) (by assumption) | exact listAt_sub (by assumption) (by assumption)) | ((with_reducible refine i_iL (ns := ?_) ?_ ?_ ?_); rotate_left; first | exact Or.inl put_same | assumption | exact Or.inl (by assumption) | (refine Or.inl ?_; (focus ((repeat (first | exact put_same | assumption | refine put_old ?_ (by assumption))); done))) | exact listAt_put (by assumption) (by assumption) | exact listAt_sub (by assumption) (by assumption)) | ((with_reducible refine i_fL (ns := ?_) ?_ ?_ ?_); rotate_left; first | exact Or.inl put_same | assumption | exact Or.inl (by assumption) | (refine Or.inl ?_; (focus ((repeat (first | exact put_same | assumption | refine put_old ?_ (by assumption))); done))) | exact listAt_put (by assumption) (by assumption) | exact listAt_sub (by assumption) (by assumption)) | ((with_reducible refine f_tupL (ds := ?_) ?_ ?_); rotate_left; first | exact Or.inl put_same | assumption | exact Or.inl (by assumption) | (refine Or.inl ?_; (focus ((repeat (first | exact put_same | assumption | refine put_old ?_ (by assumption))); done))) | exact listAt_put (by assumption) (by assumption) | exact listAt_sub (by assumption) (by assumption)) | ((with_reducible refine x_itL (ds := ?_) ?_ ?_); rotate_left; first | exact Or.inl put_same | assumption | exact Or.inl (by assumption) | (refine Or.inl ?_; (focus ((repeat (first | exact put_same | assumption | refine put_old ?_ (by assumption))); done))) | exact listAt_put (by assumption) (by assumption) | exact listAt_sub (by assumption) (by assumption)) | with_reducible refine x_new (fun r nr => ?_) | ((with_reducible refine b_lst (ds := ?_) (es := ?_) ?_ ?_ ?_ ?_); rotate_left 2; (focus ((repeat (first | exact put_same | assumption | refine put_old ?_ (by assumption))); done)); (focus ((repeat (first | exact put_same | assumption | refine put_old ?_ (by assumption))); done))) | ((with_reducible refine b_rep (ds := ?_) ?_ ?_ ?_); rotate_left; (focus ((repeat (first | exact put_same | assumption | refine put_old ?_ (by assumption))); done))) | with_reducible refine f_lstT ?_ | with_reducible refine b_tup ?_ ?_ | with_reducible refine z_lenfT ?_ | with_reducible refine f_lenT ?_ | with_reducible refine i_fT ?_ ?_ | with_reducible refine z_isiI ?_ | with_reducible refine z_isiB ?_ | with_reducible refine z_isiF ?_ | with_reducible refine z_isiT ?_ | with_reducible refine z_lenF ?_)
    refine s_join (fun σ M'' => M'' = M' ∧ ∃ sz g : Int, σ = [some (.int c), some (.int e), some (.ref q), some (.int sz), some (.int g), none, none, none, none] ∧ 1 ≤ sz ∧ sz ≤ 13 ∧ 0 ≤ g ∧ g ≤ 10 ^ 28) ?_ ?_
    · have p28 : (10 : Int) ^ (28 : Int).toNat = 10000000000000000000000000000 := by decide
      have p28' : (10 : Int) ^ 28 = 10000000000000000000000000000 := by decide
      have f1 := Int.fmod_nonneg_of_pos e (b := (10 : Int) ^ (28 : Int).toNat) (by decide)
      have f2 := Int.fmod_lt_of_pos e (b := (10 : Int) ^ (28 : Int).toNat) (by decide)
      rw [p28] at f1 f2
      repeat' (first | ((with_reducible refine e_var (d := ?_) ?_ ?_); rotate_left; exact rfl) | with_reducible refine e_cons ?_ | with_reducible refine x_tup ?_ | with_reducible refine e_nil ?_ | with_reducible refine e_int ?_ | with_reducible refine e_idx ?_ | with_reducible refine e_bin ?_ | with_reducible refine b_add ?_ | with_reducible refine b_sub ?_ | with_reducible refine b_mul ?_ ?_ | with_reducible refine i_fr0 ?_ | with_reducible refine i_fr1 ?_ | with_reducible refine e_call ?_ | with_reducible refine e_callK ?_ | with_reducible refine e_bi ?_ | with_reducible refine s_seq ?_ | with_reducible refine s_asg ?_ | with_reducible refine s_ret ?_ | with_reducible refine e_cmp ?_ | with_reducible refine c_eq ?_ | with_reducible refine c_ne ?_ | with_reducible refine c_lt ?_ | with_reducible refine c_le ?_ | with_reducible refine c_gt ?_ | with_reducible refine c_ge ?_ | with_reducible refine s_ife ?_ | with_reducible refine x_ifT ?_ | with_reducible refine x_ifF ?_ | with_reducible refine x_ifNT ?_ | with_reducible refine x_ifNF ?_ | with_reducible refine x_ifd (fun hc => ?_) (fun hc => ?_) | with_reducible refine x_ifn (fun hc => ?_) (fun hc => ?_) | with_reducible refine x_if (fun hc => ?_) (fun hc => ?_) | with_reducible refine s_skip ?_ | with_reducible refine s_expr ?_ | with_reducible refine e_mt ?_ | with_reducible refine b_div ?_ ?_ | with_reducible refine b_mod ?_ ?_ | with_reducible refine b_pow ?_ ?_ | with_reducible refine e_tup ?_ | with_reducible refine x_len (by simp only [List.length_cons, List.length_nil]; decide) ?_ | with_reducible refine e_neg ?_ | with_reducible refine x_int ?_ | with_reducible refine e_bl ?_ | with_reducible refine e_non ?_ | with_reducible refine e_str ?_ | with_reducible refine e_and ?_ | with_reducible refine e_or ?_ | with_reducible refine e_not ?_ | with_reducible refine e_truth ?_ | with_reducible refine x_bl ?_ | with_reducible refine t_bl ?_ | with_reducible refine t_int ?_ | with_reducible refine t_tup ?_ | with_reducible refine t_non ?_ | with_reducible refine e_ife ?_ | with_reducible refine e_isi ?_ | with_reducible refine f_abs ?_ | with_reducible refine f_int ?_ | with_reducible refine f_gcd ?_ | with_reducible refine f_max ?_ | with_reducible refine f_min ?_ | with_reducible refine f_tupT ?_ | with_reducible refine s_for ?_ | with_reducible refine w_rng ?_ | with_reducible refine x_rng ?_ ?_ | with_reducible refine w_it ?_ | with_reducible refine x_itT ?_ | with_reducible refine s_while ?_ | with_reducible refine e_lst ?_ | with_reducible refine e_cut ?_ | with_reducible refine e_absent ?_ | with_reducible refine e_asInt ?_ | with_reducible refine x_pI ?_ | with_reducible refine x_pN ?_ | with_reducible refine e_chain ?_ | with_reducible refine e_comp ?_ | with_reducible refine e_tcomp ?_ | with_reducible refine s_brk ?_ | with_reducible refine s_cont ?_ | ((with_reducible refine m_app (ds := ?_) ?_ ?_); rotate_left; (focus ((repeat (first | exact put_same | assumption | refine put_old ?_ (by assumption))); done))) | ((with_reducible refine m_app2 (ds := ?_) ?_ ?_ ?_); rotate_left; (focus ((repeat (first | exact put_same | assumption | refine put_old ?_ (by assumption))); done))) | ((with_reducible refine z_leniL (qs := ?_) ?_ ?_); rotate_left; first | exact Or.inl put_same | assumption | exact Or.inl (by assumption) | (refine Or.inl ?_; (focus ((repeat (first | exact put_same | assumption | refine put_old ?_ (by assumption))); done))) | exact listAt_put (by assumption) (by assumption) | exact listAt_sub (by assumption) (by assumption)) | ((with_reducible refine z_lenfL (qs := ?_) ?_ ?_); rotate_left; first | exact Or.inl put_same | assumption | exact Or.inl (by assumption) | (refine Or.inl ?_; (focus ((repeat (first | exact put_same | assumption | refine put_old ?_ (by assumption))); done))) | exact listAt_put (by assumption) (by assumption) | exact listAt_sub (by assumption) (by assumption)) | ((with_reducible refine f_lenL (ds := ?_) ?_ ?_); rotate_left; first | exact Or.inl put_same | assumption | exact Or.inl (by assumption) | (refine Or.inl ?_; (focus ((repeat (first | exact put_same | assumption | refine put_old ?_ (by assumption))); done))) | exact listAt_put (by assumption) (by assumption) | exact listAt_sub (by assumption) (by assumption)) | ((with_reducible refine i_iL (ns := ?_) ?_ ?_ ?_); rotate_left; first | exact Or.inl put_same | assumption | exact Or.inl (by assumption) | (refine Or.inl ?_; (focus ((repeat (first | exact put_same | assumption | refine put_old ?_ (by assumption))); done))) | exact listAt_put (by assumption) (by assumption) | exact listAt_sub (by assumption) (by assumption)) | ((with_reducible refine i_fL (ns := ?_) ?_ ?_ ?_); rotate_left; first | exact Or.inl put_same | assumption | exact Or.inl (by assumption) | (refine Or.inl ?_; (focus ((repeat (first | exact put_same | assumption | refine put_old ?_ (by assumption))); done))) | exact listAt_put (by assumption) (by assumption) | exact listAt_sub (by assumption) (by assumption)) | ((with_reducible refine f_tupL (ds := ?_) ?_ ?_); rotate_left; first | exact Or.inl put_same | assumption | exact Or.inl (by assumption) | (refine Or.inl ?_; (focus ((repeat (first | exact put_same | assumption | refine put_old ?_ (by assumption))); done))) | exact listAt_put (by assumption) (by assumption) | exact listAt_sub (by assumption) (by assumption)) | ((with_reducible refine x_itL (ds := ?_) ?_ ?_); rotate_left; first | exact Or.inl put_same | assumption | exact Or.inl (by assumption) | (refine Or.inl ?_; (focus ((repeat (first | exact put_same | assumption | refine put_old ?_ (by assumption))); done))) | exact listAt_put (by assumption) (by assumption) | exact listAt_sub (by assumption) (by assumption)) | with_reducible refine x_new (fun r nr => ?_) | ((with_reducible refine b_lst (ds := ?_) (es := ?_) ?_ ?_ ?_ ?_); rotate_left 2; (focus ((repeat (first | exact put_same | assumption | refine put_old ?_ (by assumption))); done)); (focus ((repeat (first | exact put_same | assumption | refine put_old ?_ (by assumption))); done))) | ((with_reducible refine b_rep (ds := ?_) ?_ ?_ ?_); rotate_left; (focus ((repeat (first | exact put_same | assumption | refine put_old ?_ (by assumption))); done))) | with_reducible refine f_lstT ?_ | with_reducible refine b_tup ?_ ?_ | with_reducible refine z_lenfT ?_ | with_reducible refine f_lenT ?_ | with_reducible refine i_fT ?_ ?_ | with_reducible refine z_isiI ?_ | with_reducible refine z_isiB ?_ | with_reducible refine z_isiF ?_ | with_reducible refine z_isiT ?_ | with_reducible refine z_lenF ?_)
      · omega
      · decide
      · decide
      · refine ⟨rfl, _, _, rfl, ?_, ?_, ?_, ?_⟩
        · split <;> omega
        · split <;> omega
        · rw [p28]; omega
        · rw [p28, p28']; omega
      · exact ⟨rfl, _, _, rfl, z1, z2, by decide, by decide⟩
    rintro σ M'' ⟨rfl, sz, g, rfl, z1, z2, g1, g2⟩
    repeat' (first | ((with_reducible refine e_var (d := ?_) ?_ ?_); rotate_left; exact rfl) | with_reducible refine e_cons ?_ | with_reducible refine x_tup ?_ | with_reducible refine e_nil ?_ | with_reducible refine e_int ?_ | with_reducible refine e_idx ?_ | with_reducible refine e_bin ?_ | with_reducible refine b_add ?_ | with_reducible refine b_sub ?_ | with_reducible refine b_mul ?_ ?_ | with_reducible refine i_fr0 ?_ | with_reducible refine i_fr1 ?_ | with_reducible refine e_call ?_ | with_reducible refine e_callK ?_ | with_reducible refine e_bi ?_ | with_reducible refine s_seq ?_ | with_reducible refine s_asg ?_ | with_reducible refine s_ret ?_ | with_reducible refine e_cmp ?_ | with_reducible refine c_eq ?_ | with_reducible refine c_ne ?_ | with_reducible refine c_lt ?_ | with_reducible refine c_le ?_ | with_reducible refine c_gt ?_ | with_reducible refine c_ge ?_ | with_reducible refine x_ifT ?_ | with_reducible refine x_ifF ?_ | with_reducible refine x_ifNT ?_ | with_reducible refine x_ifNF ?_ | with_reducible refine x_ifd (fun hc => ?_) (fun hc => ?_) | with_reducible refine x_ifn (fun hc => ?_) (fun hc => ?_) | with_reducible refine x_if (fun hc => ?_) (fun hc => ?_) | with_reducible refine s_skip ?_ | with_reducible refine s_expr ?_ | with_reducible refine e_mt ?_ | with_reducible refine b_div ?_ ?_ | with_reducible refine b_mod ?_ ?_ | with_reducible refine b_pow ?_ ?_ | with_reducible refine e_tup ?_ | with_reducible refine x_len (by simp only [List.length_cons, List.length_nil]; decide) ?_ | with_reducible refine e_neg ?_ | with_reducible refine x_int ?_ | with_reducible refine e_bl ?_ | with_reducible refine e_non ?_ | with_reducible refine e_str ?_ | with_reducible refine e_and ?_ | with_reducible refine e_or ?_ | with_reducible refine e_not ?_ | with_reducible refine e_truth ?_ | with_reducible refine x_bl ?_ | with_reducible refine t_bl ?_ | with_reducible refine t_int ?_ | with_reducible refine t_tup ?_ | with_reducible refine t_non ?_ | with_reducible refine e_ife ?_ | with_reducible refine e_isi ?_ | with_reducible refine f_abs ?_ | with_reducible refine f_int ?_ | with_reducible refine f_gcd ?_ | with_reducible refine f_max ?_ | with_reducible refine f_min ?_ | with_reducible refine f_tupT ?_ | with_reducible refine s_for ?_ | with_reducible refine w_rng ?_ | with_reducible refine x_rng ?_ ?_ | with_reducible refine w_it ?_ | with_reducible refine x_itT ?_ | with_reducible refine s_while ?_ | with_reducible refine e_lst ?_ | with_reducible refine e_cut ?_ | with_reducible refine e_absent ?_ | with_reducible refine e_asInt ?_ | with_reducible refine x_pI ?_ | with_reducible refine x_pN ?_ | with_reducible refine e_chain ?_ | with_reducible refine e_comp ?_ | with_reducible refine e_tcomp ?_ | with_reducible refine s_brk ?_ | with_reducible refine s_cont ?_ | ((with_reducible refine m_app (ds := ?_) ?_ ?_); rotate_left; (focus ((repeat (first | exact put_same | assumption | refine put_old ?_ (by assumption))); done))) | ((with_reducible refine m_app2 (ds := ?_) ?_ ?_ ?_); rotate_left; (focus ((repeat (first | exact put_same | assumption | refine put_old ?_ (by assumption))); done))) | ((with_reducible refine z_leniL (qs := ?_) ?_ ?_); rotate_left; first | exact Or.inl put_same | assumption | exact Or.inl (by assumption) | (refine Or.inl ?_; (focus ((repeat (first | exact put_same | assumption | refine put_old ?_ (by assumption))); done))) | exact listAt_put (by assumption) (by assumption) | exact listAt_sub (by assumption) (by assumption)) | ((with_reducible refine z_lenfL (qs := ?_) ?_ ?_); rotate_left; first | exact Or.inl put_same | assumption | exact Or.inl (by assumption) | (refine Or.inl ?_; (focus ((repeat (first | exact put_same | assumption | refine put_old ?_ (by assumption))); done))) | exact listAt_put (by assumption) (by assumption) | exact listAt_sub (by assumption) (by assumption)) | ((with_reducible refine f_lenL (ds := ?_) ?_ ?_); rotate_left; first | exact Or.inl put_same | assumption | exact Or.inl (by assumption) | (refine Or.inl ?_; (focus ((repeat (first | exact put_same | assumption | refine put_old ?_ (by assumption))); done))) | exact listAt_put (by assumption) (by assumption) | exact listAt_sub (by assumption) (by assumption)) | ((with_reducible refine i_iL (ns := ?_) ?_ ?_ ?_); rotate_left; first | exact Or.inl put_same | assumption | exact Or.inl (by assumption) | (refine Or.inl ?_; (focus ((repeat (first | exact put_same | assumption | refine put_old ?_ (by assumption))); done))) | exact listAt_put (by assumption) (by assumption) | exact listAt_sub (by assumption) (by assumption)) | ((with_reducible refine i_fL (ns := ?_) ?_ ?_ ?_); rotate_left; first | exact Or.inl put_same | assumption | exact Or.inl (by assumption) | (refine Or.inl ?_; (focus ((repeat (first | exact put_same | assumption | refine put_old ?_ (by assumption))); done))) | exact listAt_put (by assumption) (by assumption) | exact listAt_sub (by assumption) (by assumption)) | ((with_reducible refine f_tupL (ds := ?_) ?_ ?_); rotate_left; first | exact Or.inl put_same | assumption | exact Or.inl (by assumption) | (refine Or.inl ?_; (focus ((repeat (first | exact put_same | assumption | refine put_old ?_ (by assumption))); done))) | exact listAt_put (by assumption) (by assumption) | exact listAt_sub (by assumption) (by assumption)) | ((with_reducible refine x_itL (ds := ?_) ?_ ?_); rotate_left; first | exact Or.inl put_same | assumption | exact Or.inl (by assumption) | (refine Or.inl ?_; (focus ((repeat (first | exact put_same | assumption | refine put_old ?_ (by assumption))); done))) | exact listAt_put (by assumption) (by assumption) | exact listAt_sub (by assumption) (by assumption)) | with_reducible refine x_new (fun r nr => ?_) | ((with_reducible refine b_lst (ds := ?_) (es := ?_) ?_ ?_ ?_ ?_); rotate_left 2; (focus ((repeat (first | exact put_same | assumption | refine put_old ?_ (by assumption))); done)); (focus ((repeat (first | exact put_same | assumption | refine put_old ?_ (by assumption))); done))) | ((with_reducible refine b_rep (ds := ?_) ?_ ?_ ?_); rotate_left; (focus ((repeat (first | exact put_same | assumption | refine put_old ?_ (by assumption))); done))) | with_reducible refine f_lstT ?_ | with_reducible refine b_tup ?_ ?_ | with_reducible refine z_lenfT ?_ | with_reducible refine f_lenT ?_ | with_reducible refine i_fT ?_ ?_ | with_reducible refine z_isiI ?_ | with_reducible refine z_isiB ?_ | with_reducible refine z_isiF ?_ | with_reducible refine z_isiT ?_ | with_reducible refine z_lenF ?_)
    · omega
    refine comp_frs (Sz 200) (by have := big_line (show (sz - 0).toNat ≤ 1000000 by omega); omega) ?_ ?_
    · intro i M2 hi sb2 Q k
      have mk : IntMulOk 2 ((0 : Int) + i) := Bd.mulOk (n := 2) (m := 10) (by decide) (Bd.of_lt (by omega) (by omega)) (by decide)
      repeat' (first | with_reducible refine c__law_fraction h2 ?_ ?_ ?_ (fun x hx => ?_) | ((with_reducible refine e_var (d := ?_) ?_ ?_); rotate_left; exact rfl) | with_reducible refine e_cons ?_ | with_reducible refine x_tup ?_ | with_reducible refine e_nil ?_ | with_reducible refine e_int ?_ | with_reducible refine e_idx ?_ | with_reducible refine e_bin ?_ | with_reducible refine b_add ?_ | with_reducible refine b_sub ?_ | with_reducible refine b_mul ?_ ?_ | with_reducible refine i_fr0 ?_ | with_reducible refine i_fr1 ?_ | with_reducible refine e_call ?_ | with_reducible refine e_callK ?_ | with_reducible refine e_bi ?_ | with_reducible refine s_seq ?_ | with_reducible refine s_asg ?_ | with_reducible refine s_ret ?_ | with_reducible refine e_cmp ?_ | with_reducible refine c_eq ?_ | with_reducible refine c_ne ?_ | with_reducible refine c_lt ?_ | with_reducible refine c_le ?_ | with_reducible refine c_gt ?_ | with_reducible refine c_ge ?_ | with_reducible refine s_ife ?_ | with_reducible refine x_ifT ?_ | with_reducible refine x_ifF ?_ | with_reducible refine x_ifNT ?_ | with_reducible refine x_ifNF ?_ | with_reducible refine x_ifd (fun hc => ?_) (fun hc => ?_) | with_reducible refine x_ifn (fun hc => ?_) (fun hc => ?_) | with_reducible refine x_if (fun hc => ?_) (fun hc => ?_) | with_reducible refine s_skip ?_ | with_reducible refine s_expr ?_ | with_reducible refine e_mt ?_ | with_reducible refine b_div ?_ ?_ | with_reducible refine b_mod ?_ ?_ | with_reducible refine b_pow ?_ ?_ | with_reducible refine e_tup ?_ | with_reducible refine x_len (by simp only [List.length_cons, List.length_nil]; decide) ?_ | with_reducible refine e_neg ?_ | with_reducible refine x_int ?_ | with_reducible refine e_bl ?_ | with_reducible refine e_non ?_ | with_reducible refine e_str ?_ | with_reducible refine e_and ?_ | with_reducible refine e_or ?_ | with_reducible refine e_not ?_ | with_reducible refine e_truth ?_ | with_reducible refine x_bl ?_ | with_reducible refine t_bl ?_ | with_reducible refine t_int ?_ | with_reducible refine t_tup ?_ | with_reducible refine t_non ?_ | with_reducible refine e_ife ?_ | with_reducible refine e_isi ?_ | with_reducible refine f_abs ?_ | with_reducible refine f_int ?_ | with_reducible refine f_gcd ?_ | with_reducible refine f_max ?_ | with_reducible refine f_min ?_ | with_reducible refine f_tupT ?_ | with_reducible refine s_for ?_ | with_reducible refine w_rng ?_ | with_reducible refine x_rng ?_ ?_ | with_reducible refine w_it ?_ | with_reducible refine x_itT ?_ | with_reducible refine s_while ?_ | with_reducible refine e_lst ?_ | with_reducible refine e_cut ?_ | with_reducible refine e_absent ?_ | with_reducible refine e_asInt ?_ | with_reducible refine x_pI ?_ | with_reducible refine x_pN ?_ | with_reducible refine e_chain ?_ | with_reducible refine e_comp ?_ | with_reducible refine e_tcomp ?_ | with_reducible refine s_brk ?_ | with_reducible refine s_cont ?_ | ((with_reducible refine m_app (ds := ?_) ?_ ?_); rotate_left; (focus ((repeat (first | exact put_same | assumption | refine put_old ?_ (by assumption))); done))) | ((with_reducible refine m_app2 (ds := ?_) ?_ ?_ ?_); rotate_left; (focus ((repeat (first | exact put_same | assumption | refine put_old ?_ (by assumption))); done))) | ((with_reducible refine z_leniL (qs := ?_) ?_ ?_); rotate_left; first | exact Or.inl put_same | assumption | exact Or.inl (by assumption) | (refine Or.inl ?_; (focus ((repeat (first | exact put_same | assumption | refine put_old ?_ (by assumption))); done))) | exact listAt_put (by assumption) (by assumption) | exact listAt_sub (by assumption) (by assumption)) | ((with_reducible refine z_lenfL (qs := ?_) ?_ ?_); rotate_left; first | exact Or.inl put_same | assumption | exact Or.inl (by assumption) | (refine Or.inl ?_; (focus ((repeat (first | exact put_same | assumption | refine put_old ?_ (by assumption))); done))) | exact listAt_put (by assumption) (by assumption) | exact listAt_sub (by assumption) (by assumption)) | ((with_reducible refine f_lenL (ds := ?_) ?_ ?_); rotate_left; first | exact Or.inl put_same | assumption | exact Or.inl (by assumption) | (refine Or.inl ?_; (focus ((repeat (first | exact put_same | assumption | refine put_old ?_ (by assumption))); done))) | exact listAt_put (by assumption) (by assumption) | exact listAt_sub (by assumption) (by assumption)) | ((with_reducible refine i_iL (ns := ?_) ?_ ?_ ?_); rotate_left; first | exact Or.inl put_same | assumption | exact Or.inl (by assumption) | (refine Or.inl ?_; (focus ((repeat (first | exact put_same | assumption | refine put_old ?_ (by assumption))); done))) | exact listAt_put (by assumption) (by assumption) | exact listAt_sub (by assumption) (by assumption)) | ((with_reducible refine i_fL (ns := ?_) ?_ ?_ ?_); rotate_left; first | exact Or.inl put_same | assumption | exact Or.inl (by assumption) | (refine Or.inl ?_; (focus ((repeat (first | exact put_same | assumption | refine put_old ?_ (by assumption))); done))) | exact listAt_put (by assumption) (by assumption) | exact listAt_sub (by assumption) (by assumption)) | ((with_reducible refine f_tupL (ds := ?_) ?_ ?_); rotate_left; first | exact Or.inl put_same | assumption | exact Or.inl (by assumption) | (refine Or.inl ?_; (focus ((repeat (first | exact put_same | assumption | refine put_old ?_ (by assumption))); done))) | exact listAt_put (by assumption) (by assumption) | exact listAt_sub (by assumption) (by assumption)) | ((with_reducible refine x_itL (ds := ?_) ?_ ?_); rotate_left; first | exact Or.inl put_same | assumption | exact Or.inl (by assumption) | (refine Or.inl ?_; (focus ((repeat (first | exact put_same | assumption | refine put_old ?_ (by assumption))); done))) | exact listAt_put (by assumption) (by assumption) | exact listAt_sub (by assumption) (by assumption)) | with_reducible refine x_new (fun r nr => ?_) | ((with_reducible refine b_lst (ds := ?_) (es := ?_) ?_ ?_ ?_ ?_); rotate_left 2; (focus ((repeat (first | exact put_same | assumption | refine put_old ?_ (by assumption))); done)); (focus ((repeat (first | exact put_same | assumption | refine put_old ?_ (by assumption))); done))) | ((with_reducible refine b_rep (ds := ?_) ?_ ?_ ?_); rotate_left; (focus ((repeat (first | exact put_same | assumption | refine put_old ?_ (by assumption))); done))) | with_reducible refine f_lstT ?_ | with_reducible refine b_tup ?_ ?_ | with_reducible refine z_lenfT ?_ | with_reducible refine f_lenT ?_ | with_reducible refine i_fT ?_ ?_ | with_reducible refine z_isiI ?_ | with_reducible refine z_isiB ?_ | with_reducible refine z_isiF ?_ | with_reducible refine z_isiT ?_ | with_reducible refine z_lenF ?_)
      · exact mk
      · omega
      · exact mk
      · omega
      · exact dg _ (by omega)
      · exact dg _ (by omega)
      · exact ⟨g1, g2⟩
      · exact k M2 x sb2 hx
    intro qs hql hqs
    have hq13 : qs.length ≤ 13 := by omega
    have hqsz : (qs.length : Int) = sz := by omega
    repeat' (first | ((with_reducible refine e_var (d := ?_) ?_ ?_); rotate_left; exact rfl) | with_reducible refine e_cons ?_ | with_reducible refine x_tup ?_ | with_reducible refine e_nil ?_ | with_reducible refine e_int ?_ | with_reducible refine e_idx ?_ | with_reducible refine e_bin ?_ | with_reducible refine b_add ?_ | with_reducible refine b_sub ?_ | with_reducible refine b_mul ?_ ?_ | with_reducible refine i_fr0 ?_ | with_reducible refine i_fr1 ?_ | with_reducible refine e_call ?_ | with_reducible refine e_callK ?_ | with_reducible refine e_bi ?_ | with_reducible refine s_seq ?_ | with_reducible refine s_asg ?_ | with_reducible refine s_ret ?_ | with_reducible refine e_cmp ?_ | with_reducible refine c_eq ?_ | with_reducible refine c_ne ?_ | with_reducible refine c_lt ?_ | with_reducible refine c_le ?_ | with_reducible refine c_gt ?_ | with_reducible refine c_ge ?_ | with_reducible refine x_ifT ?_ | with_reducible refine x_ifF ?_ | with_reducible refine x_ifNT ?_ | with_reducible refine x_ifNF ?_ | with_reducible refine x_ifd (fun hc => ?_) (fun hc => ?_) | with_reducible refine x_ifn (fun hc => ?_) (fun hc => ?_) | with_reducible refine x_if (fun hc => ?_) (fun hc => ?_) | with_reducible refine s_skip ?_ | with_reducible refine s_expr ?_ | with_reducible refine e_mt ?_ | with_reducible refine b_div ?_ ?_ | with_reducible refine b_mod ?_ ?_ | with_reducible refine b_pow ?_ ?_ | with_reducible refine e_tup ?_ | with_reducible refine x_len (by simp only [List.length_cons, List.length_nil]; decide) ?_ | with_reducible refine e_neg ?_ | with_reducible refine x_int ?_ | with_reducible refine e_bl ?_ | with_reducible refine e_non ?_ | with_reducible refine e_str ?_ | with_reducible refine e_and ?_ | with_reducible refine e_or ?_ | with_reducible refine e_not ?_ | with_reducible refine e_truth ?_ | with_reducible refine x_bl ?_ | with_reducible refine t_bl ?_ | with_reducible refine t_int ?_ | with_reducible refine t_tup ?_ | with_reducible refine t_non ?_ | with_reducible refine e_ife ?_ | with_reducible refine e_isi ?_ | with_reducible refine f_abs ?_ | with_reducible refine f_int ?_ | with_reducible refine f_gcd ?_ | with_reducible refine f_max ?_ | with_reducible refine f_min ?_ | with_reducible refine f_tupT ?_ | with_reducible refine s_for ?_ | with_reducible refine w_rng ?_ | with_reducible refine x_rng ?_ ?_ | with_reducible refine w_it ?_ | with_reducible refine x_itT ?_ | with_reducible refine s_while ?_ | with_reducible refine e_lst ?_ | with_reducible refine e_cut ?_ | with_reducible refine e_absent ?_ | with_reducible refine e_asInt ?_ | with_reducible refine x_pI ?_ | with_reducible refine x_pN ?_ | with_reducible refine e_chain ?_ | with_reducible refine e_comp ?_ | with_reducible refine e_tcomp ?_ | with_reducible refine s_brk ?_ | with_reducible refine s_cont ?_ | ((with_reducible refine m_app (ds := ?_) ?_ ?_); rotate_left; (focus ((repeat (first | exact put_same | assumption | refine put_old ?_ (by assumption))); done))) | ((with_reducible refine m_app2 (ds := ?_) ?_ ?_ ?_); rotate_left; (focus ((repeat (first | exact put_same | assumption | refine put_old ?_ (by assumption))); done))) | ((with_reducible refine z_leniL (qs := ?_) ?_ ?_); rotate_left; first | exact Or.inl put_same | assumption | exact Or.inl (by assumption) | (refine Or.inl ?_; (focus ((repeat (first | exact put_same | assumption | refine put_old ?_ (by assumption))); done))) | exact listAt_put (by assumption) (by assumption) | exact listAt_sub (by assumption) (by assumption)) | ((with_reducible refine z_lenfL (qs := ?_) ?_ ?_); rotate_left; first | exact Or.inl put_same | assumption | exact Or.inl (by assumption) | (refine Or.inl ?_; (focus ((repeat (first | exact put_same | assumption | refine put_old ?_ (by assumption))); done))) | exact listAt_put (by assumption) (by assumption) | exact listAt_sub (by assumption) (by assumption)) | ((with_reducible refine f_lenL (ds := ?_) ?_ ?_); rotate_left; first | exact Or.inl put_same | assumption | exact Or.inl (by assumption) | (refine Or.inl ?_; (focus ((repeat (first | exact put_same | assumption | refine put_old ?_ (by assumption))); done))) | exact listAt_put (by assumption) (by assumption) | exact listAt_sub (by assumption) (by assumption)) | ((with_reducible refine i_iL (ns := ?_) ?_ ?_ ?_); rotate_left; first | exact Or.inl put_same | assumption | exact Or.inl (by assumption) | (refine Or.inl ?_; (focus ((repeat (first | exact put_same | assumption | refine put_old ?_ (by assumption))); done))) | exact listAt_put (by assumption) (by assumption) | exact listAt_sub (by assumption) (by assumption)) | ((with_reducible refine i_fL (ns := ?_) ?_ ?_ ?_); rotate_left; first | exact Or.inl put_same | assumption | exact Or.inl (by assumption) | (refine Or.inl ?_; (focus ((repeat (first | exact put_same | assumption | refine put_old ?_ (by assumption))); done))) | exact listAt_put (by assumption) (by assumption) | exact listAt_sub (by assumption) (by assumption)) | ((with_reducible refine f_tupL (ds := ?_) ?_ ?_); rotate_left; first | exact Or.inl put_same | assumption | exact Or.inl (by assumption) | (refine Or.inl ?_; (focus ((repeat (first | exact put_same | assumption | refine put_old ?_ (by assumption))); done))) | exact listAt_put (by assumption) (by assumption) | exact listAt_sub (by assumption) (by assumption)) | ((with_reducible refine x_itL (ds := ?_) ?_ ?_); rotate_left; first | exact Or.inl put_same | assumption | exact Or.inl (by assumption) | (refine Or.inl ?_; (focus ((repeat (first | exact put_same | assumption | refine put_old ?_ (by assumption))); done))) | exact listAt_put (by assumption) (by assumption) | exact listAt_sub (by assumption) (by assumption)) | with_reducible refine x_new (fun r nr => ?_) | ((with_reducible refine b_lst (ds := ?_) (es := ?_) ?_ ?_ ?_ ?_); rotate_left 2; (focus ((repeat (first | exact put_same | assumption | refine put_old ?_ (by assumption))); done)); (focus ((repeat (first | exact put_same | assumption | refine put_old ?_ (by assumption))); done))) | ((with_reducible refine b_rep (ds := ?_) ?_ ?_ ?_); rotate_left; (focus ((repeat (first | exact put_same | assumption | refine put_old ?_ (by assumption))); done))) | with_reducible refine f_lstT ?_ | with_reducible refine b_tup ?_ ?_ | with_reducible refine z_lenfT ?_ | with_reducible refine f_lenT ?_ | with_reducible refine i_fT ?_ ?_ | with_reducible refine z_isiI ?_ | with_reducible refine z_isiB ?_ | with_reducible refine z_isiF ?_ | with_reducible refine z_isiT ?_ | with_reducible refine z_lenF ?_)
    refine s_join (fun σ M2 => ∃ (u : Addr) (qs : List Rat) (o : Option D), σ = [some (.int c), some (.int e), some (.ref q), some (.int sz), some (.int g), some (.ref u), o, none, none] ∧ Sub M'' M2 ∧ listAt M2 u (fL qs) ∧ qs.length ≤ 13 ∧ ∀ q ∈ qs, Sz 200 q) ?_ ?_
    · repeat' (first | ((with_reducible refine e_var (d := ?_) ?_ ?_); rotate_left; exact rfl) | with_reducible refine e_cons ?_ | with_reducible refine x_tup ?_ | with_reducible refine e_nil ?_ | with_reducible refine e_int ?_ | with_reducible refine e_idx ?_ | with_reducible refine e_bin ?_ | with_reducible refine b_add ?_ | with_reducible refine b_sub ?_ | with_reducible refine b_mul ?_ ?_ | with_reducible refine i_fr0 ?_ | with_reducible refine i_fr1 ?_ | with_reducible refine e_call ?_ | with_reducible refine e_callK ?_ | with_reducible refine e_bi ?_ | with_reducible refine s_seq ?_ | with_reducible refine s_asg ?_ | with_reducible refine s_ret ?_ | with_reducible refine e_cmp ?_ | with_reducible refine c_eq ?_ | with_reducible refine c_ne ?_ | with_reducible refine c_lt ?_ | with_reducible refine c_le ?_ | with_reducible refine c_gt ?_ | with_reducible refine c_ge ?_ | with_reducible refine s_ife ?_ | with_reducible refine x_ifT ?_ | with_reducible refine x_ifF ?_ | with_reducible refine x_ifNT ?_ | with_reducible refine x_ifNF ?_ | with_reducible refine x_ifd (fun hc => ?_) (fun hc => ?_) | with_reducible refine x_ifn (fun hc => ?_) (fun hc => ?_) | with_reducible refine x_if (fun hc => ?_) (fun hc => ?_) | with_reducible refine s_skip ?_ | with_reducible refine s_expr ?_ | with_reducible refine e_mt ?_ | with_reducible refine b_div ?_ ?_ | with_reducible refine b_mod ?_ ?_ | with_reducible refine b_pow ?_ ?_ | with_reducible refine e_tup ?_ | with_reducible refine x_len (by simp only [List.length_cons, List.length_nil]; decide) ?_ | with_reducible refine e_neg ?_ | with_reducible refine x_int ?_ | with_reducible refine e_bl ?_ | with_reducible refine e_non ?_ | with_reducible refine e_str ?_ | with_reducible refine e_and ?_ | with_reducible refine e_or ?_ | with_reducible refine e_not ?_ | with_reducible refine e_truth ?_ | with_reducible refine x_bl ?_ | with_reducible refine t_bl ?_ | with_reducible refine t_int ?_ | with_reducible refine t_tup ?_ | with_reducible refine t_non ?_ | with_reducible refine e_ife ?_ | with_reducible refine e_isi ?_ | with_reducible refine f_abs ?_ | with_reducible refine f_int ?_ | with_reducible refine f_gcd ?_ | with_reducible refine f_max ?_ | with_reducible refine f_min ?_ | with_reducible refine f_tupT ?_ | with_reducible refine s_for ?_ | with_reducible refine w_rng ?_ | with_reducible refine x_rng ?_ ?_ | with_reducible refine w_it ?_ | with_reducible refine x_itT ?_ | with_reducible refine s_while ?_ | with_reducible refine e_lst ?_ | with_reducible refine e_cut ?_ | with_reducible refine e_absent ?_ | with_reducible refine e_asInt ?_ | with_reducible refine x_pI ?_ | with_reducible refine x_pN ?_ | with_reducible refine e_chain ?_ | with_reducible refine e_comp ?_ | with_reducible refine e_tcomp ?_ | with_reducible refine s_brk ?_ | with_reducible refine s_cont ?_ | ((with_reducible refine m_app (ds := ?_) ?_ ?_); rotate_left; (focus ((repeat (first | exact put_same | assumption | refine put_old ?_ (by assumption))); done))) | ((with_reducible refine m_app2 (ds := ?_) ?_ ?_ ?_); rotate_left; (focus ((repeat (first | exact put_same | assumption | refine put_old ?_ (by assumption))); done))) | ((with_reducible refine z_leniL (qs := ?_) ?_ ?_); rotate_left; first | exact Or.inl put_same | assumption | exact Or.inl (by assumption) | (refine Or.inl ?_; (focus ((repeat (first | exact put_same | assumption | refine put_old ?_ (by assumption))); done))) | exact listAt_put (by assumption) (by assumption) | exact listAt_sub (by assumption) (by assumption)) | ((with_reducible refine z_lenfL (qs := ?_) ?_ ?_); rotate_left; first | exact Or.inl put_same | assumption | exact Or.inl (by assumption) | (refine Or.inl ?_; (focus ((repeat (first | exact put_same | assumption | refine put_old ?_ (by assumption))); done))) | exact listAt_put (by assumption) (by assumption) | exact listAt_sub (by assumption) (by assumption)) | ((with_reducible refine f_lenL (ds := ?_) ?_ ?_); rotate_left; first | exact Or.inl put_same | assumption | exact Or.inl (by assumption) | (refine Or.inl ?_; (focus ((repeat (first | exact put_same | assumption | refine put_old ?_ (by assumption))); done))) | exact listAt_put (by assumption) (by assumption) | exact listAt_sub (by assumption) (by assumption)) | ((with_reducible refine i_iL (ns := ?_) ?_ ?_ ?_); rotate_left; first | exact Or.inl put_same | assumption | exact Or.inl (by assumption) | (refine Or.inl ?_; (focus ((repeat (first | exact put_same | assumption | refine put_old ?_ (by assumption))); done))) | exact listAt_put (by assumption) (by assumption) | exact listAt_sub (by assumption) (by assumption)) | ((with_reducible refine i_fL (ns := ?_) ?_ ?_ ?_); rotate_left; first | exact Or.inl put_same | assumption | exact Or.inl (by assumption) | (refine Or.inl ?_; (focus ((repeat (first | exact put_same | assumption | refine put_old ?_ (by assumption))); done))) | exact listAt_put (by assumption) (by assumption) | exact listAt_sub (by assumption) (by assumption)) | ((with_reducible refine f_tupL (ds := ?_) ?_ ?_); rotate_left; first | exact Or.inl put_same | assumption | exact Or.inl (by assumption) | (refine Or.inl ?_; (focus ((repeat (first | exact put_same | assumption | refine put_old ?_ (by assumption))); done))) | exact listAt_put (by assumption) (by assumption) | exact listAt_sub (by assumption) (by assumption)) | ((with_reducible refine x_itL (ds := ?_) ?_ ?_); rotate_left; first | exact Or.inl put_same | assumption | exact Or.inl (by assumption) | (refine Or.inl ?_; (focus ((repeat (first | exact put_same | assumption | refine put_old ?_ (by assumption))); done))) | exact listAt_put (by assumption) (by assumption) | exact listAt_sub (by assumption) (by assumption)) | with_reducible refine x_new (fun r nr => ?_) | ((with_reducible refine b_lst (ds := ?_) (es := ?_) ?_ ?_ ?_ ?_); rotate_left 2; (focus ((repeat (first | exact put_same | assumption | refine put_old ?_ (by assumption))); done)); (focus ((repeat (first | exact put_same | assumption | refine put_old ?_ (by assumption))); done))) | ((with_reducible refine b_rep (ds := ?_) ?_ ?_ ?_); rotate_left; (focus ((repeat (first | exact put_same | assumption | refine put_old ?_ (by assumption))); done))) | with_reducible refine f_lstT ?_ | with_reducible refine b_tup ?_ ?_ | with_reducible refine z_lenfT ?_ | with_reducible refine f_lenT ?_ | with_reducible refine i_fT ?_ ?_ | with_reducible refine z_isiI ?_ | with_reducible refine z_isiB ?_ | with_reducible refine z_isiF ?_ | with_reducible refine z_isiT ?_ | with_reducible refine z_lenF ?_)
      · omega
      · omega
      · refine comp_frs (Sz 200) (by have := big_line (show (sz - 0).toNat ≤ 1000000 by omega); omega) ?_ ?_
        · intro i M2 hi sb2 Q k
          have hl5 : listAt M2 r (fL qs) := listAt_sub (.inl put_same) sb2
          have f1 := fun x : Int => Int.fmod_nonneg_of_pos x (b := 2) (by decide)
          have f2 := fun x : Int => Int.fmod_lt_of_pos x (b := 2) (by decide)
          have lq2 : listAt M2 q (iL ns) := listAt_sub (listAt_put lq nr) sb2
          have mk : IntMulOk 2 ((0 : Int) + i) := Bd.mulOk (n := 2) (m := 10) (by decide) (Bd.of_lt (by omega) (by omega)) (by decide)
          repeat' (first | ((with_reducible refine e_var (d := ?_) ?_ ?_); rotate_left; exact rfl) | with_reducible refine e_cons ?_ | with_reducible refine x_tup ?_ | with_reducible refine e_nil ?_ | with_reducible refine e_int ?_ | with_reducible refine e_idx ?_ | with_reducible refine e_bin ?_ | with_reducible refine b_add ?_ | with_reducible refine b_sub ?_ | with_reducible refine b_mul ?_ ?_ | with_reducible refine i_fr0 ?_ | with_reducible refine i_fr1 ?_ | with_reducible refine e_call ?_ | with_reducible refine e_callK ?_ | with_reducible refine e_bi ?_ | with_reducible refine s_seq ?_ | with_reducible refine s_asg ?_ | with_reducible refine s_ret ?_ | with_reducible refine e_cmp ?_ | with_reducible refine c_eq ?_ | with_reducible refine c_ne ?_ | with_reducible refine c_lt ?_ | with_reducible refine c_le ?_ | with_reducible refine c_gt ?_ | with_reducible refine c_ge ?_ | with_reducible refine s_ife ?_ | with_reducible refine x_ifT ?_ | with_reducible refine x_ifF ?_ | with_reducible refine x_ifNT ?_ | with_reducible refine x_ifNF ?_ | with_reducible refine x_ifd (fun hc => ?_) (fun hc => ?_) | with_reducible refine x_ifn (fun hc => ?_) (fun hc => ?_) | with_reducible refine x_if (fun hc => ?_) (fun hc => ?_) | with_reducible refine s_skip ?_ | with_reducible refine s_expr ?_ | with_reducible refine e_mt ?_ | with_reducible refine b_div ?_ ?_ | with_reducible refine b_mod ?_ ?_ | with_reducible refine b_pow ?_ ?_ | with_reducible refine e_tup ?_ | with_reducible refine x_len (by simp only [List.length_cons, List.length_nil]; decide) ?_ | with_reducible refine e_neg ?_ | with_reducible refine x_int ?_ | with_reducible refine e_bl ?_ | with_reducible refine e_non ?_ | with_reducible refine e_str ?_ | with_reducible refine e_and ?_ | with_reducible refine e_or ?_ | with_reducible refine e_not ?_ | with_reducible refine e_truth ?_ | with_reducible refine x_bl ?_ | with_reducible refine t_bl ?_ | with_reducible refine t_int ?_ | with_reducible refine t_tup ?_ | with_reducible refine t_non ?_ | with_reducible refine e_ife ?_ | with_reducible refine e_isi ?_ | with_reducible refine f_abs ?_ | with_reducible refine f_int ?_ | with_reducible refine f_gcd ?_ | with_reducible refine f_max ?_ | with_reducible refine f_min ?_ | with_reducible refine f_tupT ?_ | with_reducible refine s_for ?_ | with_reducible refine w_rng ?_ | with_reducible refine x_rng ?_ ?_ | with_reducible refine w_it ?_ | with_reducible refine x_itT ?_ | with_reducible refine s_while ?_ | with_reducible refine e_lst ?_ | with_reducible refine e_cut ?_ | with_reducible refine e_absent ?_ | with_reducible refine e_asInt ?_ | with_reducible refine x_pI ?_ | with_reducible refine x_pN ?_ | with_reducible refine e_chain ?_ | with_reducible refine e_comp ?_ | with_reducible refine e_tcomp ?_ | with_reducible refine s_brk ?_ | with_reducible refine s_cont ?_ | ((with_reducible refine m_app (ds := ?_) ?_ ?_); rotate_left; (focus ((repeat (first | exact put_same | assumption | refine put_old ?_ (by assumption))); done))) | ((with_reducible refine m_app2 (ds := ?_) ?_ ?_ ?_); rotate_left; (focus ((repeat (first | exact put_same | assumption | refine put_old ?_ (by assumption))); done))) | ((with_reducible refine z_leniL (qs := ?_) ?_ ?_); rotate_left; first | exact Or.inl put_same | assumption | exact Or.inl (by assumption) | (refine Or.inl ?_; (focus ((repeat (first | exact put_same | assumption | refine put_old ?_ (by assumption))); done))) | exact listAt_put (by assumption) (by assumption) | exact listAt_sub (by assumption) (by assumption)) | ((with_reducible refine z_lenfL (qs := ?_) ?_ ?_); rotate_left; first | exact Or.inl put_same | assumption | exact Or.inl (by assumption) | (refine Or.inl ?_; (focus ((repeat (first | exact put_same | assumption | refine put_old ?_ (by assumption))); done))) | exact listAt_put (by assumption) (by assumption) | exact listAt_sub (by assumption) (by assumption)) | ((with_reducible refine f_lenL (ds := ?_) ?_ ?_); rotate_left; first | exact Or.inl put_same | assumption | exact Or.inl (by assumption) | (refine Or.inl ?_; (focus ((repeat (first | exact put_same | assumption | refine put_old ?_ (by assumption))); done))) | exact listAt_put (by assumption) (by assumption) | exact listAt_sub (by assumption) (by assumption)) | ((with_reducible refine i_iL (ns := ?_) ?_ ?_ ?_); rotate_left; first | exact Or.inl put_same | assumption | exact Or.inl (by assumption) | (refine Or.inl ?_; (focus ((repeat (first | exact put_same | assumption | refine put_old ?_ (by assumption))); done))) | exact listAt_put (by assumption) (by assumption) | exact listAt_sub (by assumption) (by assumption)) | ((with_reducible refine i_fL (ns := ?_) ?_ ?_ ?_); rotate_left; first | exact Or.inl put_same | assumption | exact Or.inl (by assumption) | (refine Or.inl ?_; (focus ((repeat (first | exact put_same | assumption | refine put_old ?_ (by assumption))); done))) | exact listAt_put (by assumption) (by assumption) | exact listAt_sub (by assumption) (by assumption)) | ((with_reducible refine f_tupL (ds := ?_) ?_ ?_); rotate_left; first | exact Or.inl put_same | assumption | exact Or.inl (by assumption) | (refine Or.inl ?_; (focus ((repeat (first | exact put_same | assumption | refine put_old ?_ (by assumption))); done))) | exact listAt_put (by assumption) (by assumption) | exact listAt_sub (by assumption) (by assumption)) | ((with_reducible refine x_itL (ds := ?_) ?_ ?_); rotate_left; first | exact Or.inl put_same | assumption | exact Or.inl (by assumption) | (refine Or.inl ?_; (focus ((repeat (first | exact put_same | assumption | refine put_old ?_ (by assumption))); done))) | exact listAt_put (by assumption) (by assumption) | exact listAt_sub (by assumption) (by assumption)) | with_reducible refine x_new (fun r nr => ?_) | ((with_reducible refine b_lst (ds := ?_) (es := ?_) ?_ ?_ ?_ ?_); rotate_left 2; (focus ((repeat (first | exact put_same | assumption | refine put_old ?_ (by assumption))); done)); (focus ((repeat (first | exact put_same | assumption | refine put_old ?_ (by assumption))); done))) | ((with_reducible refine b_rep (ds := ?_) ?_ ?_ ?_); rotate_left; (focus ((repeat (first | exact put_same | assumption | refine put_old ?_ (by assumption))); done))) | with_reducible refine f_lstT ?_ | with_reducible refine b_tup ?_ ?_ | with_reducible refine z_lenfT ?_ | with_reducible refine f_lenT ?_ | with_reducible refine i_fT ?_ ?_ | with_reducible refine z_isiI ?_ | with_reducible refine z_isiB ?_ | with_reducible refine z_isiF ?_ | with_reducible refine z_isiT ?_ | with_reducible refine z_lenF ?_)
          · omega
          · exact mk
          · omega
          · decide
          · have fx := f1 (ns.getD (10 + 2 * (0 + (i : Int))).toNat 0)
            have fy := f2 (ns.getD (10 + 2 * (0 + (i : Int))).toNat 0)
            generalize (ns.getD (10 + 2 * (0 + (i : Int))).toNat 0).fmod 2 = w at fx fy ⊢
            have sbt := fun o => sub_new (o := o) sb2 nr
            rcases (by omega : w = 0 ∨ w = 1) with rfl | rfl
            · exact ⟨_, _, .inl put_same, rfl, k _ _ (sbt _) (sz_getD hqs (by decide))⟩
            · refine ⟨_, _, .inl put_same, rfl, ?_⟩
              rw [fr_zero]
              exact k _ _ (sbt _) (Sz.zero (by decide))
        · intro qs2 hl2 hs2
          repeat' (first | ((with_reducible refine e_var (d := ?_) ?_ ?_); rotate_left; exact rfl) | with_reducible refine e_cons ?_ | with_reducible refine x_tup ?_ | with_reducible refine e_nil ?_ | with_reducible refine e_int ?_ | with_reducible refine e_idx ?_ | with_reducible refine e_bin ?_ | with_reducible refine b_add ?_ | with_reducible refine b_sub ?_ | with_reducible refine b_mul ?_ ?_ | with_reducible refine i_fr0 ?_ | with_reducible refine i_fr1 ?_ | with_reducible refine e_call ?_ | with_reducible refine e_callK ?_ | with_reducible refine e_bi ?_ | with_reducible refine s_seq ?_ | with_reducible refine s_asg ?_ | with_reducible refine s_ret ?_ | with_reducible refine e_cmp ?_ | with_reducible refine c_eq ?_ | with_reducible refine c_ne ?_ | with_reducible refine c_lt ?_ | with_reducible refine c_le ?_ | with_reducible refine c_gt ?_ | with_reducible refine c_ge ?_ | with_reducible refine x_ifT ?_ | with_reducible refine x_ifF ?_ | with_reducible refine x_ifNT ?_ | with_reducible refine x_ifNF ?_ | with_reducible refine x_ifd (fun hc => ?_) (fun hc => ?_) | with_reducible refine x_ifn (fun hc => ?_) (fun hc => ?_) | with_reducible refine x_if (fun hc => ?_) (fun hc => ?_) | with_reducible refine s_skip ?_ | with_reducible refine s_expr ?_ | with_reducible refine e_mt ?_ | with_reducible refine b_div ?_ ?_ | with_reducible refine b_mod ?_ ?_ | with_reducible refine b_pow ?_ ?_ | with_reducible refine e_tup ?_ | with_reducible refine x_len (by simp only [List.length_cons, List.length_nil]; decide) ?_ | with_reducible refine e_neg ?_ | with_reducible refine x_int ?_ | with_reducible refine e_bl ?_ | with_reducible refine e_non ?_ | with_reducible refine e_str ?_ | with_reducible refine e_and ?_ | with_reducible refine e_or ?_ | with_reducible refine e_not ?_ | with_reducible refine e_truth ?_ | with_reducible refine x_bl ?_ | with_reducible refine t_bl ?_ | with_reducible refine t_int ?_ | with_reducible refine t_tup ?_ | with_reducible refine t_non ?_ | with_reducible refine e_ife ?_ | with_reducible refine e_isi ?_ | with_reducible refine f_abs ?_ | with_reducible refine f_int ?_ | with_reducible refine f_gcd ?_ | with_reducible refine f_max ?_ | with_reducible refine f_min ?_ | with_reducible refine f_tupT ?_ | with_reducible refine s_for ?_ | with_reducible refine w_rng ?_ | with_reducible refine x_rng ?_ ?_ | with_reducible refine w_it ?_ | with_reducible refine x_itT ?_ | with_reducible refine s_while ?_ | with_reducible refine e_lst ?_ | with_reducible refine e_cut ?_ | with_reducible refine e_absent ?_ | with_reducible refine e_asInt ?_ | with_reducible refine x_pI ?_ | with_reducible refine x_pN ?_ | with_reducible refine e_chain ?_ | with_reducible refine e_comp ?_ | with_reducible refine e_tcomp ?_ | with_reducible refine s_brk ?_ | with_reducible refine s_cont ?_ | ((with_reducible refine m_app (ds := ?_) ?_ ?_); rotate_left; (focus ((repeat (first | exact put_same | assumption | refine put_old ?_ (by assumption))); done))) | ((with_reducible refine m_app2 (ds := ?_) ?_ ?_ ?_); rotate_left; (focus ((repeat (first | exact put_same | assumption | refine put_old ?_ (by assumption))); done))) | ((with_reducible refine z_leniL (qs := ?_) ?_ ?_); rotate_left; first | exact Or.inl put_same | assumption | exact Or.inl (by assumption) | (refine Or.inl ?_; (focus ((repeat (first | exact put_same | assumption | refine put_old ?_ (by assumption))); done))) | exact listAt_put (by assumption) (by assumption) | exact listAt_sub (by assumption) (by assumption)) | ((with_reducible refine z_lenfL (qs := ?_) ?_ ?_); rotate_left; first | exact Or.inl put_same | assumption | exact Or.inl (by assumption) | (refine Or.inl ?_; (focus ((repeat (first | exact put_same | assumption | refine put_old ?_ (by assumption))); done))) | exact listAt_put (by assumption) (by assumption) | exact listAt_sub (by assumption) (by assumption)) | ((with_reducible refine f_lenL (ds := ?_) ?_ ?_); rotate_left; first | exact Or.inl put_same | assumption | exact Or.inl (by assumption) | (refine Or.inl ?_; (focus ((repeat (first | exact put_same | assumption | refine put_old ?_ (by assumption))); done))) | exact listAt_put (by assumption) (by assumption) | exact listAt_sub (by assumption) (by assumption)) | ((with_reducible refine i_iL (ns := ?_) ?_ ?_ ?_); rotate_left; first | exact Or.inl put_same | assumption | exact Or.inl (by assumption) | (refine Or.inl ?_; (focus ((repeat (first | exact put_same | assumption | refine put_old ?_ (by assumption))); done))) | exact listAt_put (by assumption) (by assumption) | exact listAt_sub (by assumption) (by assumption)) | ((with_reducible refine i_fL (ns := ?_) ?_ ?_ ?_); rotate_left; first | exact Or.inl put_same | assumption | exact Or.inl (by assumption) | (refine Or.inl ?_; (focus ((repeat (first | exact put_same | assumption | refine put_old ?_ (by assumption))); done))) | exact listAt_put (by assumption) (by assumption) | exact listAt_sub (by assumption) (by assumption)) | ((with_reducible refine f_tupL (ds := ?_) ?_ ?_); rotate_left; first | exact Or.inl put_same | assumption | exact Or.inl (by assumption) | (refine Or.inl ?_; (focus ((repeat (first | exact put_same | assumption | refine put_old ?_ (by assumption))); done))) | exact listAt_put (by assumption) (by assumption) | exact listAt_sub (by assumption) (by assumption)) | ((with_reducible refine x_itL (ds := ?_) ?_ ?_); rotate_left; first | exact Or.inl put_same | assumption | exact Or.inl (by assumption) | (refine Or.inl ?_; (focus ((repeat (first | exact put_same | assumption | refine put_old ?_ (by assumption))); done))) | exact listAt_put (by assumption) (by assumption) | exact listAt_sub (by assumption) (by assumption)) | with_reducible refine x_new (fun r nr => ?_) | ((with_reducible refine b_lst (ds := ?_) (es := ?_) ?_ ?_ ?_ ?_); rotate_left 2; (focus ((repeat (first | exact put_same | assumption | refine put_old ?_ (by assumption))); done)); (focus ((repeat (first | exact put_same | assumption | refine put_old ?_ (by assumption))); done))) | ((with_reducible refine b_rep (ds := ?_) ?_ ?_ ?_); rotate_left; (focus ((repeat (first | exact put_same | assumption | refine put_old ?_ (by assumption))); done))) | with_reducible refine f_lstT ?_ | with_reducible refine b_tup ?_ ?_ | with_reducible refine z_lenfT ?_ | with_reducible refine f_lenT ?_ | with_reducible refine i_fT ?_ ?_ | with_reducible refine z_isiI ?_ | with_reducible refine z_isiB ?_ | with_reducible refine z_isiF ?_ | with_reducible refine z_isiT ?_ | with_reducible refine z_lenF ?_)
          rename_i r1 nr1
          exact ⟨_, qs2, _, rfl, sub_new (sub_new (Sub.refl _) nr1) nr, .inl put_same, by omega, hs2⟩
      · exact ⟨_, qs, _, rfl, sub_new (Sub.refl _) nr, .inl put_same, by omega, hqs⟩
    rintro σ M2 ⟨u, qs, o, rfl, sb2, lu, hl, hs⟩
    have lq2 : listAt M2 q (iL ns) := listAt_sub lq sb2
    repeat' (first | ((with_reducible refine e_var (d := ?_) ?_ ?_); rotate_left; exact rfl) | with_reducible refine e_cons ?_ | with_reducible refine x_tup ?_ | with_reducible refine e_nil ?_ | with_reducible refine e_int ?_ | with_reducible refine e_idx ?_ | with_reducible refine e_bin ?_ | with_reducible refine b_add ?_ | with_reducible refine b_sub ?_ | with_reducible refine b_mul ?_ ?_ | with_reducible refine i_fr0 ?_ | with_reducible refine i_fr1 ?_ | with_reducible refine e_call ?_ | with_reducible refine e_callK ?_ | with_reducible refine e_bi ?_ | with_reducible refine s_seq ?_ | with_reducible refine s_asg ?_ | with_reducible refine s_ret ?_ | with_reducible refine e_cmp ?_ | with_reducible refine c_eq ?_ | with_reducible refine c_ne ?_ | with_reducible refine c_lt ?_ | with_reducible refine c_le ?_ | with_reducible refine c_gt ?_ | with_reducible refine c_ge ?_ | with_reducible refine x_ifT ?_ | with_reducible refine x_ifF ?_ | with_reducible refine x_ifNT ?_ | with_reducible refine x_ifNF ?_ | with_reducible refine x_ifd (fun hc => ?_) (fun hc => ?_) | with_reducible refine x_ifn (fun hc => ?_) (fun hc => ?_) | with_reducible refine x_if (fun hc => ?_) (fun hc => ?_) | with_reducible refine s_skip ?_ | with_reducible refine s_expr ?_ | with_reducible refine e_mt ?_ | with_reducible refine b_div ?_ ?_ | with_reducible refine b_mod ?_ ?_ | with_reducible refine b_pow ?_ ?_ | with_reducible refine e_tup ?_ | with_reducible refine x_len (by simp only [List.length_cons, List.length_nil]; decide) ?_ | with_reducible refine e_neg ?_ | with_reducible refine x_int ?_ | with_reducible refine e_bl ?_ | with_reducible refine e_non ?_ | with_reducible refine e_str ?_ | with_reducible refine e_and ?_ | with_reducible refine e_or ?_ | with_reducible refine e_not ?_ | with_reducible refine e_truth ?_ | with_reducible refine x_bl ?_ | with_reducible refine t_bl ?_ | with_reducible refine t_int ?_ | with_reducible refine t_tup ?_ | with_reducible refine t_non ?_ | with_reducible refine e_ife ?_ | with_reducible refine e_isi ?_ | with_reducible refine f_abs ?_ | with_reducible refine f_int ?_ | with_reducible refine f_gcd ?_ | with_reducible refine f_max ?_ | with_reducible refine f_min ?_ | with_reducible refine f_tupT ?_ | with_reducible refine s_for ?_ | with_reducible refine w_rng ?_ | with_reducible refine x_rng ?_ ?_ | with_reducible refine w_it ?_ | with_reducible refine x_itT ?_ | with_reducible refine s_while ?_ | with_reducible refine e_lst ?_ | with_reducible refine e_cut ?_ | with_reducible refine e_absent ?_ | with_reducible refine e_asInt ?_ | with_reducible refine x_pI ?_ | with_reducible refine x_pN ?_ | with_reducible refine e_chain ?_ | with_reducible refine e_comp ?_ | with_reducible refine e_tcomp ?_ | with_reducible refine s_brk ?_ | with_reducible refine s_cont ?_ | ((with_reducible refine m_app (ds := ?_) ?_ ?_); rotate_left; (focus ((repeat (first | exact put_same | assumption | refine put_old ?_ (by assumption))); done))) | ((with_reducible refine m_app2 (ds := ?_) ?_ ?_ ?_); rotate_left; (focus ((repeat (first | exact put_same | assumption | refine put_old ?_ (by assumption))); done))) | ((with_reducible refine z_leniL (qs := ?_) ?_ ?_); rotate_left; first | exact Or.inl put_same | assumption | exact Or.inl (by assumption) | (refine Or.inl ?_; (focus ((repeat (first | exact put_same | assumption | refine put_old ?_ (by assumption))); done))) | exact listAt_put (by assumption) (by assumption) | exact listAt_sub (by assumption) (by assumption)) | ((with_reducible refine z_lenfL (qs := ?_) ?_ ?_); rotate_left; first | exact Or.inl put_same | assumption | exact Or.inl (by assumption) | (refine Or.inl ?_; (focus ((repeat (first | exact put_same | assumption | refine put_old ?_ (by assumption))); done))) | exact listAt_put (by assumption) (by assumption) | exact listAt_sub (by assumption) (by assumption)) | ((with_reducible refine f_lenL (ds := ?_) ?_ ?_); rotate_left; first | exact Or.inl put_same | assumption | exact Or.inl (by assumption) | (refine Or.inl ?_; (focus ((repeat (first | exact put_same | assumption | refine put_old ?_ (by assumption))); done))) | exact listAt_put (by assumption) (by assumption) | exact listAt_sub (by assumption) (by assumption)) | ((with_reducible refine i_iL (ns := ?_) ?_ ?_ ?_); rotate_left; first | exact Or.inl put_same | assumption | exact Or.inl (by assumption) | (refine Or.inl ?_; (focus ((repeat (first | exact put_same | assumption | refine put_old ?_ (by assumption))); done))) | exact listAt_put (by assumption) (by assumption) | exact listAt_sub (by assumption) (by assumption)) | ((with_reducible refine i_fL (ns := ?_) ?_ ?_ ?_); rotate_left; first | exact Or.inl put_same | assumption | exact Or.inl (by assumption) | (refine Or.inl ?_; (focus ((repeat (first | exact put_same | assumption | refine put_old ?_ (by assumption))); done))) | exact listAt_put (by assumption) (by assumption) | exact listAt_sub (by assumption) (by assumption)) | ((with_reducible refine f_tupL (ds := ?_) ?_ ?_); rotate_left; first | exact Or.inl put_same | assumption | exact Or.inl (by assumption) | (refine Or.inl ?_; (focus ((repeat (first | exact put_same | assumption | refine put_old ?_ (by assumption))); done))) | exact listAt_put (by assumption) (by assumption) | exact listAt_sub (by assumption) (by assumption)) | ((with_reducible refine x_itL (ds := ?_) ?_ ?_); rotate_left; first | exact Or.inl put_same | assumption | exact Or.inl (by assumption) | (refine Or.inl ?_; (focus ((repeat (first | exact put_same | assumption | refine put_old ?_ (by assumption))); done))) | exact listAt_put (by assumption) (by assumption) | exact listAt_sub (by assumption) (by assumption)) | with_reducible refine x_new (fun r nr => ?_) | ((with_reducible refine b_lst (ds := ?_) (es := ?_) ?_ ?_ ?_ ?_); rotate_left 2; (focus ((repeat (first | exact put_same | assumption | refine put_old ?_ (by assumption))); done)); (focus ((repeat (first | exact put_same | assumption | refine put_old ?_ (by assumption))); done))) | ((with_reducible refine b_rep (ds := ?_) ?_ ?_ ?_); rotate_left; (focus ((repeat (first | exact put_same | assumption | refine put_old ?_ (by assumption))); done))) | with_reducible refine f_lstT ?_ | with_reducible refine b_tup ?_ ?_ | with_reducible refine z_lenfT ?_ | with_reducible refine f_lenT ?_ | with_reducible refine i_fT ?_ ?_ | with_reducible refine z_isiI ?_ | with_reducible refine z_isiB ?_ | with_reducible refine z_isiF ?_ | with_reducible refine z_isiT ?_ | with_reducible refine z_lenF ?_)
    refine s_join (fun σ M3 => ∃ (u : Addr) (qs : List Rat) (o : Option D), σ = [some (.int c), some (.int e), some (.ref q), some (.int sz), some (.int g), some (.ref u), o, none, none] ∧ Sub M2 M3 ∧ listAt M3 u (fL qs) ∧ qs.length ≤ 13 ∧ ∀ q ∈ qs, Sz 200 q) ?_ ?_
    · repeat' (first | ((with_reducible refine e_var (d := ?_) ?_ ?_); rotate_left; exact rfl) | with_reducible refine e_cons ?_ | with_reducible refine x_tup ?_ | with_reducible refine e_nil ?_ | with_reducible refine e_int ?_ | with_reducible refine e_idx ?_ | with_reducible refine e_bin ?_ | with_reducible refine b_add ?_ | with_reducible refine b_sub ?_ | with_reducible refine b_mul ?_ ?_ | with_reducible refine i_fr0 ?_ | with_reducible refine i_fr1 ?_ | with_reducible refine e_call ?_ | with_reducible refine e_callK ?_ | with_reducible refine e_bi ?_ | with_reducible refine s_seq ?_ | with_reducible refine s_asg ?_ | with_reducible refine s_ret ?_ | with_reducible refine e_cmp ?_ | with_reducible refine c_eq ?_ | with_reducible refine c_ne ?_ | with_reducible refine c_lt ?_ | with_reducible refine c_le ?_ | with_reducible refine c_gt ?_ | with_reducible refine c_ge ?_ | with_reducible refine s_ife ?_ | with_reducible refine x_ifT ?_ | with_reducible refine x_ifF ?_ | with_reducible refine x_ifNT ?_ | with_reducible refine x_ifNF ?_ | with_reducible refine x_ifd (fun hc => ?_) (fun hc => ?_) | with_reducible refine x_ifn (fun hc => ?_) (fun hc => ?_) | with_reducible refine x_if (fun hc => ?_) (fun hc => ?_) | with_reducible refine s_skip ?_ | with_reducible refine s_expr ?_ | with_reducible refine e_mt ?_ | with_reducible refine b_div ?_ ?_ | with_reducible refine b_mod ?_ ?_ | with_reducible refine b_pow ?_ ?_ | with_reducible refine e_tup ?_ | with_reducible refine x_len (by simp only [List.length_cons, List.length_nil]; decide) ?_ | with_reducible refine e_neg ?_ | with_reducible refine x_int ?_ | with_reducible refine e_bl ?_ | with_reducible refine e_non ?_ | with_reducible refine e_str ?_ | with_reducible refine e_and ?_ | with_reducible refine e_or ?_ | with_reducible refine e_not ?_ | with_reducible refine e_truth ?_ | with_reducible refine x_bl ?_ | with_reducible refine t_bl ?_ | with_reducible refine t_int ?_ | with_reducible refine t_tup ?_ | with_reducible refine t_non ?_ | with_reducible refine e_ife ?_ | with_reducible refine e_isi ?_ | with_reducible refine f_abs ?_ | with_reducible refine f_int ?_ | with_reducible refine f_gcd ?_ | with_reducible refine f_max ?_ | with_reducible refine f_min ?_ | with_reducible refine f_tupT ?_ | with_reducible refine s_for ?_ | with_reducible refine w_rng ?_ | with_reducible refine x_rng ?_ ?_ | with_reducible refine w_it ?_ | with_reducible refine x_itT ?_ | with_reducible refine s_while ?_ | with_reducible refine e_lst ?_ | with_reducible refine e_cut ?_ | with_reducible refine e_absent ?_ | with_reducible refine e_asInt ?_ | with_reducible refine x_pI ?_ | with_reducible refine x_pN ?_ | with_reducible refine e_chain ?_ | with_reducible refine e_comp ?_ | with_reducible refine e_tcomp ?_ | with_reducible refine s_brk ?_ | with_reducible refine s_cont ?_ | ((with_reducible refine m_app (ds := ?_) ?_ ?_); rotate_left; (focus ((repeat (first | exact put_same | assumption | refine put_old ?_ (by assumption))); done))) | ((with_reducible refine m_app2 (ds := ?_) ?_ ?_ ?_); rotate_left; (focus ((repeat (first | exact put_same | assumption | refine put_old ?_ (by assumption))); done))) | ((with_reducible refine z_leniL (qs := ?_) ?_ ?_); rotate_left; first | exact Or.inl put_same | assumption | exact Or.inl (by assumption) | (refine Or.inl ?_; (focus ((repeat (first | exact put_same | assumption | refine put_old ?_ (by assumption))); done))) | exact listAt_put (by assumption) (by assumption) | exact listAt_sub (by assumption) (by assumption)) | ((with_reducible refine z_lenfL (qs := ?_) ?_ ?_); rotate_left; first | exact Or.inl put_same | assumption | exact Or.inl (by assumption) | (refine Or.inl ?_; (focus ((repeat (first | exact put_same | assumption | refine put_old ?_ (by assumption))); done))) | exact listAt_put (by assumption) (by assumption) | exact listAt_sub (by assumption) (by assumption)) | ((with_reducible refine f_lenL (ds := ?_) ?_ ?_); rotate_left; first | exact Or.inl put_same | assumption | exact Or.inl (by assumption) | (refine Or.inl ?_; (focus ((repeat (first | exact put_same | assumption | refine put_old ?_ (by assumption))); done))) | exact listAt_put (by assumption) (by assumption) | exact listAt_sub (by assumption) (by assumption)) | ((with_reducible refine i_iL (ns := ?_) ?_ ?_ ?_); rotate_left; first | exact Or.inl put_same | assumption | exact Or.inl (by assumption) | (refine Or.inl ?_; (focus ((repeat (first | exact put_same | assumption | refine put_old ?_ (by assumption))); done))) | exact listAt_put (by assumption) (by assumption) | exact listAt_sub (by assumption) (by assumption)) | ((with_reducible refine i_fL (ns := ?_) ?_ ?_ ?_); rotate_left; first | exact Or.inl put_same | assumption | exact Or.inl (by assumption) | (refine Or.inl ?_; (focus ((repeat (first | exact put_same | assumption | refine put_old ?_ (by assumption))); done))) | exact listAt_put (by assumption) (by assumption) | exact listAt_sub (by assumption) (by assumption)) | ((with_reducible refine f_tupL (ds := ?_) ?_ ?_); rotate_left; first | exact Or.inl put_same | assumption | exact Or.inl (by assumption) | (refine Or.inl ?_; (focus ((repeat (first | exact put_same | assumption | refine put_old ?_ (by assumption))); done))) | exact listAt_put (by assumption) (by assumption) | exact listAt_sub (by assumption) (by assumption)) | ((with_reducible refine x_itL (ds := ?_) ?_ ?_); rotate_left; first | exact Or.inl put_same | assumption | exact Or.inl (by assumption) | (refine Or.inl ?_; (focus ((repeat (first | exact put_same | assumption | refine put_old ?_ (by assumption))); done))) | exact listAt_put (by assumption) (by assumption) | exact listAt_sub (by assumption) (by assumption)) | with_reducible refine x_new (fun r nr => ?_) | ((with_reducible refine b_lst (ds := ?_) (es := ?_) ?_ ?_ ?_ ?_); rotate_left 2; (focus ((repeat (first | exact put_same | assumption | refine put_old ?_ (by assumption))); done)); (focus ((repeat (first | exact put_same | assumption | refine put_old ?_ (by assumption))); done))) | ((with_reducible refine b_rep (ds := ?_) ?_ ?_ ?_); rotate_left; (focus ((repeat (first | exact put_same | assumption | refine put_old ?_ (by assumption))); done))) | with_reducible refine f_lstT ?_ | with_reducible refine b_tup ?_ ?_ | with_reducible refine z_lenfT ?_ | with_reducible refine f_lenT ?_ | with_reducible refine i_fT ?_ ?_ | with_reducible refine z_isiI ?_ | with_reducible refine z_isiB ?_ | with_reducible refine z_isiF ?_ | with_reducible refine z_isiT ?_ | with_reducible refine z_lenF ?_)
      · omega
      · exact ⟨_, [], _, rfl, sub_new (Sub.refl _) nr, .inl put_same, by decide, fun z hz => by cases hz⟩
      · exact ⟨_, qs, _, rfl, Sub.refl _, lu, hl, hs⟩
    rintro σ M3 ⟨u, qs, o, rfl, sb3, lu, hl, hs⟩
    have lq3 : listAt M3 q (iL ns) := listAt_sub lq2 sb3
    have hSq : Sq M3 (.ref u) qs := .inr ⟨u, rfl, lu⟩
    have ht := trimQ_trim qs
    have htl : (trimQ qs).length ≤ 13 := by rw [trimQ_len]; have := szTo_le qs qs.length; omega
    have hts := trimQ_mem hs
    have t6 : ((6 : Int)).toNat = 6 := rfl
    have t8 : ((8 : Int)).toNat = 8 := rfl
    have fin : ∀ (number : Int) (r : Addr), M3 r = none → ((trimQ qs).length : Int) ≤ number + 1 → 0 ≤ number → number ≤ 61 → ∃ M4, Sub M4 (put M3 r (.lst [.tup (fL (trimQ qs)), .int number])) ∧ R (.ref r) M4 := fun number r nr n1 n2 n3 => by
      have e : number = ((number.toNat : Nat) : Int) := by omega
      refine ⟨_, Sub.refl _, h r _ (trimQ qs) number.toNat (sub_new ((sb.trans sb2).trans sb3) nr) (.inl ?_) ht (by omega) (by omega) htl hts⟩
      rw [put_same, ← e]
    repeat' (first | with_reducible refine c__law_trim h3 hSq ?_ ?_ | ((with_reducible refine e_var (d := ?_) ?_ ?_); rotate_left; exact rfl) | with_reducible refine e_cons ?_ | with_reducible refine x_tup ?_ | with_reducible refine e_nil ?_ | with_reducible refine e_int ?_ | with_reducible refine e_idx ?_ | with_reducible refine e_bin ?_ | with_reducible refine b_add ?_ | with_reducible refine b_sub ?_ | with_reducible refine b_mul ?_ ?_ | with_reducible refine i_fr0 ?_ | with_reducible refine i_fr1 ?_ | with_reducible refine e_call ?_ | with_reducible refine e_callK ?_ | with_reducible refine e_bi ?_ | with_reducible refine s_seq ?_ | with_reducible refine s_asg ?_ | with_reducible refine s_ret ?_ | with_reducible refine e_cmp ?_ | with_reducible refine c_eq ?_ | with_reducible refine c_ne ?_ | with_reducible refine c_lt ?_ | with_reducible refine c_le ?_ | with_reducible refine c_gt ?_ | with_reducible refine c_ge ?_ | with_reducible refine s_ife ?_ | with_reducible refine x_ifT ?_ | with_reducible refine x_ifF ?_ | with_reducible refine x_ifNT ?_ | with_reducible refine x_ifNF ?_ | with_reducible refine x_ifd (fun hc => ?_) (fun hc => ?_) | with_reducible refine x_ifn (fun hc => ?_) (fun hc => ?_) | with_reducible refine x_if (fun hc => ?_) (fun hc => ?_) | with_reducible refine s_skip ?_ | with_reducible refine s_expr ?_ | with_reducible refine e_mt ?_ | with_reducible refine b_div ?_ ?_ | with_reducible refine b_mod ?_ ?_ | with_reducible refine b_pow ?_ ?_ | with_reducible refine e_tup ?_ | with_reducible refine x_len (by simp only [List.length_cons, List.length_nil]; decide) ?_ | with_reducible refine e_neg ?_ | with_reducible refine x_int ?_ | with_reducible refine e_bl ?_ | with_reducible refine e_non ?_ | with_reducible refine e_str ?_ | with_reducible refine e_and ?_ | with_reducible refine e_or ?_ | with_reducible refine e_not ?_ | with_reducible refine e_truth ?_ | with_reducible refine x_bl ?_ | with_reducible refine t_bl ?_ | with_reducible refine t_int ?_ | with_reducible refine t_tup ?_ | with_reducible refine t_non ?_ | with_reducible refine e_ife ?_ | with_reducible refine e_isi ?_ | with_reducible refine f_abs ?_ | with_reducible refine f_int ?_ | with_reducible refine f_gcd ?_ | with_reducible refine f_max ?_ | with_reducible refine f_min ?_ | with_reducible refine f_tupT ?_ | with_reducible refine s_for ?_ | with_reducible refine w_rng ?_ | with_reducible refine x_rng ?_ ?_ | with_reducible refine w_it ?_ | with_reducible refine x_itT ?_ | with_reducible refine s_while ?_ | with_reducible refine e_lst ?_ | with_reducible refine e_cut ?_ | with_reducible refine e_absent ?_ | with_reducible refine e_asInt ?_ | with_reducible refine x_pI ?_ | with_reducible refine x_pN ?_ | with_reducible refine e_chain ?_ | with_reducible refine e_comp ?_ | with_reducible refine e_tcomp ?_ | with_reducible refine s_brk ?_ | with_reducible refine s_cont ?_ | ((with_reducible refine m_app (ds := ?_) ?_ ?_); rotate_left; (focus ((repeat (first | exact put_same | assumption | refine put_old ?_ (by assumption))); done))) | ((with_reducible refine m_app2 (ds := ?_) ?_ ?_ ?_); rotate_left; (focus ((repeat (first | exact put_same | assumption | refine put_old ?_ (by assumption))); done))) | ((with_reducible refine z_leniL (qs := ?_) ?_ ?_); rotate_left; first | exact Or.inl put_same | assumption | exact Or.inl (by assumption) | (refine Or.inl ?_; (focus ((repeat (first | exact put_same | assumption | refine put_old ?_ (by assumption))); done))) | exact listAt_put (by assumption) (by assumption) | exact listAt_sub (by assumption) (by assumption)) | ((with_reducible refine z_lenfL (qs := ?_) ?_ ?_); rotate_left; first | exact Or.inl put_same | assumption | exact Or.inl (by assumption) | (refine Or.inl ?_; (focus ((repeat (first | exact put_same | assumption | refine put_old ?_ (by assumption))); done))) | exact listAt_put (by assumption) (by assumption) | exact listAt_sub (by assumption) (by assumption)) | ((with_reducible refine f_lenL (ds := ?_) ?_ ?_); rotate_left; first | exact Or.inl put_same | assumption | exact Or.inl (by assumption) | (refine Or.inl ?_; (focus ((repeat (first | exact put_same | assumption | refine put_old ?_ (by assumption))); done))) | exact listAt_put (by assumption) (by assumption) | exact listAt_sub (by assumption) (by assumption)) | ((with_reducible refine i_iL (ns := ?_) ?_ ?_ ?_); rotate_left; first | exact Or.inl put_same | assumption | exact Or.inl (by assumption) | (refine Or.inl ?_; (focus ((repeat (first | exact put_same | assumption | refine put_old ?_ (by assumption))); done))) | exact listAt_put (by assumption) (by assumption) | exact listAt_sub (by assumption) (by assumption)) | ((with_reducible refine i_fL (ns := ?_) ?_ ?_ ?_); rotate_left; first | exact Or.inl put_same | assumption | exact Or.inl (by assumption) | (refine Or.inl ?_; (focus ((repeat (first | exact put_same | assumption | refine put_old ?_ (by assumption))); done))) | exact listAt_put (by assumption) (by assumption) | exact listAt_sub (by assumption) (by assumption)) | ((with_reducible refine f_tupL (ds := ?_) ?_ ?_); rotate_left; first | exact Or.inl put_same | assumption | exact Or.inl (by assumption) | (refine Or.inl ?_; (focus ((repeat (first | exact put_same | assumption | refine put_old ?_ (by assumption))); done))) | exact listAt_put (by assumption) (by assumption) | exact listAt_sub (by assumption) (by assumption)) | ((with_reducible refine x_itL (ds := ?_) ?_ ?_); rotate_left; first | exact Or.inl put_same | assumption | exact Or.inl (by assumption) | (refine Or.inl ?_; (focus ((repeat (first | exact put_same | assumption | refine put_old ?_ (by assumption))); done))) | exact listAt_put (by assumption) (by assumption) | exact listAt_sub (by assumption) (by assumption)) | with_reducible refine x_new (fun r nr => ?_) | ((with_reducible refine b_lst (ds := ?_) (es := ?_) ?_ ?_ ?_ ?_); rotate_left 2; (focus ((repeat (first | exact put_same | assumption | refine put_old ?_ (by assumption))); done)); (focus ((repeat (first | exact put_same | assumption | refine put_old ?_ (by assumption))); done))) | ((with_reducible refine b_rep (ds := ?_) ?_ ?_ ?_); rotate_left; (focus ((repeat (first | exact put_same | assumption | refine put_old ?_ (by assumption))); done))) | with_reducible refine f_lstT ?_ | with_reducible refine b_tup ?_ ?_ | with_reducible refine z_lenfT ?_ | with_reducible refine f_lenT ?_ | with_reducible refine i_fT ?_ ?_ | with_reducible refine z_isiI ?_ | with_reducible refine z_isiB ?_ | with_reducible refine z_isiF ?_ | with_reducible refine z_isiT ?_ | with_reducible refine z_lenF ?_)
    · omega
    · omega
    · omega
    · omega
    · refine fin _ _ nr ?_ ?_ ?_
      all_goals (rw [t6, t8]; (repeat' split) <;> omega)
    · refine fin _ _ nr ?_ ?_ ?_
      all_goals (rw [t6]; split <;> omega)
theorem c__law_question {c e : Int} (hG : G "_law_question" = sp__law_question) (h : ∀ (r : Addr) (M' : Mp) (qs : List Rat) (n : Nat), Sub M M' → listAt M' r [.tup (fL qs), .int n] → Trim qs → qs.length ≤ n + 1 → n ≤ 61 → qs.length ≤ 13 → (∀ q ∈ qs, Sz 200 q) → Q (.ref r) M') : G "_law_question" [.int c, .int e] M Q := by rw [hG]; exact ⟨c, e, rfl, h⟩
theorem comp_rng_inv {σ : DSt} {R : List D → Mp → Prop} {v : Nat} {lo hi : Int} {elt : Px} (I : Nat → List D → Mp → Prop) (hz : (hi - lo).toNat ≤ sizeLine) (h0 : I 0 [] M) (hl : ∀ i acc M, I i acc M → acc.length ≤ i)
    (hs : ∀ (i : Nat) acc M1, (i : Int) < hi - lo → I i acc M1 → wE G elt (σ.set v (some (.int (lo + i)))) M1 fun d M2 => ∃ M3, Sub M3 M2 ∧ I (i + 1) (acc ++ [d]) M3)
    (hR : ∀ acc M', I (hi - lo).toNat acc M' → R acc M') : ∃ k, compN (wE G elt) (wE G (.bl true)) [v] true (nRng lo hi) σ R k 0 [] M := by
  refine ⟨(hi - lo).toNat + 1, ?_⟩
  have key : ∀ (j i : Nat) (acc : List D) (M : Mp), i + j = (hi - lo).toNat → I i acc M → compN (wE G elt) (wE G (.bl true)) [v] true (nRng lo hi) σ R (j + 1) i acc M := by
    intro j
    induction j with
    | zero =>
      intro i acc M e z
      unfold compN nRng
      rw [if_neg (by omega)]
      have e : i = (hi - lo).toNat := by omega
      subst e
      exact hR _ _ z
    | succ j ih =>
      intro i acc M e z
      unfold compN
      unfold nRng
      rw [if_pos (by omega)]
      have hll := hl _ _ _ z
      refine ⟨_, rfl, e_bl (.inl ⟨rfl, wE_mono (fun d M2 ⟨M3, sb, z⟩ => ⟨by omega, M3, sb, ih (i + 1) _ M3 (by omega) z⟩) (hs i acc M (by omega) z)⟩)⟩
  exact key _ 0 [] M (by omega) h0
theorem tie_sz {ps : List Rat} {n : Nat} (hl : ps.length ≤ 13) (hn : n ≤ 61) (hs : ∀ p ∈ ps, Sz 200 p) : ∀ w ∈ ties ps n, Sz 30000 w := by
  intro w hw
  unfold ties at hw
  obtain ⟨k, hk, rfl⟩ := List.mem_map.mp hw
  have hk := List.mem_range.mp hk
  unfold tie
  refine Sz.mono (n := 20000 + 10) (Sz.div ?_ (sz_natR (L := 10) (Bd.of_lt (by omega) (by omega)) (by decide)) (natR_ne (by omega))) (by decide)
  have := sumTo_sz (f := fun i => ps.getD i 0 * (cR k i / cR n i)) (L := 200 + 1010) (n := min (k + 1) ps.length) fun j hj => ?_
  · refine this.mono ?_
    have : min (k + 1) ps.length * (200 + 1010 + 1) ≤ 13 * 1211 := Nat.mul_le_mul (by omega) (by omega)
    omega
  · by_cases q : j ≤ n
    · exact sz_term (by decide) (by omega) (by omega) q hs
    · rw [getD_out (by omega), Rat.zero_mul]; exact Sz.zero (by decide)
theorem rs_sz {ws : List Rat} {L : Nat} (hN : ws.length ≤ 1000) (hs : ∀ w ∈ ws, Sz L w) : ∀ w ∈ rs ws, Sz (2 * L + 100) w := by
  intro w hw
  unfold rs at hw
  obtain ⟨k, hk, rfl⟩ := List.mem_map.mp hw
  have hk := List.mem_range.mp hk
  have q : ∀ x : Nat, x ≤ 1001 → Sz 20 ((x : Rat) / ((ws.length + 1 : Nat) : Rat)) := fun x hx =>
    (Sz.div (sz_natR (L := 10) (Bd.of_lt (by omega) (by omega)) (by decide)) (sz_natR (L := 10) (Bd.of_lt (by omega) (by omega)) (by decide)) (natR_ne (by omega)))
  have g : ∀ j : Nat, Sz (L + 1) (ws.getD j 0) := fun j => sz_getD (fun z hz => (hs z hz).mono (by omega)) (by omega)
  have A : Sz (L + 21) (if 0 < k then ws.getD (k - 1) 0 * ((k : Rat) / ((ws.length + 1 : Nat) : Rat)) else 0) := by
    split
    · exact ((g _).mul (q k (by omega))).mono (by omega)
    · exact Sz.zero (by omega)
  have B : Sz (L + 21) (if k < ws.length then ws.getD k 0 * (((ws.length - k : Nat) : Rat) / ((ws.length + 1 : Nat) : Rat)) else 0) := by
    split
    · exact ((g _).mul (q _ (by omega))).mono (by omega)
    · exact Sz.zero (by omega)
  exact (A.add B).mono (by omega)
theorem iL_flat (k : Nat) (zs : List Int) : (List.replicate k (iL zs)).flatten = iL (List.replicate k zs).flatten := by
  unfold iL
  induction k with
  | zero => rfl
  | succ k ih => rw [List.replicate_succ, List.replicate_succ, List.flatten_cons, List.flatten_cons, List.map_append, ih]
/-- [..] + [..] * k, of ints -/
theorem e_sizes {σ : DSt} {A B : Px} {za zb : List Int} {k : Int} (hA : ∀ (M : Mp) (Q : DK), Q (.tup (iL za)) M → wE G A σ M Q) (hB : ∀ (M : Mp) (Q : DK), Q (.tup (iL zb)) M → wE G B σ M Q)
    (hk : 0 ≤ k ∧ k < 1000) (h1 : za.length ≤ 1000) (h2 : zb.length ≤ 1000) (h3 : (List.replicate k.toNat zb).flatten.length ≤ 1000000)
    (h : ∀ r M', Sub M M' → listAt M' r (iL (za ++ (List.replicate k.toNat zb).flatten)) → Q (.ref r) M') : wE G (.bin .Add (.lst A) (.bin .Mult (.lst B) (.int k))) σ M Q := by
  have line : (2000000 : Nat) < sizeLine := by decide
  refine e_bin (e_lst (hA _ _ ⟨_, rfl, by rw [iL_len]; omega, fun a na => ?_⟩))
  refine e_bin (e_lst (hB _ _ ⟨_, rfl, by rw [iL_len]; omega, fun b nb => ?_⟩))
  refine e_int (b_rep put_same ⟨by omega, by omega, ?_⟩ fun c nc => ?_)
  · rw [iL_len]
    have : zb.length * k.toNat ≤ 1000 * 1000 := Nat.mul_le_mul h2 (by omega)
    omega
  refine b_lst (put_old (put_old put_same nb) nc) put_same ?_ fun r nr => ?_
  · rw [iL_flat, iL_len, iL_len]; omega
  · refine h r _ (sub_new (sub_new (sub_new (sub_new (Sub.refl M) na) nb) nc) nr) (.inl ?_)
    rw [put_same, iL_flat, iL_app]
theorem c_digits2 {c : Int} {u : Addr} {zs : List Int} (hG : G "_law_digits" = sp__law_digits) (hl : listAt M u (iL zs)) (hz : zs.length ≤ 1000000) (hp : ∀ z ∈ zs, 0 < z) (h : ∀ r M' ns, Sub M M' → listAt M' r (iL ns) → Digs zs ns → Q (.ref r) M') : G "_law_digits" [.int c, .ref u] M Q :=
  c__law_digits hG hl hz hp fun r ns nr hd => h r _ ns (sub_new (Sub.refl M) nr) (.inl put_same) hd
/-- a question as it stands -/
def AskAt (M : Mp) (u : Addr) : Prop := ∃ (qs : List Rat) (n : Nat), listAt M u [.tup (fL qs), .int n] ∧ Trim qs ∧ qs.length ≤ n + 1 ∧ n ≤ 61 ∧ qs.length ≤ 13 ∧ ∀ q ∈ qs, Sz 200 q
theorem AskAt.sub {M M' : Mp} {u : Addr} (h : AskAt M u) (s : Sub M M') : AskAt M' u := by
  obtain ⟨qs, n, l, r⟩ := h
  exact ⟨qs, n, listAt_sub l s, r⟩
def sp_law : DSp := fun ds M R => ∃ (u : Addr) (ns : List Int), ds = [.ref u] ∧ listAt M u (iL ns) ∧ (∀ z ∈ ns, Bd 1048576 z) ∧ R (.bl true) M
theorem ok_law (g1 : G "_law_pascal" = sp__law_pascal) (g2 : G "_law_question" = sp__law_question) (g3 : G "_law_cell" = sp__law_cell 1048576) (g4 : G "tie_shares" = sp_tie_shares 1000) (g5 : G "_law_is_row" = sp__law_is_row) (g6 : G "_law_summed" = sp__law_summed)
    (g7 : G "_law_digits" = sp__law_digits) (g8 : G "_law_fraction" = sp__law_fraction) (g9 : G "_law_trim" = sp__law_trim) (g10 : G "_law_factors" = sp__law_factors) (g11 : G "raised" = sp_raised) (ds M R) (h : sp_law ds M R) : wBody G p_law 11 ds M R := by
  obtain ⟨u, ns, rfl, hu, hb, h⟩ := h
  unfold p_law wBody
  repeat' (first | with_reducible refine c__law_pascal g1 ?_ (fun r0 M1 s1 hP => ?_) | ((with_reducible refine e_var (d := ?_) ?_ ?_); rotate_left; exact rfl) | with_reducible refine e_cons ?_ | with_reducible refine x_tup ?_ | with_reducible refine e_nil ?_ | with_reducible refine e_int ?_ | with_reducible refine e_idx ?_ | with_reducible refine e_bin ?_ | with_reducible refine b_add ?_ | with_reducible refine b_sub ?_ | with_reducible refine b_mul ?_ ?_ | with_reducible refine i_fr0 ?_ | with_reducible refine i_fr1 ?_ | with_reducible refine e_call ?_ | with_reducible refine e_callK ?_ | with_reducible refine e_bi ?_ | with_reducible refine s_seq ?_ | with_reducible refine s_asg ?_ | with_reducible refine s_ret ?_ | with_reducible refine e_cmp ?_ | with_reducible refine c_eq ?_ | with_reducible refine c_ne ?_ | with_reducible refine c_lt ?_ | with_reducible refine c_le ?_ | with_reducible refine c_gt ?_ | with_reducible refine c_ge ?_ | with_reducible refine x_ifT ?_ | with_reducible refine x_ifF ?_ | with_reducible refine x_ifNT ?_ | with_reducible refine x_ifNF ?_ | with_reducible refine x_ifd (fun hc => ?_) (fun hc => ?_) | with_reducible refine x_ifn (fun hc => ?_) (fun hc => ?_) | with_reducible refine x_if (fun hc => ?_) (fun hc => ?_) | with_reducible refine s_skip ?_ | with_reducible refine s_expr ?_ | with_reducible refine e_mt ?_ | with_reducible refine b_div ?_ ?_ | with_reducible refine b_mod ?_ ?_ | with_reducible refine b_pow ?_ ?_ | with_reducible refine e_tup ?_ | with_reducible refine x_len (by simp only [List.length_cons, List.length_nil]; decide) ?_ | with_reducible refine e_neg ?_ | with_reducible refine x_int ?_ | with_reducible refine e_bl ?_ | with_reducible refine e_non ?_ | with_reducible refine e_str ?_ | with_reducible refine e_and ?_ | with_reducible refine e_or ?_ | with_reducible refine e_not ?_ | with_reducible refine e_truth ?_ | with_reducible refine x_bl ?_ | with_reducible refine t_bl ?_ | with_reducible refine t_int ?_ | with_reducible refine t_tup ?_ | with_reducible refine t_non ?_ | with_reducible refine e_ife ?_ | with_reducible refine e_isi ?_ | with_reducible refine f_abs ?_ | with_reducible refine f_int ?_ | with_reducible refine f_gcd ?_ | with_reducible refine f_max ?_ | with_reducible refine f_min ?_ | with_reducible refine f_tupT ?_ | with_reducible refine s_for ?_ | with_reducible refine w_rng ?_ | with_reducible refine x_rng ?_ ?_ | with_reducible refine w_it ?_ | with_reducible refine x_itT ?_ | with_reducible refine s_while ?_ | with_reducible refine e_lst ?_ | with_reducible refine e_cut ?_ | with_reducible refine e_absent ?_ | with_reducible refine e_asInt ?_ | with_reducible refine x_pI ?_ | with_reducible refine x_pN ?_ | with_reducible refine e_chain ?_ | with_reducible refine e_comp ?_ | with_reducible refine e_tcomp ?_ | with_reducible refine s_brk ?_ | with_reducible refine s_cont ?_ | ((with_reducible refine m_app (ds := ?_) ?_ ?_); rotate_left; (focus ((repeat (first | exact put_same | assumption | refine put_old ?_ (by assumption))); done))) | ((with_reducible refine m_app2 (ds := ?_) ?_ ?_ ?_); rotate_left; (focus ((repeat (first | exact put_same | assumption | refine put_old ?_ (by assumption))); done))) | ((with_reducible refine z_leniL (qs := ?_) ?_ ?_); rotate_left; first | exact Or.inl put_same | assumption | exact Or.inl (by assumption) | (refine Or.inl ?_; (focus ((repeat (first | exact put_same | assumption | refine put_old ?_ (by assumption))); done))) | exact listAt_put (by assumption) (by assumption) | exact listAt_sub (by assumption) (by assumption)) | ((with_reducible refine z_lenfL (qs := ?_) ?_ ?_); rotate_left; first | exact Or.inl put_same | assumption | exact Or.inl (by assumption) | (refine Or.inl ?_; (focus ((repeat (first | exact put_same | assumption | refine put_old ?_ (by assumption))); done))) | exact listAt_put (by assumption) (by assumption) | exact listAt_sub (by assumption) (by assumption)) | ((with_reducible refine f_lenL (ds := ?_) ?_ ?_); rotate_left; first | exact Or.inl put_same | assumption | exact Or.inl (by assumption) | (refine Or.inl ?_; (focus ((repeat (first | exact put_same | assumption | refine put_old ?_ (by assumption))); done))) | exact listAt_put (by assumption) (by assumption) | exact listAt_sub (by assumption) (by assumption)) | ((with_reducible refine i_iL (ns := ?_) ?_ ?_ ?_); rotate_left; first | exact Or.inl put_same | assumption | exact Or.inl (by assumption) | (refine Or.inl ?_; (focus ((repeat (first | exact put_same | assumption | refine put_old ?_ (by assumption))); done))) | exact listAt_put (by assumption) (by assumption) | exact listAt_sub (by assumption) (by assumption)) | ((with_reducible refine i_fL (ns := ?_) ?_ ?_ ?_); rotate_left; first | exact Or.inl put_same | assumption | exact Or.inl (by assumption) | (refine Or.inl ?_; (focus ((repeat (first | exact put_same | assumption | refine put_old ?_ (by assumption))); done))) | exact listAt_put (by assumption) (by assumption) | exact listAt_sub (by assumption) (by assumption)) | ((with_reducible refine f_tupL (ds := ?_) ?_ ?_); rotate_left; first | exact Or.inl put_same | assumption | exact Or.inl (by assumption) | (refine Or.inl ?_; (focus ((repeat (first | exact put_same | assumption | refine put_old ?_ (by assumption))); done))) | exact listAt_put (by assumption) (by assumption) | exact listAt_sub (by assumption) (by assumption)) | ((with_reducible refine x_itL (ds := ?_) ?_ ?_); rotate_left; first | exact Or.inl put_same | assumption | exact Or.inl (by assumption) | (refine Or.inl ?_; (focus ((repeat (first | exact put_same | assumption | refine put_old ?_ (by assumption))); done))) | exact listAt_put (by assumption) (by assumption) | exact listAt_sub (by assumption) (by assumption)) | with_reducible refine x_new (fun r nr => ?_) | ((with_reducible refine b_lst (ds := ?_) (es := ?_) ?_ ?_ ?_ ?_); rotate_left 2; (focus ((repeat (first | exact put_same | assumption | refine put_old ?_ (by assumption))); done)); (focus ((repeat (first | exact put_same | assumption | refine put_old ?_ (by assumption))); done))) | ((with_reducible refine b_rep (ds := ?_) ?_ ?_ ?_); rotate_left; (focus ((repeat (first | exact put_same | assumption | refine put_old ?_ (by assumption))); done))) | with_reducible refine f_lstT ?_ | with_reducible refine b_tup ?_ ?_ | with_reducible refine z_lenfT ?_ | with_reducible refine f_lenT ?_ | with_reducible refine i_fT ?_ ?_ | with_reducible refine z_isiI ?_ | with_reducible refine z_isiB ?_ | with_reducible refine z_isiF ?_ | with_reducible refine z_isiT ?_ | with_reducible refine z_lenF ?_)
  · decide
  · decide
  have hP : Pas M1 r0 62 := hP
  have hu1 := listAt_sub hu s1
  refine comp_rng_inv (fun i acc M' => Sub M1 M' ∧ ∃ us : List Addr, acc = us.map D.ref ∧ us.length = i ∧ ∀ v ∈ us, AskAt M' v) (by decide) ⟨Sub.refl _, [], rfl, rfl, fun v hv => by cases hv⟩ (fun i acc M' ⟨_, us, e, l, _⟩ => by rw [e, List.length_map, l]; exact Nat.le_refl _) ?_ ?_
  · rintro i acc M' hi ⟨sb, us, rfl, hl, ha⟩
    have hu2 := listAt_sub hu1 sb
    have mk : IntMulOk 2 ((0 : Int) + i) := Bd.mulOk (n := 2) (m := 10) (by decide) (Bd.of_lt (by omega) (by omega)) (by decide)
    repeat' (first | with_reducible refine c__law_cell g3 hu2 hb ?_ (by decide) (fun c hc => ?_) | with_reducible refine c__law_question g2 (fun v M4 qs n s4 l4 q1 q2 q3 q4 q5 => ?_) | ((with_reducible refine e_var (d := ?_) ?_ ?_); rotate_left; exact rfl) | with_reducible refine e_cons ?_ | with_reducible refine x_tup ?_ | with_reducible refine e_nil ?_ | with_reducible refine e_int ?_ | with_reducible refine e_idx ?_ | with_reducible refine e_bin ?_ | with_reducible refine b_add ?_ | with_reducible refine b_sub ?_ | with_reducible refine b_mul ?_ ?_ | with_reducible refine i_fr0 ?_ | with_reducible refine i_fr1 ?_ | with_reducible refine e_call ?_ | with_reducible refine e_callK ?_ | with_reducible refine e_bi ?_ | with_reducible refine s_seq ?_ | with_reducible refine s_asg ?_ | with_reducible refine s_ret ?_ | with_reducible refine e_cmp ?_ | with_reducible refine c_eq ?_ | with_reducible refine c_ne ?_ | with_reducible refine c_lt ?_ | with_reducible refine c_le ?_ | with_reducible refine c_gt ?_ | with_reducible refine c_ge ?_ | with_reducible refine s_ife ?_ | with_reducible refine x_ifT ?_ | with_reducible refine x_ifF ?_ | with_reducible refine x_ifNT ?_ | with_reducible refine x_ifNF ?_ | with_reducible refine x_ifd (fun hc => ?_) (fun hc => ?_) | with_reducible refine x_ifn (fun hc => ?_) (fun hc => ?_) | with_reducible refine x_if (fun hc => ?_) (fun hc => ?_) | with_reducible refine s_skip ?_ | with_reducible refine s_expr ?_ | with_reducible refine e_mt ?_ | with_reducible refine b_div ?_ ?_ | with_reducible refine b_mod ?_ ?_ | with_reducible refine b_pow ?_ ?_ | with_reducible refine e_tup ?_ | with_reducible refine x_len (by simp only [List.length_cons, List.length_nil]; decide) ?_ | with_reducible refine e_neg ?_ | with_reducible refine x_int ?_ | with_reducible refine e_bl ?_ | with_reducible refine e_non ?_ | with_reducible refine e_str ?_ | with_reducible refine e_and ?_ | with_reducible refine e_or ?_ | with_reducible refine e_not ?_ | with_reducible refine e_truth ?_ | with_reducible refine x_bl ?_ | with_reducible refine t_bl ?_ | with_reducible refine t_int ?_ | with_reducible refine t_tup ?_ | with_reducible refine t_non ?_ | with_reducible refine e_ife ?_ | with_reducible refine e_isi ?_ | with_reducible refine f_abs ?_ | with_reducible refine f_int ?_ | with_reducible refine f_gcd ?_ | with_reducible refine f_max ?_ | with_reducible refine f_min ?_ | with_reducible refine f_tupT ?_ | with_reducible refine s_for ?_ | with_reducible refine w_rng ?_ | with_reducible refine x_rng ?_ ?_ | with_reducible refine w_it ?_ | with_reducible refine x_itT ?_ | with_reducible refine s_while ?_ | with_reducible refine e_lst ?_ | with_reducible refine e_cut ?_ | with_reducible refine e_absent ?_ | with_reducible refine e_asInt ?_ | with_reducible refine x_pI ?_ | with_reducible refine x_pN ?_ | with_reducible refine e_chain ?_ | with_reducible refine e_comp ?_ | with_reducible refine e_tcomp ?_ | with_reducible refine s_brk ?_ | with_reducible refine s_cont ?_ | ((with_reducible refine m_app (ds := ?_) ?_ ?_); rotate_left; (focus ((repeat (first | exact put_same | assumption | refine put_old ?_ (by assumption))); done))) | ((with_reducible refine m_app2 (ds := ?_) ?_ ?_ ?_); rotate_left; (focus ((repeat (first | exact put_same | assumption | refine put_old ?_ (by assumption))); done))) | ((with_reducible refine z_leniL (qs := ?_) ?_ ?_); rotate_left; first | exact Or.inl put_same | assumption | exact Or.inl (by assumption) | (refine Or.inl ?_; (focus ((repeat (first | exact put_same | assumption | refine put_old ?_ (by assumption))); done))) | exact listAt_put (by assumption) (by assumption) | exact listAt_sub (by assumption) (by assumption)) | ((with_reducible refine z_lenfL (qs := ?_) ?_ ?_); rotate_left; first | exact Or.inl put_same | assumption | exact Or.inl (by assumption) | (refine Or.inl ?_; (focus ((repeat (first | exact put_same | assumption | refine put_old ?_ (by assumption))); done))) | exact listAt_put (by assumption) (by assumption) | exact listAt_sub (by assumption) (by assumption)) | ((with_reducible refine f_lenL (ds := ?_) ?_ ?_); rotate_left; first | exact Or.inl put_same | assumption | exact Or.inl (by assumption) | (refine Or.inl ?_; (focus ((repeat (first | exact put_same | assumption | refine put_old ?_ (by assumption))); done))) | exact listAt_put (by assumption) (by assumption) | exact listAt_sub (by assumption) (by assumption)) | ((with_reducible refine i_iL (ns := ?_) ?_ ?_ ?_); rotate_left; first | exact Or.inl put_same | assumption | exact Or.inl (by assumption) | (refine Or.inl ?_; (focus ((repeat (first | exact put_same | assumption | refine put_old ?_ (by assumption))); done))) | exact listAt_put (by assumption) (by assumption) | exact listAt_sub (by assumption) (by assumption)) | ((with_reducible refine i_fL (ns := ?_) ?_ ?_ ?_); rotate_left; first | exact Or.inl put_same | assumption | exact Or.inl (by assumption) | (refine Or.inl ?_; (focus ((repeat (first | exact put_same | assumption | refine put_old ?_ (by assumption))); done))) | exact listAt_put (by assumption) (by assumption) | exact listAt_sub (by assumption) (by assumption)) | ((with_reducible refine f_tupL (ds := ?_) ?_ ?_); rotate_left; first | exact Or.inl put_same | assumption | exact Or.inl (by assumption) | (refine Or.inl ?_; (focus ((repeat (first | exact put_same | assumption | refine put_old ?_ (by assumption))); done))) | exact listAt_put (by assumption) (by assumption) | exact listAt_sub (by assumption) (by assumption)) | ((with_reducible refine x_itL (ds := ?_) ?_ ?_); rotate_left; first | exact Or.inl put_same | assumption | exact Or.inl (by assumption) | (refine Or.inl ?_; (focus ((repeat (first | exact put_same | assumption | refine put_old ?_ (by assumption))); done))) | exact listAt_put (by assumption) (by assumption) | exact listAt_sub (by assumption) (by assumption)) | with_reducible refine x_new (fun r nr => ?_) | ((with_reducible refine b_lst (ds := ?_) (es := ?_) ?_ ?_ ?_ ?_); rotate_left 2; (focus ((repeat (first | exact put_same | assumption | refine put_old ?_ (by assumption))); done)); (focus ((repeat (first | exact put_same | assumption | refine put_old ?_ (by assumption))); done))) | ((with_reducible refine b_rep (ds := ?_) ?_ ?_ ?_); rotate_left; (focus ((repeat (first | exact put_same | assumption | refine put_old ?_ (by assumption))); done))) | with_reducible refine f_lstT ?_ | with_reducible refine b_tup ?_ ?_ | with_reducible refine z_lenfT ?_ | with_reducible refine f_lenT ?_ | with_reducible refine i_fT ?_ ?_ | with_reducible refine z_isiI ?_ | with_reducible refine z_isiB ?_ | with_reducible refine z_isiF ?_ | with_reducible refine z_isiT ?_ | with_reducible refine z_lenF ?_)
    · exact mk
    · omega
    · exact mk
    · omega
    · refine ⟨_, Sub.refl _, sb.trans s4, us ++ [v], by simp, by simp [hl], fun z hz => ?_⟩
      rcases List.mem_append.mp hz with hz | hz
      · exact (ha z hz).sub s4
      · simp at hz; subst hz
        exact ⟨qs, n, l4, q1, q2, q3, q4, q5⟩
  rintro acc M2 ⟨sb, us, rfl, hl, ha⟩
  have hl : us.length = 2 := hl
  obtain ⟨u0, u1, rfl⟩ : ∃ u0 u1, us = [u0, u1] := by
    cases us with
    | nil => cases hl
    | cons a us => cases us with
      | nil => cases hl
      | cons b us => cases us with
        | nil => exact ⟨a, b, rfl⟩
        | cons _ _ => simp at hl
  have a0 := ha u0 (by simp)
  have a1 := ha u1 (by simp)
  have hP2 := hP.sub sb
  have hu2 := listAt_sub hu1 sb
  have s2 := s1.trans sb
  clear ha

  repeat' (first | ((with_reducible refine e_var (d := ?_) ?_ ?_); rotate_left; exact rfl) | with_reducible refine e_cons ?_ | with_reducible refine x_tup ?_ | with_reducible refine e_nil ?_ | with_reducible refine e_int ?_ | with_reducible refine e_idx ?_ | with_reducible refine e_bin ?_ | with_reducible refine b_add ?_ | with_reducible refine b_sub ?_ | with_reducible refine b_mul ?_ ?_ | with_reducible refine i_fr0 ?_ | with_reducible refine i_fr1 ?_ | with_reducible refine e_call ?_ | with_reducible refine e_callK ?_ | with_reducible refine e_bi ?_ | with_reducible refine s_seq ?_ | with_reducible refine s_asg ?_ | with_reducible refine s_ret ?_ | with_reducible refine e_cmp ?_ | with_reducible refine c_eq ?_ | with_reducible refine c_ne ?_ | with_reducible refine c_lt ?_ | with_reducible refine c_le ?_ | with_reducible refine c_gt ?_ | with_reducible refine c_ge ?_ | with_reducible refine x_ifT ?_ | with_reducible refine x_ifF ?_ | with_reducible refine x_ifNT ?_ | with_reducible refine x_ifNF ?_ | with_reducible refine x_ifd (fun hc => ?_) (fun hc => ?_) | with_reducible refine x_ifn (fun hc => ?_) (fun hc => ?_) | with_reducible refine x_if (fun hc => ?_) (fun hc => ?_) | with_reducible refine s_skip ?_ | with_reducible refine s_expr ?_ | with_reducible refine e_mt ?_ | with_reducible refine b_div ?_ ?_ | with_reducible refine b_mod ?_ ?_ | with_reducible refine b_pow ?_ ?_ | with_reducible refine e_tup ?_ | with_reducible refine x_len (by simp only [List.length_cons, List.length_nil]; decide) ?_ | with_reducible refine e_neg ?_ | with_reducible refine x_int ?_ | with_reducible refine e_bl ?_ | with_reducible refine e_non ?_ | with_reducible refine e_str ?_ | with_reducible refine e_and ?_ | with_reducible refine e_or ?_ | with_reducible refine e_not ?_ | with_reducible refine e_truth ?_ | with_reducible refine x_bl ?_ | with_reducible refine t_bl ?_ | with_reducible refine t_int ?_ | with_reducible refine t_tup ?_ | with_reducible refine t_non ?_ | with_reducible refine e_ife ?_ | with_reducible refine e_isi ?_ | with_reducible refine f_abs ?_ | with_reducible refine f_int ?_ | with_reducible refine f_gcd ?_ | with_reducible refine f_max ?_ | with_reducible refine f_min ?_ | with_reducible refine f_tupT ?_ | with_reducible refine s_for ?_ | with_reducible refine w_rng ?_ | with_reducible refine x_rng ?_ ?_ | with_reducible refine w_it ?_ | with_reducible refine x_itT ?_ | with_reducible refine s_while ?_ | with_reducible refine e_lst ?_ | with_reducible refine e_cut ?_ | with_reducible refine e_absent ?_ | with_reducible refine e_asInt ?_ | with_reducible refine x_pI ?_ | with_reducible refine x_pN ?_ | with_reducible refine e_chain ?_ | with_reducible refine e_comp ?_ | with_reducible refine e_tcomp ?_ | with_reducible refine s_brk ?_ | with_reducible refine s_cont ?_ | ((with_reducible refine m_app (ds := ?_) ?_ ?_); rotate_left; (focus ((repeat (first | exact put_same | assumption | refine put_old ?_ (by assumption))); done))) | ((with_reducible refine m_app2 (ds := ?_) ?_ ?_ ?_); rotate_left; (focus ((repeat (first | exact put_same | assumption | refine put_old ?_ (by assumption))); done))) | ((with_reducible refine z_leniL (qs := ?_) ?_ ?_); rotate_left; first | exact Or.inl put_same | assumption | exact Or.inl (by assumption) | (refine Or.inl ?_; (focus ((repeat (first | exact put_same | assumption | refine put_old ?_ (by assumption))); done))) | exact listAt_put (by assumption) (by assumption) | exact listAt_sub (by assumption) (by assumption)) | ((with_reducible refine z_lenfL (qs := ?_) ?_ ?_); rotate_left; first | exact Or.inl put_same | assumption | exact Or.inl (by assumption) | (refine Or.inl ?_; (focus ((repeat (first | exact put_same | assumption | refine put_old ?_ (by assumption))); done))) | exact listAt_put (by assumption) (by assumption) | exact listAt_sub (by assumption) (by assumption)) | ((with_reducible refine f_lenL (ds := ?_) ?_ ?_); rotate_left; first | exact Or.inl put_same | assumption | exact Or.inl (by assumption) | (refine Or.inl ?_; (focus ((repeat (first | exact put_same | assumption | refine put_old ?_ (by assumption))); done))) | exact listAt_put (by assumption) (by assumption) | exact listAt_sub (by assumption) (by assumption)) | ((with_reducible refine i_iL (ns := ?_) ?_ ?_ ?_); rotate_left; first | exact Or.inl put_same | assumption | exact Or.inl (by assumption) | (refine Or.inl ?_; (focus ((repeat (first | exact put_same | assumption | refine put_old ?_ (by assumption))); done))) | exact listAt_put (by assumption) (by assumption) | exact listAt_sub (by assumption) (by assumption)) | ((with_reducible refine i_fL (ns := ?_) ?_ ?_ ?_); rotate_left; first | exact Or.inl put_same | assumption | exact Or.inl (by assumption) | (refine Or.inl ?_; (focus ((repeat (first | exact put_same | assumption | refine put_old ?_ (by assumption))); done))) | exact listAt_put (by assumption) (by assumption) | exact listAt_sub (by assumption) (by assumption)) | ((with_reducible refine f_tupL (ds := ?_) ?_ ?_); rotate_left; first | exact Or.inl put_same | assumption | exact Or.inl (by assumption) | (refine Or.inl ?_; (focus ((repeat (first | exact put_same | assumption | refine put_old ?_ (by assumption))); done))) | exact listAt_put (by assumption) (by assumption) | exact listAt_sub (by assumption) (by assumption)) | ((with_reducible refine x_itL (ds := ?_) ?_ ?_); rotate_left; first | exact Or.inl put_same | assumption | exact Or.inl (by assumption) | (refine Or.inl ?_; (focus ((repeat (first | exact put_same | assumption | refine put_old ?_ (by assumption))); done))) | exact listAt_put (by assumption) (by assumption) | exact listAt_sub (by assumption) (by assumption)) | with_reducible refine x_new (fun r nr => ?_) | ((with_reducible refine b_lst (ds := ?_) (es := ?_) ?_ ?_ ?_ ?_); rotate_left 2; (focus ((repeat (first | exact put_same | assumption | refine put_old ?_ (by assumption))); done)); (focus ((repeat (first | exact put_same | assumption | refine put_old ?_ (by assumption))); done))) | ((with_reducible refine b_rep (ds := ?_) ?_ ?_ ?_); rotate_left; (focus ((repeat (first | exact put_same | assumption | refine put_old ?_ (by assumption))); done))) | with_reducible refine f_lstT ?_ | with_reducible refine b_tup ?_ ?_ | with_reducible refine z_lenfT ?_ | with_reducible refine f_lenT ?_ | with_reducible refine i_fT ?_ ?_ | with_reducible refine z_isiI ?_ | with_reducible refine z_isiB ?_ | with_reducible refine z_isiF ?_ | with_reducible refine z_isiT ?_ | with_reducible refine z_lenF ?_)
  · decide
  have hask : listAt (put M2 r (.lst (List.map D.ref [u0, u1]))) r [.ref u0, .ref u1] := .inl put_same
  have s3 : Sub M (put M2 r (.lst (List.map D.ref [u0, u1]))) := sub_new s2 nr
  have a0 := a0.sub (sub_new (o := .lst (List.map D.ref [u0, u1])) (Sub.refl M2) nr)
  have a1 := a1.sub (sub_new (o := .lst (List.map D.ref [u0, u1])) (Sub.refl M2) nr)
  have hP3 := hP2.sub (sub_new (o := .lst (List.map D.ref [u0, u1])) (Sub.refl M2) nr)
  have hu3 := listAt_sub hu2 (sub_new (o := .lst (List.map D.ref [u0, u1])) (Sub.refl M2) nr)
  generalize put M2 r (.lst (List.map D.ref [u0, u1])) = M3 at hask s3 a0 a1 hP3 hu3 ⊢
  clear nr s2 hP2 hu2 sb hl
  refine for_rng (fun i σ M' => M' = M3 ∧ ∃ o4 o5 o6, σ = [some (.ref u), some (.ref r0), some (.ref r), none, o4, o5, o6, none, none, none, none]) ⟨rfl, _, _, _, rfl⟩ ?_ ?_
  · rintro i σ M' hi ⟨rfl, o4, o5, o6, rfl⟩
    repeat' (first | ((with_reducible refine e_var (d := ?_) ?_ ?_); rotate_left; exact rfl) | with_reducible refine e_cons ?_ | with_reducible refine x_tup ?_ | with_reducible refine e_nil ?_ | with_reducible refine e_int ?_ | with_reducible refine e_idx ?_ | with_reducible refine e_bin ?_ | with_reducible refine b_add ?_ | with_reducible refine b_sub ?_ | with_reducible refine b_mul ?_ ?_ | with_reducible refine i_fr0 ?_ | with_reducible refine i_fr1 ?_ | with_reducible refine e_call ?_ | with_reducible refine e_callK ?_ | with_reducible refine e_bi ?_ | with_reducible refine s_seq ?_ | with_reducible refine s_asg ?_ | with_reducible refine s_ret ?_ | with_reducible refine e_cmp ?_ | with_reducible refine c_eq ?_ | with_reducible refine c_ne ?_ | with_reducible refine c_lt ?_ | with_reducible refine c_le ?_ | with_reducible refine c_gt ?_ | with_reducible refine c_ge ?_ | with_reducible refine x_ifT ?_ | with_reducible refine x_ifF ?_ | with_reducible refine x_ifNT ?_ | with_reducible refine x_ifNF ?_ | with_reducible refine x_ifd (fun hc => ?_) (fun hc => ?_) | with_reducible refine x_ifn (fun hc => ?_) (fun hc => ?_) | with_reducible refine x_if (fun hc => ?_) (fun hc => ?_) | with_reducible refine s_skip ?_ | with_reducible refine s_expr ?_ | with_reducible refine e_mt ?_ | with_reducible refine b_div ?_ ?_ | with_reducible refine b_mod ?_ ?_ | with_reducible refine b_pow ?_ ?_ | with_reducible refine e_tup ?_ | with_reducible refine x_len (by simp only [List.length_cons, List.length_nil]; decide) ?_ | with_reducible refine e_neg ?_ | with_reducible refine x_int ?_ | with_reducible refine e_bl ?_ | with_reducible refine e_non ?_ | with_reducible refine e_str ?_ | with_reducible refine e_and ?_ | with_reducible refine e_or ?_ | with_reducible refine e_not ?_ | with_reducible refine e_truth ?_ | with_reducible refine x_bl ?_ | with_reducible refine t_bl ?_ | with_reducible refine t_int ?_ | with_reducible refine t_tup ?_ | with_reducible refine t_non ?_ | with_reducible refine e_ife ?_ | with_reducible refine e_isi ?_ | with_reducible refine f_abs ?_ | with_reducible refine f_int ?_ | with_reducible refine f_gcd ?_ | with_reducible refine f_max ?_ | with_reducible refine f_min ?_ | with_reducible refine f_tupT ?_ | with_reducible refine s_for ?_ | with_reducible refine w_rng ?_ | with_reducible refine x_rng ?_ ?_ | with_reducible refine w_it ?_ | with_reducible refine x_itT ?_ | with_reducible refine s_while ?_ | with_reducible refine e_lst ?_ | with_reducible refine e_cut ?_ | with_reducible refine e_absent ?_ | with_reducible refine e_asInt ?_ | with_reducible refine x_pI ?_ | with_reducible refine x_pN ?_ | with_reducible refine e_chain ?_ | with_reducible refine e_comp ?_ | with_reducible refine e_tcomp ?_ | with_reducible refine s_brk ?_ | with_reducible refine s_cont ?_ | ((with_reducible refine m_app (ds := ?_) ?_ ?_); rotate_left; (focus ((repeat (first | exact put_same | assumption | refine put_old ?_ (by assumption))); done))) | ((with_reducible refine m_app2 (ds := ?_) ?_ ?_ ?_); rotate_left; (focus ((repeat (first | exact put_same | assumption | refine put_old ?_ (by assumption))); done))) | ((with_reducible refine z_leniL (qs := ?_) ?_ ?_); rotate_left; first | exact Or.inl put_same | assumption | exact Or.inl (by assumption) | (refine Or.inl ?_; (focus ((repeat (first | exact put_same | assumption | refine put_old ?_ (by assumption))); done))) | exact listAt_put (by assumption) (by assumption) | exact listAt_sub (by assumption) (by assumption)) | ((with_reducible refine z_lenfL (qs := ?_) ?_ ?_); rotate_left; first | exact Or.inl put_same | assumption | exact Or.inl (by assumption) | (refine Or.inl ?_; (focus ((repeat (first | exact put_same | assumption | refine put_old ?_ (by assumption))); done))) | exact listAt_put (by assumption) (by assumption) | exact listAt_sub (by assumption) (by assumption)) | ((with_reducible refine f_lenL (ds := ?_) ?_ ?_); rotate_left; first | exact Or.inl put_same | assumption | exact Or.inl (by assumption) | (refine Or.inl ?_; (focus ((repeat (first | exact put_same | assumption | refine put_old ?_ (by assumption))); done))) | exact listAt_put (by assumption) (by assumption) | exact listAt_sub (by assumption) (by assumption)) | ((with_reducible refine i_iL (ns := ?_) ?_ ?_ ?_); rotate_left; first | exact Or.inl put_same | assumption | exact Or.inl (by assumption) | (refine Or.inl ?_; (focus ((repeat (first | exact put_same | assumption | refine put_old ?_ (by assumption))); done))) | exact listAt_put (by assumption) (by assumption) | exact listAt_sub (by assumption) (by assumption)) | ((with_reducible refine i_fL (ns := ?_) ?_ ?_ ?_); rotate_left; first | exact Or.inl put_same | assumption | exact Or.inl (by assumption) | (refine Or.inl ?_; (focus ((repeat (first | exact put_same | assumption | refine put_old ?_ (by assumption))); done))) | exact listAt_put (by assumption) (by assumption) | exact listAt_sub (by assumption) (by assumption)) | ((with_reducible refine f_tupL (ds := ?_) ?_ ?_); rotate_left; first | exact Or.inl put_same | assumption | exact Or.inl (by assumption) | (refine Or.inl ?_; (focus ((repeat (first | exact put_same | assumption | refine put_old ?_ (by assumption))); done))) | exact listAt_put (by assumption) (by assumption) | exact listAt_sub (by assumption) (by assumption)) | ((with_reducible refine x_itL (ds := ?_) ?_ ?_); rotate_left; first | exact Or.inl put_same | assumption | exact Or.inl (by assumption) | (refine Or.inl ?_; (focus ((repeat (first | exact put_same | assumption | refine put_old ?_ (by assumption))); done))) | exact listAt_put (by assumption) (by assumption) | exact listAt_sub (by assumption) (by assumption)) | with_reducible refine x_new (fun r nr => ?_) | ((with_reducible refine b_lst (ds := ?_) (es := ?_) ?_ ?_ ?_ ?_); rotate_left 2; (focus ((repeat (first | exact put_same | assumption | refine put_old ?_ (by assumption))); done)); (focus ((repeat (first | exact put_same | assumption | refine put_old ?_ (by assumption))); done))) | ((with_reducible refine b_rep (ds := ?_) ?_ ?_ ?_); rotate_left; (focus ((repeat (first | exact put_same | assumption | refine put_old ?_ (by assumption))); done))) | with_reducible refine f_lstT ?_ | with_reducible refine b_tup ?_ ?_ | with_reducible refine z_lenfT ?_ | with_reducible refine f_lenT ?_ | with_reducible refine i_fT ?_ ?_ | with_reducible refine z_isiI ?_ | with_reducible refine z_isiB ?_ | with_reducible refine z_isiF ?_ | with_reducible refine z_isiT ?_ | with_reducible refine z_lenF ?_)
    obtain ⟨j, hj, ej⟩ : ∃ j : Int, (j = 0 ∨ j = 1) ∧ atI [D.int 0, D.int 1, D.int 0] (0 + (i : Int)) = some (.int j) := by
      rcases (by omega : i = 0 ∨ i = 1 ∨ i = 2) with rfl | rfl | rfl
      · exact ⟨0, .inl rfl, rfl⟩
      · exact ⟨1, .inr rfl, rfl⟩
      · exact ⟨0, .inl rfl, rfl⟩
    refine i_ref (.inl put_same) ej ?_
    obtain ⟨v, ev, av⟩ : ∃ v, atI [D.ref u0, D.ref u1] j = some (.ref v) ∧ AskAt M' v := by
      rcases hj with rfl | rfl
      · exact ⟨u0, rfl, a0⟩
      · exact ⟨u1, rfl, a1⟩
    refine i_ref (listAt_put hask nr) ev ?_
    obtain ⟨qs, n, lv, q1, q2, q3, q4, q5⟩ := av
    have st := fun o => sub_new (o := o) (Sub.refl M') nr
    have lv := listAt_sub lv (st (.lst [.int 0, .int 1, .int 0]))
    have hP4 := hP3.sub (st (.lst [.int 0, .int 1, .int 0]))
    have at0 : atI [D.tup (fL qs), .int n] 0 = some (.tup (fL qs)) := rfl
    have at1 : atI [D.tup (fL qs), .int n] 1 = some (.int n) := rfl
    have q5' : ∀ p ∈ qs, Sz 1000 p := fun p hp => (q5 p hp).mono (by decide)
    have tK : ∀ {M' : Mp} {Q' : DK}, Q' (.tup (fL (ties qs n))) M' → G "tie_shares" (pick [0, 1] ([D.tup (fL qs)] ++ [D.int n])) M' Q' := fun q => c_tie_shares g4 q2 (by omega) (by decide) q5' q
    have tl := ties_len qs n
    have key := summed_ties q2 q1
    have hrow : ((n : Int) + 1) = ((ties qs n).length : Int) := by rw [tl]; rfl
    have hl1 : (ties qs n).length ≤ 1000 := by omega
    have hl2 : (ties qs n).length ≤ 62 + 1 := by omega
    have hsz := tie_sz q4 q3 q5
    have bound : ((ties qs n).length + 1) * 30000 ≤ 50000000 := by rw [tl]; omega
    repeat' (first | with_reducible refine i_ref lv at0 ?_ | with_reducible refine i_ref lv at1 ?_ | with_reducible refine c_tie_shares g4 q2 (by omega) (by decide) q5' ?_ | with_reducible refine tK ?_ | with_reducible refine c__law_is_row g5 hrow hl1 ?_ | with_reducible refine c__law_summed g6 hP4 hl2 hl1 bound hsz ?_ | with_reducible refine c_nefrs (fun b hb => ?_) | ((with_reducible refine e_var (d := ?_) ?_ ?_); rotate_left; exact rfl) | with_reducible refine e_cons ?_ | with_reducible refine x_tup ?_ | with_reducible refine e_nil ?_ | with_reducible refine e_int ?_ | with_reducible refine e_idx ?_ | with_reducible refine e_bin ?_ | with_reducible refine b_add ?_ | with_reducible refine b_sub ?_ | with_reducible refine b_mul ?_ ?_ | with_reducible refine i_fr0 ?_ | with_reducible refine i_fr1 ?_ | with_reducible refine e_call ?_ | with_reducible refine e_callK ?_ | with_reducible refine e_bi ?_ | with_reducible refine s_seq ?_ | with_reducible refine s_asg ?_ | with_reducible refine s_ret ?_ | with_reducible refine e_cmp ?_ | with_reducible refine c_eq ?_ | with_reducible refine c_ne ?_ | with_reducible refine c_lt ?_ | with_reducible refine c_le ?_ | with_reducible refine c_gt ?_ | with_reducible refine c_ge ?_ | with_reducible refine s_ife ?_ | with_reducible refine x_ifT ?_ | with_reducible refine x_ifF ?_ | with_reducible refine x_ifNT ?_ | with_reducible refine x_ifNF ?_ | with_reducible refine x_ifd (fun hc => ?_) (fun hc => ?_) | with_reducible refine x_ifn (fun hc => ?_) (fun hc => ?_) | with_reducible refine x_if (fun hc => ?_) (fun hc => ?_) | with_reducible refine s_skip ?_ | with_reducible refine s_expr ?_ | with_reducible refine e_mt ?_ | with_reducible refine b_div ?_ ?_ | with_reducible refine b_mod ?_ ?_ | with_reducible refine b_pow ?_ ?_ | with_reducible refine e_tup ?_ | with_reducible refine x_len (by simp only [List.length_cons, List.length_nil]; decide) ?_ | with_reducible refine e_neg ?_ | with_reducible refine x_int ?_ | with_reducible refine e_bl ?_ | with_reducible refine e_non ?_ | with_reducible refine e_str ?_ | with_reducible refine e_and ?_ | with_reducible refine e_or ?_ | with_reducible refine e_not ?_ | with_reducible refine e_truth ?_ | with_reducible refine x_bl ?_ | with_reducible refine t_bl ?_ | with_reducible refine t_int ?_ | with_reducible refine t_tup ?_ | with_reducible refine t_non ?_ | with_reducible refine e_ife ?_ | with_reducible refine e_isi ?_ | with_reducible refine f_abs ?_ | with_reducible refine f_int ?_ | with_reducible refine f_gcd ?_ | with_reducible refine f_max ?_ | with_reducible refine f_min ?_ | with_reducible refine f_tupT ?_ | with_reducible refine s_for ?_ | with_reducible refine w_rng ?_ | with_reducible refine x_rng ?_ ?_ | with_reducible refine w_it ?_ | with_reducible refine x_itT ?_ | with_reducible refine s_while ?_ | with_reducible refine e_lst ?_ | with_reducible refine e_cut ?_ | with_reducible refine e_absent ?_ | with_reducible refine e_asInt ?_ | with_reducible refine x_pI ?_ | with_reducible refine x_pN ?_ | with_reducible refine e_chain ?_ | with_reducible refine e_comp ?_ | with_reducible refine e_tcomp ?_ | with_reducible refine s_brk ?_ | with_reducible refine s_cont ?_ | ((with_reducible refine m_app (ds := ?_) ?_ ?_); rotate_left; (focus ((repeat (first | exact put_same | assumption | refine put_old ?_ (by assumption))); done))) | ((with_reducible refine m_app2 (ds := ?_) ?_ ?_ ?_); rotate_left; (focus ((repeat (first | exact put_same | assumption | refine put_old ?_ (by assumption))); done))) | ((with_reducible refine z_leniL (qs := ?_) ?_ ?_); rotate_left; first | exact Or.inl put_same | assumption | exact Or.inl (by assumption) | (refine Or.inl ?_; (focus ((repeat (first | exact put_same | assumption | refine put_old ?_ (by assumption))); done))) | exact listAt_put (by assumption) (by assumption) | exact listAt_sub (by assumption) (by assumption)) | ((with_reducible refine z_lenfL (qs := ?_) ?_ ?_); rotate_left; first | exact Or.inl put_same | assumption | exact Or.inl (by assumption) | (refine Or.inl ?_; (focus ((repeat (first | exact put_same | assumption | refine put_old ?_ (by assumption))); done))) | exact listAt_put (by assumption) (by assumption) | exact listAt_sub (by assumption) (by assumption)) | ((with_reducible refine f_lenL (ds := ?_) ?_ ?_); rotate_left; first | exact Or.inl put_same | assumption | exact Or.inl (by assumption) | (refine Or.inl ?_; (focus ((repeat (first | exact put_same | assumption | refine put_old ?_ (by assumption))); done))) | exact listAt_put (by assumption) (by assumption) | exact listAt_sub (by assumption) (by assumption)) | ((with_reducible refine i_iL (ns := ?_) ?_ ?_ ?_); rotate_left; first | exact Or.inl put_same | assumption | exact Or.inl (by assumption) | (refine Or.inl ?_; (focus ((repeat (first | exact put_same | assumption | refine put_old ?_ (by assumption))); done))) | exact listAt_put (by assumption) (by assumption) | exact listAt_sub (by assumption) (by assumption)) | ((with_reducible refine i_fL (ns := ?_) ?_ ?_ ?_); rotate_left; first | exact Or.inl put_same | assumption | exact Or.inl (by assumption) | (refine Or.inl ?_; (focus ((repeat (first | exact put_same | assumption | refine put_old ?_ (by assumption))); done))) | exact listAt_put (by assumption) (by assumption) | exact listAt_sub (by assumption) (by assumption)) | ((with_reducible refine f_tupL (ds := ?_) ?_ ?_); rotate_left; first | exact Or.inl put_same | assumption | exact Or.inl (by assumption) | (refine Or.inl ?_; (focus ((repeat (first | exact put_same | assumption | refine put_old ?_ (by assumption))); done))) | exact listAt_put (by assumption) (by assumption) | exact listAt_sub (by assumption) (by assumption)) | ((with_reducible refine x_itL (ds := ?_) ?_ ?_); rotate_left; first | exact Or.inl put_same | assumption | exact Or.inl (by assumption) | (refine Or.inl ?_; (focus ((repeat (first | exact put_same | assumption | refine put_old ?_ (by assumption))); done))) | exact listAt_put (by assumption) (by assumption) | exact listAt_sub (by assumption) (by assumption)) | with_reducible refine x_new (fun r nr => ?_) | ((with_reducible refine b_lst (ds := ?_) (es := ?_) ?_ ?_ ?_ ?_); rotate_left 2; (focus ((repeat (first | exact put_same | assumption | refine put_old ?_ (by assumption))); done)); (focus ((repeat (first | exact put_same | assumption | refine put_old ?_ (by assumption))); done))) | ((with_reducible refine b_rep (ds := ?_) ?_ ?_ ?_); rotate_left; (focus ((repeat (first | exact put_same | assumption | refine put_old ?_ (by assumption))); done))) | with_reducible refine f_lstT ?_ | with_reducible refine b_tup ?_ ?_ | with_reducible refine z_lenfT ?_ | with_reducible refine f_lenT ?_ | with_reducible refine i_fT ?_ ?_ | with_reducible refine z_isiI ?_ | with_reducible refine z_isiB ?_ | with_reducible refine z_isiF ?_ | with_reducible refine z_isiT ?_ | with_reducible refine z_lenF ?_)
    all_goals first
      | exact absurd key (hb.mp ‹_›)
      | exact ⟨M', st _, rfl, _, _, _, rfl⟩
  rintro σ M' ⟨rfl, o4, o5, o6, rfl⟩
  have lA : ∀ {σ : DSt} (M : Mp) (Q : DK), Q (.tup (iL [13])) M → wE G (.cons (.int 13) .nil) σ M Q := fun M Q q => by (repeat' (first | ((with_reducible refine e_var (d := ?_) ?_ ?_); rotate_left; exact rfl) | with_reducible refine e_cons ?_ | with_reducible refine x_tup ?_ | with_reducible refine e_nil ?_ | with_reducible refine e_int ?_ | with_reducible refine e_idx ?_ | with_reducible refine e_bin ?_ | with_reducible refine b_add ?_ | with_reducible refine b_sub ?_ | with_reducible refine b_mul ?_ ?_ | with_reducible refine i_fr0 ?_ | with_reducible refine i_fr1 ?_ | with_reducible refine e_call ?_ | with_reducible refine e_callK ?_ | with_reducible refine e_bi ?_ | with_reducible refine s_seq ?_ | with_reducible refine s_asg ?_ | with_reducible refine s_ret ?_ | with_reducible refine e_cmp ?_ | with_reducible refine c_eq ?_ | with_reducible refine c_ne ?_ | with_reducible refine c_lt ?_ | with_reducible refine c_le ?_ | with_reducible refine c_gt ?_ | with_reducible refine c_ge ?_ | with_reducible refine s_ife ?_ | with_reducible refine x_ifT ?_ | with_reducible refine x_ifF ?_ | with_reducible refine x_ifNT ?_ | with_reducible refine x_ifNF ?_ | with_reducible refine x_ifd (fun hc => ?_) (fun hc => ?_) | with_reducible refine x_ifn (fun hc => ?_) (fun hc => ?_) | with_reducible refine x_if (fun hc => ?_) (fun hc => ?_) | with_reducible refine s_skip ?_ | with_reducible refine s_expr ?_ | with_reducible refine e_mt ?_ | with_reducible refine b_div ?_ ?_ | with_reducible refine b_mod ?_ ?_ | with_reducible refine b_pow ?_ ?_ | with_reducible refine e_tup ?_ | with_reducible refine x_len (by simp only [List.length_cons, List.length_nil]; decide) ?_ | with_reducible refine e_neg ?_ | with_reducible refine x_int ?_ | with_reducible refine e_bl ?_ | with_reducible refine e_non ?_ | with_reducible refine e_str ?_ | with_reducible refine e_and ?_ | with_reducible refine e_or ?_ | with_reducible refine e_not ?_ | with_reducible refine e_truth ?_ | with_reducible refine x_bl ?_ | with_reducible refine t_bl ?_ | with_reducible refine t_int ?_ | with_reducible refine t_tup ?_ | with_reducible refine t_non ?_ | with_reducible refine e_ife ?_ | with_reducible refine e_isi ?_ | with_reducible refine f_abs ?_ | with_reducible refine f_int ?_ | with_reducible refine f_gcd ?_ | with_reducible refine f_max ?_ | with_reducible refine f_min ?_ | with_reducible refine f_tupT ?_ | with_reducible refine s_for ?_ | with_reducible refine w_rng ?_ | with_reducible refine x_rng ?_ ?_ | with_reducible refine w_it ?_ | with_reducible refine x_itT ?_ | with_reducible refine s_while ?_ | with_reducible refine e_lst ?_ | with_reducible refine e_cut ?_ | with_reducible refine e_absent ?_ | with_reducible refine e_asInt ?_ | with_reducible refine x_pI ?_ | with_reducible refine x_pN ?_ | with_reducible refine e_chain ?_ | with_reducible refine e_comp ?_ | with_reducible refine e_tcomp ?_ | with_reducible refine s_brk ?_ | with_reducible refine s_cont ?_ | ((with_reducible refine m_app (ds := ?_) ?_ ?_); rotate_left; (focus ((repeat (first | exact put_same | assumption | refine put_old ?_ (by assumption))); done))) | ((with_reducible refine m_app2 (ds := ?_) ?_ ?_ ?_); rotate_left; (focus ((repeat (first | exact put_same | assumption | refine put_old ?_ (by assumption))); done))) | ((with_reducible refine z_leniL (qs := ?_) ?_ ?_); rotate_left; first | exact Or.inl put_same | assumption | exact Or.inl (by assumption) | (refine Or.inl ?_; (focus ((repeat (first | exact put_same | assumption | refine put_old ?_ (by assumption))); done))) | exact listAt_put (by assumption) (by assumption) | exact listAt_sub (by assumption) (by assumption)) | ((with_reducible refine z_lenfL (qs := ?_) ?_ ?_); rotate_left; first | exact Or.inl put_same | assumption | exact Or.inl (by assumption) | (refine Or.inl ?_; (focus ((repeat (first | exact put_same | assumption | refine put_old ?_ (by assumption))); done))) | exact listAt_put (by assumption) (by assumption) | exact listAt_sub (by assumption) (by assumption)) | ((with_reducible refine f_lenL (ds := ?_) ?_ ?_); rotate_left; first | exact Or.inl put_same | assumption | exact Or.inl (by assumption) | (refine Or.inl ?_; (focus ((repeat (first | exact put_same | assumption | refine put_old ?_ (by assumption))); done))) | exact listAt_put (by assumption) (by assumption) | exact listAt_sub (by assumption) (by assumption)) | ((with_reducible refine i_iL (ns := ?_) ?_ ?_ ?_); rotate_left; first | exact Or.inl put_same | assumption | exact Or.inl (by assumption) | (refine Or.inl ?_; (focus ((repeat (first | exact put_same | assumption | refine put_old ?_ (by assumption))); done))) | exact listAt_put (by assumption) (by assumption) | exact listAt_sub (by assumption) (by assumption)) | ((with_reducible refine i_fL (ns := ?_) ?_ ?_ ?_); rotate_left; first | exact Or.inl put_same | assumption | exact Or.inl (by assumption) | (refine Or.inl ?_; (focus ((repeat (first | exact put_same | assumption | refine put_old ?_ (by assumption))); done))) | exact listAt_put (by assumption) (by assumption) | exact listAt_sub (by assumption) (by assumption)) | ((with_reducible refine f_tupL (ds := ?_) ?_ ?_); rotate_left; first | exact Or.inl put_same | assumption | exact Or.inl (by assumption) | (refine Or.inl ?_; (focus ((repeat (first | exact put_same | assumption | refine put_old ?_ (by assumption))); done))) | exact listAt_put (by assumption) (by assumption) | exact listAt_sub (by assumption) (by assumption)) | ((with_reducible refine x_itL (ds := ?_) ?_ ?_); rotate_left; first | exact Or.inl put_same | assumption | exact Or.inl (by assumption) | (refine Or.inl ?_; (focus ((repeat (first | exact put_same | assumption | refine put_old ?_ (by assumption))); done))) | exact listAt_put (by assumption) (by assumption) | exact listAt_sub (by assumption) (by assumption)) | with_reducible refine x_new (fun r nr => ?_) | ((with_reducible refine b_lst (ds := ?_) (es := ?_) ?_ ?_ ?_ ?_); rotate_left 2; (focus ((repeat (first | exact put_same | assumption | refine put_old ?_ (by assumption))); done)); (focus ((repeat (first | exact put_same | assumption | refine put_old ?_ (by assumption))); done))) | ((with_reducible refine b_rep (ds := ?_) ?_ ?_ ?_); rotate_left; (focus ((repeat (first | exact put_same | assumption | refine put_old ?_ (by assumption))); done))) | with_reducible refine f_lstT ?_ | with_reducible refine b_tup ?_ ?_ | with_reducible refine z_lenfT ?_ | with_reducible refine f_lenT ?_ | with_reducible refine i_fT ?_ ?_ | with_reducible refine z_isiI ?_ | with_reducible refine z_isiB ?_ | with_reducible refine z_isiF ?_ | with_reducible refine z_isiT ?_ | with_reducible refine z_lenF ?_)); exact q
  have lA2 : ∀ {σ : DSt} (M : Mp) (Q : DK), Q (.tup (iL [5, 47])) M → wE G (.cons (.int 5) (.cons (.int 47) .nil)) σ M Q := fun M Q q => by (repeat' (first | ((with_reducible refine e_var (d := ?_) ?_ ?_); rotate_left; exact rfl) | with_reducible refine e_cons ?_ | with_reducible refine x_tup ?_ | with_reducible refine e_nil ?_ | with_reducible refine e_int ?_ | with_reducible refine e_idx ?_ | with_reducible refine e_bin ?_ | with_reducible refine b_add ?_ | with_reducible refine b_sub ?_ | with_reducible refine b_mul ?_ ?_ | with_reducible refine i_fr0 ?_ | with_reducible refine i_fr1 ?_ | with_reducible refine e_call ?_ | with_reducible refine e_callK ?_ | with_reducible refine e_bi ?_ | with_reducible refine s_seq ?_ | with_reducible refine s_asg ?_ | with_reducible refine s_ret ?_ | with_reducible refine e_cmp ?_ | with_reducible refine c_eq ?_ | with_reducible refine c_ne ?_ | with_reducible refine c_lt ?_ | with_reducible refine c_le ?_ | with_reducible refine c_gt ?_ | with_reducible refine c_ge ?_ | with_reducible refine s_ife ?_ | with_reducible refine x_ifT ?_ | with_reducible refine x_ifF ?_ | with_reducible refine x_ifNT ?_ | with_reducible refine x_ifNF ?_ | with_reducible refine x_ifd (fun hc => ?_) (fun hc => ?_) | with_reducible refine x_ifn (fun hc => ?_) (fun hc => ?_) | with_reducible refine x_if (fun hc => ?_) (fun hc => ?_) | with_reducible refine s_skip ?_ | with_reducible refine s_expr ?_ | with_reducible refine e_mt ?_ | with_reducible refine b_div ?_ ?_ | with_reducible refine b_mod ?_ ?_ | with_reducible refine b_pow ?_ ?_ | with_reducible refine e_tup ?_ | with_reducible refine x_len (by simp only [List.length_cons, List.length_nil]; decide) ?_ | with_reducible refine e_neg ?_ | with_reducible refine x_int ?_ | with_reducible refine e_bl ?_ | with_reducible refine e_non ?_ | with_reducible refine e_str ?_ | with_reducible refine e_and ?_ | with_reducible refine e_or ?_ | with_reducible refine e_not ?_ | with_reducible refine e_truth ?_ | with_reducible refine x_bl ?_ | with_reducible refine t_bl ?_ | with_reducible refine t_int ?_ | with_reducible refine t_tup ?_ | with_reducible refine t_non ?_ | with_reducible refine e_ife ?_ | with_reducible refine e_isi ?_ | with_reducible refine f_abs ?_ | with_reducible refine f_int ?_ | with_reducible refine f_gcd ?_ | with_reducible refine f_max ?_ | with_reducible refine f_min ?_ | with_reducible refine f_tupT ?_ | with_reducible refine s_for ?_ | with_reducible refine w_rng ?_ | with_reducible refine x_rng ?_ ?_ | with_reducible refine w_it ?_ | with_reducible refine x_itT ?_ | with_reducible refine s_while ?_ | with_reducible refine e_lst ?_ | with_reducible refine e_cut ?_ | with_reducible refine e_absent ?_ | with_reducible refine e_asInt ?_ | with_reducible refine x_pI ?_ | with_reducible refine x_pN ?_ | with_reducible refine e_chain ?_ | with_reducible refine e_comp ?_ | with_reducible refine e_tcomp ?_ | with_reducible refine s_brk ?_ | with_reducible refine s_cont ?_ | ((with_reducible refine m_app (ds := ?_) ?_ ?_); rotate_left; (focus ((repeat (first | exact put_same | assumption | refine put_old ?_ (by assumption))); done))) | ((with_reducible refine m_app2 (ds := ?_) ?_ ?_ ?_); rotate_left; (focus ((repeat (first | exact put_same | assumption | refine put_old ?_ (by assumption))); done))) | ((with_reducible refine z_leniL (qs := ?_) ?_ ?_); rotate_left; first | exact Or.inl put_same | assumption | exact Or.inl (by assumption) | (refine Or.inl ?_; (focus ((repeat (first | exact put_same | assumption | refine put_old ?_ (by assumption))); done))) | exact listAt_put (by assumption) (by assumption) | exact listAt_sub (by assumption) (by assumption)) | ((with_reducible refine z_lenfL (qs := ?_) ?_ ?_); rotate_left; first | exact Or.inl put_same | assumption | exact Or.inl (by assumption) | (refine Or.inl ?_; (focus ((repeat (first | exact put_same | assumption | refine put_old ?_ (by assumption))); done))) | exact listAt_put (by assumption) (by assumption) | exact listAt_sub (by assumption) (by assumption)) | ((with_reducible refine f_lenL (ds := ?_) ?_ ?_); rotate_left; first | exact Or.inl put_same | assumption | exact Or.inl (by assumption) | (refine Or.inl ?_; (focus ((repeat (first | exact put_same | assumption | refine put_old ?_ (by assumption))); done))) | exact listAt_put (by assumption) (by assumption) | exact listAt_sub (by assumption) (by assumption)) | ((with_reducible refine i_iL (ns := ?_) ?_ ?_ ?_); rotate_left; first | exact Or.inl put_same | assumption | exact Or.inl (by assumption) | (refine Or.inl ?_; (focus ((repeat (first | exact put_same | assumption | refine put_old ?_ (by assumption))); done))) | exact listAt_put (by assumption) (by assumption) | exact listAt_sub (by assumption) (by assumption)) | ((with_reducible refine i_fL (ns := ?_) ?_ ?_ ?_); rotate_left; first | exact Or.inl put_same | assumption | exact Or.inl (by assumption) | (refine Or.inl ?_; (focus ((repeat (first | exact put_same | assumption | refine put_old ?_ (by assumption))); done))) | exact listAt_put (by assumption) (by assumption) | exact listAt_sub (by assumption) (by assumption)) | ((with_reducible refine f_tupL (ds := ?_) ?_ ?_); rotate_left; first | exact Or.inl put_same | assumption | exact Or.inl (by assumption) | (refine Or.inl ?_; (focus ((repeat (first | exact put_same | assumption | refine put_old ?_ (by assumption))); done))) | exact listAt_put (by assumption) (by assumption) | exact listAt_sub (by assumption) (by assumption)) | ((with_reducible refine x_itL (ds := ?_) ?_ ?_); rotate_left; first | exact Or.inl put_same | assumption | exact Or.inl (by assumption) | (refine Or.inl ?_; (focus ((repeat (first | exact put_same | assumption | refine put_old ?_ (by assumption))); done))) | exact listAt_put (by assumption) (by assumption) | exact listAt_sub (by assumption) (by assumption)) | with_reducible refine x_new (fun r nr => ?_) | ((with_reducible refine b_lst (ds := ?_) (es := ?_) ?_ ?_ ?_ ?_); rotate_left 2; (focus ((repeat (first | exact put_same | assumption | refine put_old ?_ (by assumption))); done)); (focus ((repeat (first | exact put_same | assumption | refine put_old ?_ (by assumption))); done))) | ((with_reducible refine b_rep (ds := ?_) ?_ ?_ ?_); rotate_left; (focus ((repeat (first | exact put_same | assumption | refine put_old ?_ (by assumption))); done))) | with_reducible refine f_lstT ?_ | with_reducible refine b_tup ?_ ?_ | with_reducible refine z_lenfT ?_ | with_reducible refine f_lenT ?_ | with_reducible refine i_fT ?_ ?_ | with_reducible refine z_isiI ?_ | with_reducible refine z_isiB ?_ | with_reducible refine z_isiF ?_ | with_reducible refine z_isiT ?_ | with_reducible refine z_lenF ?_)); exact q
  have lB : ∀ {σ : DSt} (M : Mp) (Q : DK), Q (.tup (iL [13, 9])) M → wE G (.cons (.int 13) (.cons (.int 9) .nil)) σ M Q := fun M Q q => by (repeat' (first | ((with_reducible refine e_var (d := ?_) ?_ ?_); rotate_left; exact rfl) | with_reducible refine e_cons ?_ | with_reducible refine x_tup ?_ | with_reducible refine e_nil ?_ | with_reducible refine e_int ?_ | with_reducible refine e_idx ?_ | with_reducible refine e_bin ?_ | with_reducible refine b_add ?_ | with_reducible refine b_sub ?_ | with_reducible refine b_mul ?_ ?_ | with_reducible refine i_fr0 ?_ | with_reducible refine i_fr1 ?_ | with_reducible refine e_call ?_ | with_reducible refine e_callK ?_ | with_reducible refine e_bi ?_ | with_reducible refine s_seq ?_ | with_reducible refine s_asg ?_ | with_reducible refine s_ret ?_ | with_reducible refine e_cmp ?_ | with_reducible refine c_eq ?_ | with_reducible refine c_ne ?_ | with_reducible refine c_lt ?_ | with_reducible refine c_le ?_ | with_reducible refine c_gt ?_ | with_reducible refine c_ge ?_ | with_reducible refine s_ife ?_ | with_reducible refine x_ifT ?_ | with_reducible refine x_ifF ?_ | with_reducible refine x_ifNT ?_ | with_reducible refine x_ifNF ?_ | with_reducible refine x_ifd (fun hc => ?_) (fun hc => ?_) | with_reducible refine x_ifn (fun hc => ?_) (fun hc => ?_) | with_reducible refine x_if (fun hc => ?_) (fun hc => ?_) | with_reducible refine s_skip ?_ | with_reducible refine s_expr ?_ | with_reducible refine e_mt ?_ | with_reducible refine b_div ?_ ?_ | with_reducible refine b_mod ?_ ?_ | with_reducible refine b_pow ?_ ?_ | with_reducible refine e_tup ?_ | with_reducible refine x_len (by simp only [List.length_cons, List.length_nil]; decide) ?_ | with_reducible refine e_neg ?_ | with_reducible refine x_int ?_ | with_reducible refine e_bl ?_ | with_reducible refine e_non ?_ | with_reducible refine e_str ?_ | with_reducible refine e_and ?_ | with_reducible refine e_or ?_ | with_reducible refine e_not ?_ | with_reducible refine e_truth ?_ | with_reducible refine x_bl ?_ | with_reducible refine t_bl ?_ | with_reducible refine t_int ?_ | with_reducible refine t_tup ?_ | with_reducible refine t_non ?_ | with_reducible refine e_ife ?_ | with_reducible refine e_isi ?_ | with_reducible refine f_abs ?_ | with_reducible refine f_int ?_ | with_reducible refine f_gcd ?_ | with_reducible refine f_max ?_ | with_reducible refine f_min ?_ | with_reducible refine f_tupT ?_ | with_reducible refine s_for ?_ | with_reducible refine w_rng ?_ | with_reducible refine x_rng ?_ ?_ | with_reducible refine w_it ?_ | with_reducible refine x_itT ?_ | with_reducible refine s_while ?_ | with_reducible refine e_lst ?_ | with_reducible refine e_cut ?_ | with_reducible refine e_absent ?_ | with_reducible refine e_asInt ?_ | with_reducible refine x_pI ?_ | with_reducible refine x_pN ?_ | with_reducible refine e_chain ?_ | with_reducible refine e_comp ?_ | with_reducible refine e_tcomp ?_ | with_reducible refine s_brk ?_ | with_reducible refine s_cont ?_ | ((with_reducible refine m_app (ds := ?_) ?_ ?_); rotate_left; (focus ((repeat (first | exact put_same | assumption | refine put_old ?_ (by assumption))); done))) | ((with_reducible refine m_app2 (ds := ?_) ?_ ?_ ?_); rotate_left; (focus ((repeat (first | exact put_same | assumption | refine put_old ?_ (by assumption))); done))) | ((with_reducible refine z_leniL (qs := ?_) ?_ ?_); rotate_left; first | exact Or.inl put_same | assumption | exact Or.inl (by assumption) | (refine Or.inl ?_; (focus ((repeat (first | exact put_same | assumption | refine put_old ?_ (by assumption))); done))) | exact listAt_put (by assumption) (by assumption) | exact listAt_sub (by assumption) (by assumption)) | ((with_reducible refine z_lenfL (qs := ?_) ?_ ?_); rotate_left; first | exact Or.inl put_same | assumption | exact Or.inl (by assumption) | (refine Or.inl ?_; (focus ((repeat (first | exact put_same | assumption | refine put_old ?_ (by assumption))); done))) | exact listAt_put (by assumption) (by assumption) | exact listAt_sub (by assumption) (by assumption)) | ((with_reducible refine f_lenL (ds := ?_) ?_ ?_); rotate_left; first | exact Or.inl put_same | assumption | exact Or.inl (by assumption) | (refine Or.inl ?_; (focus ((repeat (first | exact put_same | assumption | refine put_old ?_ (by assumption))); done))) | exact listAt_put (by assumption) (by assumption) | exact listAt_sub (by assumption) (by assumption)) | ((with_reducible refine i_iL (ns := ?_) ?_ ?_ ?_); rotate_left; first | exact Or.inl put_same | assumption | exact Or.inl (by assumption) | (refine Or.inl ?_; (focus ((repeat (first | exact put_same | assumption | refine put_old ?_ (by assumption))); done))) | exact listAt_put (by assumption) (by assumption) | exact listAt_sub (by assumption) (by assumption)) | ((with_reducible refine i_fL (ns := ?_) ?_ ?_ ?_); rotate_left; first | exact Or.inl put_same | assumption | exact Or.inl (by assumption) | (refine Or.inl ?_; (focus ((repeat (first | exact put_same | assumption | refine put_old ?_ (by assumption))); done))) | exact listAt_put (by assumption) (by assumption) | exact listAt_sub (by assumption) (by assumption)) | ((with_reducible refine f_tupL (ds := ?_) ?_ ?_); rotate_left; first | exact Or.inl put_same | assumption | exact Or.inl (by assumption) | (refine Or.inl ?_; (focus ((repeat (first | exact put_same | assumption | refine put_old ?_ (by assumption))); done))) | exact listAt_put (by assumption) (by assumption) | exact listAt_sub (by assumption) (by assumption)) | ((with_reducible refine x_itL (ds := ?_) ?_ ?_); rotate_left; first | exact Or.inl put_same | assumption | exact Or.inl (by assumption) | (refine Or.inl ?_; (focus ((repeat (first | exact put_same | assumption | refine put_old ?_ (by assumption))); done))) | exact listAt_put (by assumption) (by assumption) | exact listAt_sub (by assumption) (by assumption)) | with_reducible refine x_new (fun r nr => ?_) | ((with_reducible refine b_lst (ds := ?_) (es := ?_) ?_ ?_ ?_ ?_); rotate_left 2; (focus ((repeat (first | exact put_same | assumption | refine put_old ?_ (by assumption))); done)); (focus ((repeat (first | exact put_same | assumption | refine put_old ?_ (by assumption))); done))) | ((with_reducible refine b_rep (ds := ?_) ?_ ?_ ?_); rotate_left; (focus ((repeat (first | exact put_same | assumption | refine put_old ?_ (by assumption))); done))) | with_reducible refine f_lstT ?_ | with_reducible refine b_tup ?_ ?_ | with_reducible refine z_lenfT ?_ | with_reducible refine f_lenT ?_ | with_reducible refine i_fT ?_ ?_ | with_reducible refine z_isiI ?_ | with_reducible refine z_isiB ?_ | with_reducible refine z_isiF ?_ | with_reducible refine z_isiT ?_ | with_reducible refine z_lenF ?_)); exact q
  repeat' (first | with_reducible refine c__law_cell g3 hu3 hb ?_ (by decide) (fun c hc => ?_) | with_reducible refine e_sizes lA lB (by decide) (by decide) (by decide) (by decide) (fun w1 M4 s4 l4 => ?_) | with_reducible refine c_digits2 g7 l4 (by decide) (by decide) (fun w2 M5 ns5 s5 l5 d5 => ?_) | ((with_reducible refine e_var (d := ?_) ?_ ?_); rotate_left; exact rfl) | with_reducible refine e_cons ?_ | with_reducible refine x_tup ?_ | with_reducible refine e_nil ?_ | with_reducible refine e_int ?_ | with_reducible refine e_idx ?_ | with_reducible refine e_bin ?_ | with_reducible refine b_add ?_ | with_reducible refine b_sub ?_ | with_reducible refine b_mul ?_ ?_ | with_reducible refine i_fr0 ?_ | with_reducible refine i_fr1 ?_ | with_reducible refine e_call ?_ | with_reducible refine e_callK ?_ | with_reducible refine e_bi ?_ | with_reducible refine s_seq ?_ | with_reducible refine s_asg ?_ | with_reducible refine s_ret ?_ | with_reducible refine e_cmp ?_ | with_reducible refine c_eq ?_ | with_reducible refine c_ne ?_ | with_reducible refine c_lt ?_ | with_reducible refine c_le ?_ | with_reducible refine c_gt ?_ | with_reducible refine c_ge ?_ | with_reducible refine x_ifT ?_ | with_reducible refine x_ifF ?_ | with_reducible refine x_ifNT ?_ | with_reducible refine x_ifNF ?_ | with_reducible refine x_ifd (fun hc => ?_) (fun hc => ?_) | with_reducible refine x_ifn (fun hc => ?_) (fun hc => ?_) | with_reducible refine x_if (fun hc => ?_) (fun hc => ?_) | with_reducible refine s_skip ?_ | with_reducible refine s_expr ?_ | with_reducible refine e_mt ?_ | with_reducible refine b_div ?_ ?_ | with_reducible refine b_mod ?_ ?_ | with_reducible refine b_pow ?_ ?_ | with_reducible refine e_tup ?_ | with_reducible refine x_len (by simp only [List.length_cons, List.length_nil]; decide) ?_ | with_reducible refine e_neg ?_ | with_reducible refine x_int ?_ | with_reducible refine e_bl ?_ | with_reducible refine e_non ?_ | with_reducible refine e_str ?_ | with_reducible refine e_and ?_ | with_reducible refine e_or ?_ | with_reducible refine e_not ?_ | with_reducible refine e_truth ?_ | with_reducible refine x_bl ?_ | with_reducible refine t_bl ?_ | with_reducible refine t_int ?_ | with_reducible refine t_tup ?_ | with_reducible refine t_non ?_ | with_reducible refine e_ife ?_ | with_reducible refine e_isi ?_ | with_reducible refine f_abs ?_ | with_reducible refine f_int ?_ | with_reducible refine f_gcd ?_ | with_reducible refine f_max ?_ | with_reducible refine f_min ?_ | with_reducible refine f_tupT ?_ | with_reducible refine s_for ?_ | with_reducible refine w_rng ?_ | with_reducible refine x_rng ?_ ?_ | with_reducible refine w_it ?_ | with_reducible refine x_itT ?_ | with_reducible refine s_while ?_ | with_reducible refine e_lst ?_ | with_reducible refine e_cut ?_ | with_reducible refine e_absent ?_ | with_reducible refine e_asInt ?_ | with_reducible refine x_pI ?_ | with_reducible refine x_pN ?_ | with_reducible refine e_chain ?_ | with_reducible refine e_comp ?_ | with_reducible refine e_tcomp ?_ | with_reducible refine s_brk ?_ | with_reducible refine s_cont ?_ | ((with_reducible refine m_app (ds := ?_) ?_ ?_); rotate_left; (focus ((repeat (first | exact put_same | assumption | refine put_old ?_ (by assumption))); done))) | ((with_reducible refine m_app2 (ds := ?_) ?_ ?_ ?_); rotate_left; (focus ((repeat (first | exact put_same | assumption | refine put_old ?_ (by assumption))); done))) | ((with_reducible refine z_leniL (qs := ?_) ?_ ?_); rotate_left; first | exact Or.inl put_same | assumption | exact Or.inl (by assumption) | (refine Or.inl ?_; (focus ((repeat (first | exact put_same | assumption | refine put_old ?_ (by assumption))); done))) | exact listAt_put (by assumption) (by assumption) | exact listAt_sub (by assumption) (by assumption)) | ((with_reducible refine z_lenfL (qs := ?_) ?_ ?_); rotate_left; first | exact Or.inl put_same | assumption | exact Or.inl (by assumption) | (refine Or.inl ?_; (focus ((repeat (first | exact put_same | assumption | refine put_old ?_ (by assumption))); done))) | exact listAt_put (by assumption) (by assumption) | exact listAt_sub (by assumption) (by assumption)) | ((with_reducible refine f_lenL (ds := ?_) ?_ ?_); rotate_left; first | exact Or.inl put_same | assumption | exact Or.inl (by assumption) | (refine Or.inl ?_; (focus ((repeat (first | exact put_same | assumption | refine put_old ?_ (by assumption))); done))) | exact listAt_put (by assumption) (by assumption) | exact listAt_sub (by assumption) (by assumption)) | ((with_reducible refine i_iL (ns := ?_) ?_ ?_ ?_); rotate_left; first | exact Or.inl put_same | assumption | exact Or.inl (by assumption) | (refine Or.inl ?_; (focus ((repeat (first | exact put_same | assumption | refine put_old ?_ (by assumption))); done))) | exact listAt_put (by assumption) (by assumption) | exact listAt_sub (by assumption) (by assumption)) | ((with_reducible refine i_fL (ns := ?_) ?_ ?_ ?_); rotate_left; first | exact Or.inl put_same | assumption | exact Or.inl (by assumption) | (refine Or.inl ?_; (focus ((repeat (first | exact put_same | assumption | refine put_old ?_ (by assumption))); done))) | exact listAt_put (by assumption) (by assumption) | exact listAt_sub (by assumption) (by assumption)) | ((with_reducible refine f_tupL (ds := ?_) ?_ ?_); rotate_left; first | exact Or.inl put_same | assumption | exact Or.inl (by assumption) | (refine Or.inl ?_; (focus ((repeat (first | exact put_same | assumption | refine put_old ?_ (by assumption))); done))) | exact listAt_put (by assumption) (by assumption) | exact listAt_sub (by assumption) (by assumption)) | ((with_reducible refine x_itL (ds := ?_) ?_ ?_); rotate_left; first | exact Or.inl put_same | assumption | exact Or.inl (by assumption) | (refine Or.inl ?_; (focus ((repeat (first | exact put_same | assumption | refine put_old ?_ (by assumption))); done))) | exact listAt_put (by assumption) (by assumption) | exact listAt_sub (by assumption) (by assumption)) | with_reducible refine x_new (fun r nr => ?_) | ((with_reducible refine b_lst (ds := ?_) (es := ?_) ?_ ?_ ?_ ?_); rotate_left 2; (focus ((repeat (first | exact put_same | assumption | refine put_old ?_ (by assumption))); done)); (focus ((repeat (first | exact put_same | assumption | refine put_old ?_ (by assumption))); done))) | ((with_reducible refine b_rep (ds := ?_) ?_ ?_ ?_); rotate_left; (focus ((repeat (first | exact put_same | assumption | refine put_old ?_ (by assumption))); done))) | with_reducible refine f_lstT ?_ | with_reducible refine b_tup ?_ ?_ | with_reducible refine z_lenfT ?_ | with_reducible refine f_lenT ?_ | with_reducible refine i_fT ?_ ?_ | with_reducible refine z_isiI ?_ | with_reducible refine z_isiB ?_ | with_reducible refine z_isiF ?_ | with_reducible refine z_isiT ?_ | with_reducible refine z_lenF ?_)
  · decide
  · have e5 : ns5.length = 27 := d5.1
    omega
  · have d0 : 0 ≤ ns5.getD 0 0 ∧ ns5.getD 0 0 < 13 := d5.2 0 (by decide)
    have t0 : ((0 : Int)).toNat = 0 := rfl
    rw [t0]; omega
  have e5 : ns5.length = 27 := d5.1
  have d0 : 0 ≤ ns5.getD 0 0 ∧ ns5.getD 0 0 < 13 := d5.2 0 (by decide)
  have big5 : ∀ i : Nat, i < 27 → ([13] ++ (List.replicate (Int.toNat 13) [13, 9]).flatten : List Int).getD i 0 ≤ 13 := by decide
  have dg5 : ∀ i : Nat, i < 27 → 0 ≤ ns5.getD i 0 ∧ ns5.getD i 0 < 100 := fun i hi => ⟨(d5.2 i hi).1, by have := (d5.2 i hi).2; have := big5 i hi; omega⟩
  have t0 : ((0 : Int)).toNat = 0 := rfl
  rw [t0]
  have hu5 := listAt_sub (listAt_sub hu3 s4) s5
  have hP5 := (hP3.sub s4).sub s5
  have sM5 := (s3.trans s4).trans s5
  refine comp_frs (Sz 200) (by have := big_line (show (1 + ns5.getD 0 0 - 0).toNat ≤ 1000000 by omega); omega) ?_ ?_
  · intro i M6 hi sb Q k
    have mk : IntMulOk 2 ((0 : Int) + i) := Bd.mulOk (n := 2) (m := 10) (by decide) (Bd.of_lt (by omega) (by omega)) (by decide)
    repeat' (first | with_reducible refine c__law_fraction g8 ?_ ?_ (by decide) (fun x hx => ?_) | ((with_reducible refine e_var (d := ?_) ?_ ?_); rotate_left; exact rfl) | with_reducible refine e_cons ?_ | with_reducible refine x_tup ?_ | with_reducible refine e_nil ?_ | with_reducible refine e_int ?_ | with_reducible refine e_idx ?_ | with_reducible refine e_bin ?_ | with_reducible refine b_add ?_ | with_reducible refine b_sub ?_ | with_reducible refine b_mul ?_ ?_ | with_reducible refine i_fr0 ?_ | with_reducible refine i_fr1 ?_ | with_reducible refine e_call ?_ | with_reducible refine e_callK ?_ | with_reducible refine e_bi ?_ | with_reducible refine s_seq ?_ | with_reducible refine s_asg ?_ | with_reducible refine s_ret ?_ | with_reducible refine e_cmp ?_ | with_reducible refine c_eq ?_ | with_reducible refine c_ne ?_ | with_reducible refine c_lt ?_ | with_reducible refine c_le ?_ | with_reducible refine c_gt ?_ | with_reducible refine c_ge ?_ | with_reducible refine s_ife ?_ | with_reducible refine x_ifT ?_ | with_reducible refine x_ifF ?_ | with_reducible refine x_ifNT ?_ | with_reducible refine x_ifNF ?_ | with_reducible refine x_ifd (fun hc => ?_) (fun hc => ?_) | with_reducible refine x_ifn (fun hc => ?_) (fun hc => ?_) | with_reducible refine x_if (fun hc => ?_) (fun hc => ?_) | with_reducible refine s_skip ?_ | with_reducible refine s_expr ?_ | with_reducible refine e_mt ?_ | with_reducible refine b_div ?_ ?_ | with_reducible refine b_mod ?_ ?_ | with_reducible refine b_pow ?_ ?_ | with_reducible refine e_tup ?_ | with_reducible refine x_len (by simp only [List.length_cons, List.length_nil]; decide) ?_ | with_reducible refine e_neg ?_ | with_reducible refine x_int ?_ | with_reducible refine e_bl ?_ | with_reducible refine e_non ?_ | with_reducible refine e_str ?_ | with_reducible refine e_and ?_ | with_reducible refine e_or ?_ | with_reducible refine e_not ?_ | with_reducible refine e_truth ?_ | with_reducible refine x_bl ?_ | with_reducible refine t_bl ?_ | with_reducible refine t_int ?_ | with_reducible refine t_tup ?_ | with_reducible refine t_non ?_ | with_reducible refine e_ife ?_ | with_reducible refine e_isi ?_ | with_reducible refine f_abs ?_ | with_reducible refine f_int ?_ | with_reducible refine f_gcd ?_ | with_reducible refine f_max ?_ | with_reducible refine f_min ?_ | with_reducible refine f_tupT ?_ | with_reducible refine s_for ?_ | with_reducible refine w_rng ?_ | with_reducible refine x_rng ?_ ?_ | with_reducible refine w_it ?_ | with_reducible refine x_itT ?_ | with_reducible refine s_while ?_ | with_reducible refine e_lst ?_ | with_reducible refine e_cut ?_ | with_reducible refine e_absent ?_ | with_reducible refine e_asInt ?_ | with_reducible refine x_pI ?_ | with_reducible refine x_pN ?_ | with_reducible refine e_chain ?_ | with_reducible refine e_comp ?_ | with_reducible refine e_tcomp ?_ | with_reducible refine s_brk ?_ | with_reducible refine s_cont ?_ | ((with_reducible refine m_app (ds := ?_) ?_ ?_); rotate_left; (focus ((repeat (first | exact put_same | assumption | refine put_old ?_ (by assumption))); done))) | ((with_reducible refine m_app2 (ds := ?_) ?_ ?_ ?_); rotate_left; (focus ((repeat (first | exact put_same | assumption | refine put_old ?_ (by assumption))); done))) | ((with_reducible refine z_leniL (qs := ?_) ?_ ?_); rotate_left; first | exact Or.inl put_same | assumption | exact Or.inl (by assumption) | (refine Or.inl ?_; (focus ((repeat (first | exact put_same | assumption | refine put_old ?_ (by assumption))); done))) | exact listAt_put (by assumption) (by assumption) | exact listAt_sub (by assumption) (by assumption)) | ((with_reducible refine z_lenfL (qs := ?_) ?_ ?_); rotate_left; first | exact Or.inl put_same | assumption | exact Or.inl (by assumption) | (refine Or.inl ?_; (focus ((repeat (first | exact put_same | assumption | refine put_old ?_ (by assumption))); done))) | exact listAt_put (by assumption) (by assumption) | exact listAt_sub (by assumption) (by assumption)) | ((with_reducible refine f_lenL (ds := ?_) ?_ ?_); rotate_left; first | exact Or.inl put_same | assumption | exact Or.inl (by assumption) | (refine Or.inl ?_; (focus ((repeat (first | exact put_same | assumption | refine put_old ?_ (by assumption))); done))) | exact listAt_put (by assumption) (by assumption) | exact listAt_sub (by assumption) (by assumption)) | ((with_reducible refine i_iL (ns := ?_) ?_ ?_ ?_); rotate_left; first | exact Or.inl put_same | assumption | exact Or.inl (by assumption) | (refine Or.inl ?_; (focus ((repeat (first | exact put_same | assumption | refine put_old ?_ (by assumption))); done))) | exact listAt_put (by assumption) (by assumption) | exact listAt_sub (by assumption) (by assumption)) | ((with_reducible refine i_fL (ns := ?_) ?_ ?_ ?_); rotate_left; first | exact Or.inl put_same | assumption | exact Or.inl (by assumption) | (refine Or.inl ?_; (focus ((repeat (first | exact put_same | assumption | refine put_old ?_ (by assumption))); done))) | exact listAt_put (by assumption) (by assumption) | exact listAt_sub (by assumption) (by assumption)) | ((with_reducible refine f_tupL (ds := ?_) ?_ ?_); rotate_left; first | exact Or.inl put_same | assumption | exact Or.inl (by assumption) | (refine Or.inl ?_; (focus ((repeat (first | exact put_same | assumption | refine put_old ?_ (by assumption))); done))) | exact listAt_put (by assumption) (by assumption) | exact listAt_sub (by assumption) (by assumption)) | ((with_reducible refine x_itL (ds := ?_) ?_ ?_); rotate_left; first | exact Or.inl put_same | assumption | exact Or.inl (by assumption) | (refine Or.inl ?_; (focus ((repeat (first | exact put_same | assumption | refine put_old ?_ (by assumption))); done))) | exact listAt_put (by assumption) (by assumption) | exact listAt_sub (by assumption) (by assumption)) | with_reducible refine x_new (fun r nr => ?_) | ((with_reducible refine b_lst (ds := ?_) (es := ?_) ?_ ?_ ?_ ?_); rotate_left 2; (focus ((repeat (first | exact put_same | assumption | refine put_old ?_ (by assumption))); done)); (focus ((repeat (first | exact put_same | assumption | refine put_old ?_ (by assumption))); done))) | ((with_reducible refine b_rep (ds := ?_) ?_ ?_ ?_); rotate_left; (focus ((repeat (first | exact put_same | assumption | refine put_old ?_ (by assumption))); done))) | with_reducible refine f_lstT ?_ | with_reducible refine b_tup ?_ ?_ | with_reducible refine z_lenfT ?_ | with_reducible refine f_lenT ?_ | with_reducible refine i_fT ?_ ?_ | with_reducible refine z_isiI ?_ | with_reducible refine z_isiB ?_ | with_reducible refine z_isiF ?_ | with_reducible refine z_isiT ?_ | with_reducible refine z_lenF ?_)
    · exact mk
    · omega
    · exact mk
    · omega
    · exact dg5 _ (by omega)
    · exact dg5 _ (by omega)
    · exact k M6 x sb hx
  intro its hil his
  have hil2 : 1 ≤ its.length ∧ its.length ≤ 13 := by omega
  repeat' (first | with_reducible refine c__law_cell g3 hu5 hb ?_ (by decide) (fun c hc => ?_) | with_reducible refine e_sizes lA2 lB (by decide) (by decide) (by decide) (by decide) (fun w3 M6 s6 l6 => ?_) | with_reducible refine c_digits2 g7 l6 (by decide) (by decide) (fun w4 M7 ns7 s7 l7 d7 => ?_) | ((with_reducible refine e_var (d := ?_) ?_ ?_); rotate_left; exact rfl) | with_reducible refine e_cons ?_ | with_reducible refine x_tup ?_ | with_reducible refine e_nil ?_ | with_reducible refine e_int ?_ | with_reducible refine e_idx ?_ | with_reducible refine e_bin ?_ | with_reducible refine b_add ?_ | with_reducible refine b_sub ?_ | with_reducible refine b_mul ?_ ?_ | with_reducible refine i_fr0 ?_ | with_reducible refine i_fr1 ?_ | with_reducible refine e_call ?_ | with_reducible refine e_callK ?_ | with_reducible refine e_bi ?_ | with_reducible refine s_seq ?_ | with_reducible refine s_asg ?_ | with_reducible refine s_ret ?_ | with_reducible refine e_cmp ?_ | with_reducible refine c_eq ?_ | with_reducible refine c_ne ?_ | with_reducible refine c_lt ?_ | with_reducible refine c_le ?_ | with_reducible refine c_gt ?_ | with_reducible refine c_ge ?_ | with_reducible refine x_ifT ?_ | with_reducible refine x_ifF ?_ | with_reducible refine x_ifNT ?_ | with_reducible refine x_ifNF ?_ | with_reducible refine x_ifd (fun hc => ?_) (fun hc => ?_) | with_reducible refine x_ifn (fun hc => ?_) (fun hc => ?_) | with_reducible refine x_if (fun hc => ?_) (fun hc => ?_) | with_reducible refine s_skip ?_ | with_reducible refine s_expr ?_ | with_reducible refine e_mt ?_ | with_reducible refine b_div ?_ ?_ | with_reducible refine b_mod ?_ ?_ | with_reducible refine b_pow ?_ ?_ | with_reducible refine e_tup ?_ | with_reducible refine x_len (by simp only [List.length_cons, List.length_nil]; decide) ?_ | with_reducible refine e_neg ?_ | with_reducible refine x_int ?_ | with_reducible refine e_bl ?_ | with_reducible refine e_non ?_ | with_reducible refine e_str ?_ | with_reducible refine e_and ?_ | with_reducible refine e_or ?_ | with_reducible refine e_not ?_ | with_reducible refine e_truth ?_ | with_reducible refine x_bl ?_ | with_reducible refine t_bl ?_ | with_reducible refine t_int ?_ | with_reducible refine t_tup ?_ | with_reducible refine t_non ?_ | with_reducible refine e_ife ?_ | with_reducible refine e_isi ?_ | with_reducible refine f_abs ?_ | with_reducible refine f_int ?_ | with_reducible refine f_gcd ?_ | with_reducible refine f_max ?_ | with_reducible refine f_min ?_ | with_reducible refine f_tupT ?_ | with_reducible refine s_for ?_ | with_reducible refine w_rng ?_ | with_reducible refine x_rng ?_ ?_ | with_reducible refine w_it ?_ | with_reducible refine x_itT ?_ | with_reducible refine s_while ?_ | with_reducible refine e_lst ?_ | with_reducible refine e_cut ?_ | with_reducible refine e_absent ?_ | with_reducible refine e_asInt ?_ | with_reducible refine x_pI ?_ | with_reducible refine x_pN ?_ | with_reducible refine e_chain ?_ | with_reducible refine e_comp ?_ | with_reducible refine e_tcomp ?_ | with_reducible refine s_brk ?_ | with_reducible refine s_cont ?_ | ((with_reducible refine m_app (ds := ?_) ?_ ?_); rotate_left; (focus ((repeat (first | exact put_same | assumption | refine put_old ?_ (by assumption))); done))) | ((with_reducible refine m_app2 (ds := ?_) ?_ ?_ ?_); rotate_left; (focus ((repeat (first | exact put_same | assumption | refine put_old ?_ (by assumption))); done))) | ((with_reducible refine z_leniL (qs := ?_) ?_ ?_); rotate_left; first | exact Or.inl put_same | assumption | exact Or.inl (by assumption) | (refine Or.inl ?_; (focus ((repeat (first | exact put_same | assumption | refine put_old ?_ (by assumption))); done))) | exact listAt_put (by assumption) (by assumption) | exact listAt_sub (by assumption) (by assumption)) | ((with_reducible refine z_lenfL (qs := ?_) ?_ ?_); rotate_left; first | exact Or.inl put_same | assumption | exact Or.inl (by assumption) | (refine Or.inl ?_; (focus ((repeat (first | exact put_same | assumption | refine put_old ?_ (by assumption))); done))) | exact listAt_put (by assumption) (by assumption) | exact listAt_sub (by assumption) (by assumption)) | ((with_reducible refine f_lenL (ds := ?_) ?_ ?_); rotate_left; first | exact Or.inl put_same | assumption | exact Or.inl (by assumption) | (refine Or.inl ?_; (focus ((repeat (first | exact put_same | assumption | refine put_old ?_ (by assumption))); done))) | exact listAt_put (by assumption) (by assumption) | exact listAt_sub (by assumption) (by assumption)) | ((with_reducible refine i_iL (ns := ?_) ?_ ?_ ?_); rotate_left; first | exact Or.inl put_same | assumption | exact Or.inl (by assumption) | (refine Or.inl ?_; (focus ((repeat (first | exact put_same | assumption | refine put_old ?_ (by assumption))); done))) | exact listAt_put (by assumption) (by assumption) | exact listAt_sub (by assumption) (by assumption)) | ((with_reducible refine i_fL (ns := ?_) ?_ ?_ ?_); rotate_left; first | exact Or.inl put_same | assumption | exact Or.inl (by assumption) | (refine Or.inl ?_; (focus ((repeat (first | exact put_same | assumption | refine put_old ?_ (by assumption))); done))) | exact listAt_put (by assumption) (by assumption) | exact listAt_sub (by assumption) (by assumption)) | ((with_reducible refine f_tupL (ds := ?_) ?_ ?_); rotate_left; first | exact Or.inl put_same | assumption | exact Or.inl (by assumption) | (refine Or.inl ?_; (focus ((repeat (first | exact put_same | assumption | refine put_old ?_ (by assumption))); done))) | exact listAt_put (by assumption) (by assumption) | exact listAt_sub (by assumption) (by assumption)) | ((with_reducible refine x_itL (ds := ?_) ?_ ?_); rotate_left; first | exact Or.inl put_same | assumption | exact Or.inl (by assumption) | (refine Or.inl ?_; (focus ((repeat (first | exact put_same | assumption | refine put_old ?_ (by assumption))); done))) | exact listAt_put (by assumption) (by assumption) | exact listAt_sub (by assumption) (by assumption)) | with_reducible refine x_new (fun r nr => ?_) | ((with_reducible refine b_lst (ds := ?_) (es := ?_) ?_ ?_ ?_ ?_); rotate_left 2; (focus ((repeat (first | exact put_same | assumption | refine put_old ?_ (by assumption))); done)); (focus ((repeat (first | exact put_same | assumption | refine put_old ?_ (by assumption))); done))) | ((with_reducible refine b_rep (ds := ?_) ?_ ?_ ?_); rotate_left; (focus ((repeat (first | exact put_same | assumption | refine put_old ?_ (by assumption))); done))) | with_reducible refine f_lstT ?_ | with_reducible refine b_tup ?_ ?_ | with_reducible refine z_lenfT ?_ | with_reducible refine f_lenT ?_ | with_reducible refine i_fT ?_ ?_ | with_reducible refine z_isiI ?_ | with_reducible refine z_isiB ?_ | with_reducible refine z_isiF ?_ | with_reducible refine z_isiT ?_ | with_reducible refine z_lenF ?_)
  · decide
  · have e7 : ns7.length = 12 := d7.1
    omega
  · have d0 : 0 ≤ ns7.getD 0 0 ∧ ns7.getD 0 0 < 5 := d7.2 0 (by decide)
    rw [t0]; omega
  have e7 : ns7.length = 12 := d7.1
  have f0 : 0 ≤ ns7.getD 0 0 ∧ ns7.getD 0 0 < 5 := d7.2 0 (by decide)
  have f1 : 0 ≤ ns7.getD 1 0 ∧ ns7.getD 1 0 < 47 := d7.2 1 (by decide)
  have big7 : ∀ i : Nat, i < 12 → ([5, 47] ++ (List.replicate (Int.toNat 5) [13, 9]).flatten : List Int).getD i 0 ≤ 47 := by decide
  have dg7 : ∀ i : Nat, i < 12 → 0 ≤ ns7.getD i 0 ∧ ns7.getD i 0 < 100 := fun i hi => ⟨(d7.2 i hi).1, by have := (d7.2 i hi).2; have := big7 i hi; omega⟩
  rw [t0]
  have hP7 := (hP5.sub s6).sub s7
  have sM7 := (sM5.trans s6).trans s7
  refine comp_frs (Sz 200) (by have := big_line (show (1 + ns7.getD 0 0 - 0).toNat ≤ 1000000 by omega); omega) ?_ ?_
  · intro i M6 hi sb Q k
    have mk : IntMulOk 2 ((0 : Int) + i) := Bd.mulOk (n := 2) (m := 10) (by decide) (Bd.of_lt (by omega) (by omega)) (by decide)
    repeat' (first | with_reducible refine c__law_fraction g8 ?_ ?_ (by decide) (fun x hx => ?_) | ((with_reducible refine e_var (d := ?_) ?_ ?_); rotate_left; exact rfl) | with_reducible refine e_cons ?_ | with_reducible refine x_tup ?_ | with_reducible refine e_nil ?_ | with_reducible refine e_int ?_ | with_reducible refine e_idx ?_ | with_reducible refine e_bin ?_ | with_reducible refine b_add ?_ | with_reducible refine b_sub ?_ | with_reducible refine b_mul ?_ ?_ | with_reducible refine i_fr0 ?_ | with_reducible refine i_fr1 ?_ | with_reducible refine e_call ?_ | with_reducible refine e_callK ?_ | with_reducible refine e_bi ?_ | with_reducible refine s_seq ?_ | with_reducible refine s_asg ?_ | with_reducible refine s_ret ?_ | with_reducible refine e_cmp ?_ | with_reducible refine c_eq ?_ | with_reducible refine c_ne ?_ | with_reducible refine c_lt ?_ | with_reducible refine c_le ?_ | with_reducible refine c_gt ?_ | with_reducible refine c_ge ?_ | with_reducible refine s_ife ?_ | with_reducible refine x_ifT ?_ | with_reducible refine x_ifF ?_ | with_reducible refine x_ifNT ?_ | with_reducible refine x_ifNF ?_ | with_reducible refine x_ifd (fun hc => ?_) (fun hc => ?_) | with_reducible refine x_ifn (fun hc => ?_) (fun hc => ?_) | with_reducible refine x_if (fun hc => ?_) (fun hc => ?_) | with_reducible refine s_skip ?_ | with_reducible refine s_expr ?_ | with_reducible refine e_mt ?_ | with_reducible refine b_div ?_ ?_ | with_reducible refine b_mod ?_ ?_ | with_reducible refine b_pow ?_ ?_ | with_reducible refine e_tup ?_ | with_reducible refine x_len (by simp only [List.length_cons, List.length_nil]; decide) ?_ | with_reducible refine e_neg ?_ | with_reducible refine x_int ?_ | with_reducible refine e_bl ?_ | with_reducible refine e_non ?_ | with_reducible refine e_str ?_ | with_reducible refine e_and ?_ | with_reducible refine e_or ?_ | with_reducible refine e_not ?_ | with_reducible refine e_truth ?_ | with_reducible refine x_bl ?_ | with_reducible refine t_bl ?_ | with_reducible refine t_int ?_ | with_reducible refine t_tup ?_ | with_reducible refine t_non ?_ | with_reducible refine e_ife ?_ | with_reducible refine e_isi ?_ | with_reducible refine f_abs ?_ | with_reducible refine f_int ?_ | with_reducible refine f_gcd ?_ | with_reducible refine f_max ?_ | with_reducible refine f_min ?_ | with_reducible refine f_tupT ?_ | with_reducible refine s_for ?_ | with_reducible refine w_rng ?_ | with_reducible refine x_rng ?_ ?_ | with_reducible refine w_it ?_ | with_reducible refine x_itT ?_ | with_reducible refine s_while ?_ | with_reducible refine e_lst ?_ | with_reducible refine e_cut ?_ | with_reducible refine e_absent ?_ | with_reducible refine e_asInt ?_ | with_reducible refine x_pI ?_ | with_reducible refine x_pN ?_ | with_reducible refine e_chain ?_ | with_reducible refine e_comp ?_ | with_reducible refine e_tcomp ?_ | with_reducible refine s_brk ?_ | with_reducible refine s_cont ?_ | ((with_reducible refine m_app (ds := ?_) ?_ ?_); rotate_left; (focus ((repeat (first | exact put_same | assumption | refine put_old ?_ (by assumption))); done))) | ((with_reducible refine m_app2 (ds := ?_) ?_ ?_ ?_); rotate_left; (focus ((repeat (first | exact put_same | assumption | refine put_old ?_ (by assumption))); done))) | ((with_reducible refine z_leniL (qs := ?_) ?_ ?_); rotate_left; first | exact Or.inl put_same | assumption | exact Or.inl (by assumption) | (refine Or.inl ?_; (focus ((repeat (first | exact put_same | assumption | refine put_old ?_ (by assumption))); done))) | exact listAt_put (by assumption) (by assumption) | exact listAt_sub (by assumption) (by assumption)) | ((with_reducible refine z_lenfL (qs := ?_) ?_ ?_); rotate_left; first | exact Or.inl put_same | assumption | exact Or.inl (by assumption) | (refine Or.inl ?_; (focus ((repeat (first | exact put_same | assumption | refine put_old ?_ (by assumption))); done))) | exact listAt_put (by assumption) (by assumption) | exact listAt_sub (by assumption) (by assumption)) | ((with_reducible refine f_lenL (ds := ?_) ?_ ?_); rotate_left; first | exact Or.inl put_same | assumption | exact Or.inl (by assumption) | (refine Or.inl ?_; (focus ((repeat (first | exact put_same | assumption | refine put_old ?_ (by assumption))); done))) | exact listAt_put (by assumption) (by assumption) | exact listAt_sub (by assumption) (by assumption)) | ((with_reducible refine i_iL (ns := ?_) ?_ ?_ ?_); rotate_left; first | exact Or.inl put_same | assumption | exact Or.inl (by assumption) | (refine Or.inl ?_; (focus ((repeat (first | exact put_same | assumption | refine put_old ?_ (by assumption))); done))) | exact listAt_put (by assumption) (by assumption) | exact listAt_sub (by assumption) (by assumption)) | ((with_reducible refine i_fL (ns := ?_) ?_ ?_ ?_); rotate_left; first | exact Or.inl put_same | assumption | exact Or.inl (by assumption) | (refine Or.inl ?_; (focus ((repeat (first | exact put_same | assumption | refine put_old ?_ (by assumption))); done))) | exact listAt_put (by assumption) (by assumption) | exact listAt_sub (by assumption) (by assumption)) | ((with_reducible refine f_tupL (ds := ?_) ?_ ?_); rotate_left; first | exact Or.inl put_same | assumption | exact Or.inl (by assumption) | (refine Or.inl ?_; (focus ((repeat (first | exact put_same | assumption | refine put_old ?_ (by assumption))); done))) | exact listAt_put (by assumption) (by assumption) | exact listAt_sub (by assumption) (by assumption)) | ((with_reducible refine x_itL (ds := ?_) ?_ ?_); rotate_left; first | exact Or.inl put_same | assumption | exact Or.inl (by assumption) | (refine Or.inl ?_; (focus ((repeat (first | exact put_same | assumption | refine put_old ?_ (by assumption))); done))) | exact listAt_put (by assumption) (by assumption) | exact listAt_sub (by assumption) (by assumption)) | with_reducible refine x_new (fun r nr => ?_) | ((with_reducible refine b_lst (ds := ?_) (es := ?_) ?_ ?_ ?_ ?_); rotate_left 2; (focus ((repeat (first | exact put_same | assumption | refine put_old ?_ (by assumption))); done)); (focus ((repeat (first | exact put_same | assumption | refine put_old ?_ (by assumption))); done))) | ((with_reducible refine b_rep (ds := ?_) ?_ ?_ ?_); rotate_left; (focus ((repeat (first | exact put_same | assumption | refine put_old ?_ (by assumption))); done))) | with_reducible refine f_lstT ?_ | with_reducible refine b_tup ?_ ?_ | with_reducible refine z_lenfT ?_ | with_reducible refine f_lenT ?_ | with_reducible refine i_fT ?_ ?_ | with_reducible refine z_isiI ?_ | with_reducible refine z_isiB ?_ | with_reducible refine z_isiF ?_ | with_reducible refine z_isiT ?_ | with_reducible refine z_lenF ?_)
    · exact mk
    · omega
    · exact mk
    · omega
    · exact dg7 _ (by omega)
    · exact dg7 _ (by omega)
    · exact k M6 x sb hx
  intro ps hpl hps
  repeat' (first | ((with_reducible refine e_var (d := ?_) ?_ ?_); rotate_left; exact rfl) | with_reducible refine e_cons ?_ | with_reducible refine x_tup ?_ | with_reducible refine e_nil ?_ | with_reducible refine e_int ?_ | with_reducible refine e_idx ?_ | with_reducible refine e_bin ?_ | with_reducible refine b_add ?_ | with_reducible refine b_sub ?_ | with_reducible refine b_mul ?_ ?_ | with_reducible refine i_fr0 ?_ | with_reducible refine i_fr1 ?_ | with_reducible refine e_call ?_ | with_reducible refine e_callK ?_ | with_reducible refine e_bi ?_ | with_reducible refine s_seq ?_ | with_reducible refine s_asg ?_ | with_reducible refine s_ret ?_ | with_reducible refine e_cmp ?_ | with_reducible refine c_eq ?_ | with_reducible refine c_ne ?_ | with_reducible refine c_lt ?_ | with_reducible refine c_le ?_ | with_reducible refine c_gt ?_ | with_reducible refine c_ge ?_ | with_reducible refine x_ifT ?_ | with_reducible refine x_ifF ?_ | with_reducible refine x_ifNT ?_ | with_reducible refine x_ifNF ?_ | with_reducible refine x_ifd (fun hc => ?_) (fun hc => ?_) | with_reducible refine x_ifn (fun hc => ?_) (fun hc => ?_) | with_reducible refine x_if (fun hc => ?_) (fun hc => ?_) | with_reducible refine s_skip ?_ | with_reducible refine s_expr ?_ | with_reducible refine e_mt ?_ | with_reducible refine b_div ?_ ?_ | with_reducible refine b_mod ?_ ?_ | with_reducible refine b_pow ?_ ?_ | with_reducible refine e_tup ?_ | with_reducible refine x_len (by simp only [List.length_cons, List.length_nil]; decide) ?_ | with_reducible refine e_neg ?_ | with_reducible refine x_int ?_ | with_reducible refine e_bl ?_ | with_reducible refine e_non ?_ | with_reducible refine e_str ?_ | with_reducible refine e_and ?_ | with_reducible refine e_or ?_ | with_reducible refine e_not ?_ | with_reducible refine e_truth ?_ | with_reducible refine x_bl ?_ | with_reducible refine t_bl ?_ | with_reducible refine t_int ?_ | with_reducible refine t_tup ?_ | with_reducible refine t_non ?_ | with_reducible refine e_ife ?_ | with_reducible refine e_isi ?_ | with_reducible refine f_abs ?_ | with_reducible refine f_int ?_ | with_reducible refine f_gcd ?_ | with_reducible refine f_max ?_ | with_reducible refine f_min ?_ | with_reducible refine f_tupT ?_ | with_reducible refine s_for ?_ | with_reducible refine w_rng ?_ | with_reducible refine x_rng ?_ ?_ | with_reducible refine w_it ?_ | with_reducible refine x_itT ?_ | with_reducible refine s_while ?_ | with_reducible refine e_lst ?_ | with_reducible refine e_cut ?_ | with_reducible refine e_absent ?_ | with_reducible refine e_asInt ?_ | with_reducible refine x_pI ?_ | with_reducible refine x_pN ?_ | with_reducible refine e_chain ?_ | with_reducible refine e_comp ?_ | with_reducible refine e_tcomp ?_ | with_reducible refine s_brk ?_ | with_reducible refine s_cont ?_ | ((with_reducible refine m_app (ds := ?_) ?_ ?_); rotate_left; (focus ((repeat (first | exact put_same | assumption | refine put_old ?_ (by assumption))); done))) | ((with_reducible refine m_app2 (ds := ?_) ?_ ?_ ?_); rotate_left; (focus ((repeat (first | exact put_same | assumption | refine put_old ?_ (by assumption))); done))) | ((with_reducible refine z_leniL (qs := ?_) ?_ ?_); rotate_left; first | exact Or.inl put_same | assumption | exact Or.inl (by assumption) | (refine Or.inl ?_; (focus ((repeat (first | exact put_same | assumption | refine put_old ?_ (by assumption))); done))) | exact listAt_put (by assumption) (by assumption) | exact listAt_sub (by assumption) (by assumption)) | ((with_reducible refine z_lenfL (qs := ?_) ?_ ?_); rotate_left; first | exact Or.inl put_same | assumption | exact Or.inl (by assumption) | (refine Or.inl ?_; (focus ((repeat (first | exact put_same | assumption | refine put_old ?_ (by assumption))); done))) | exact listAt_put (by assumption) (by assumption) | exact listAt_sub (by assumption) (by assumption)) | ((with_reducible refine f_lenL (ds := ?_) ?_ ?_); rotate_left; first | exact Or.inl put_same | assumption | exact Or.inl (by assumption) | (refine Or.inl ?_; (focus ((repeat (first | exact put_same | assumption | refine put_old ?_ (by assumption))); done))) | exact listAt_put (by assumption) (by assumption) | exact listAt_sub (by assumption) (by assumption)) | ((with_reducible refine i_iL (ns := ?_) ?_ ?_ ?_); rotate_left; first | exact Or.inl put_same | assumption | exact Or.inl (by assumption) | (refine Or.inl ?_; (focus ((repeat (first | exact put_same | assumption | refine put_old ?_ (by assumption))); done))) | exact listAt_put (by assumption) (by assumption) | exact listAt_sub (by assumption) (by assumption)) | ((with_reducible refine i_fL (ns := ?_) ?_ ?_ ?_); rotate_left; first | exact Or.inl put_same | assumption | exact Or.inl (by assumption) | (refine Or.inl ?_; (focus ((repeat (first | exact put_same | assumption | refine put_old ?_ (by assumption))); done))) | exact listAt_put (by assumption) (by assumption) | exact listAt_sub (by assumption) (by assumption)) | ((with_reducible refine f_tupL (ds := ?_) ?_ ?_); rotate_left; first | exact Or.inl put_same | assumption | exact Or.inl (by assumption) | (refine Or.inl ?_; (focus ((repeat (first | exact put_same | assumption | refine put_old ?_ (by assumption))); done))) | exact listAt_put (by assumption) (by assumption) | exact listAt_sub (by assumption) (by assumption)) | ((with_reducible refine x_itL (ds := ?_) ?_ ?_); rotate_left; first | exact Or.inl put_same | assumption | exact Or.inl (by assumption) | (refine Or.inl ?_; (focus ((repeat (first | exact put_same | assumption | refine put_old ?_ (by assumption))); done))) | exact listAt_put (by assumption) (by assumption) | exact listAt_sub (by assumption) (by assumption)) | with_reducible refine x_new (fun r nr => ?_) | ((with_reducible refine b_lst (ds := ?_) (es := ?_) ?_ ?_ ?_ ?_); rotate_left 2; (focus ((repeat (first | exact put_same | assumption | refine put_old ?_ (by assumption))); done)); (focus ((repeat (first | exact put_same | assumption | refine put_old ?_ (by assumption))); done))) | ((with_reducible refine b_rep (ds := ?_) ?_ ?_ ?_); rotate_left; (focus ((repeat (first | exact put_same | assumption | refine put_old ?_ (by assumption))); done))) | with_reducible refine f_lstT ?_ | with_reducible refine b_tup ?_ ?_ | with_reducible refine z_lenfT ?_ | with_reducible refine f_lenT ?_ | with_reducible refine i_fT ?_ ?_ | with_reducible refine z_isiI ?_ | with_reducible refine z_isiB ?_ | with_reducible refine z_isiF ?_ | with_reducible refine z_isiT ?_ | with_reducible refine z_lenF ?_)
  refine c__law_trim g9 (.inr ⟨_, rfl, .inl put_same⟩) (by omega) ?_
  have htl : (trimQ ps).length ≤ 5 := by rw [trimQ_len]; have := szTo_le ps ps.length; omega
  have hts := trimQ_mem hps
  have s8 := sub_new (o := .lst (fL ps)) (Sub.refl M7) nr
  have hP8 := hP7.sub s8
  have l8 := listAt_sub l7 s8
  have sM8 := sM7.trans s8
  generalize put M7 r (.lst (fL ps)) = M8 at hP8 l8 sM8 s8 ⊢
  have t1 : ((1 : Int)).toNat = 1 := rfl
  have hk : (13 : Int) + ns7.getD ((1 : Int)).toNat 0 = ((13 + ns7.getD 1 0).toNat : Int) := by rw [t1]; omega
  repeat' (first | with_reducible refine c__law_factors g10 hk hP8 (by omega) (by omega) (by omega) hts (fun fs hfl hfs => ?_) | ((with_reducible refine e_var (d := ?_) ?_ ?_); rotate_left; exact rfl) | with_reducible refine e_cons ?_ | with_reducible refine x_tup ?_ | with_reducible refine e_nil ?_ | with_reducible refine e_int ?_ | with_reducible refine e_idx ?_ | with_reducible refine e_bin ?_ | with_reducible refine b_add ?_ | with_reducible refine b_sub ?_ | with_reducible refine b_mul ?_ ?_ | with_reducible refine i_fr0 ?_ | with_reducible refine i_fr1 ?_ | with_reducible refine e_call ?_ | with_reducible refine e_callK ?_ | with_reducible refine e_bi ?_ | with_reducible refine s_seq ?_ | with_reducible refine s_asg ?_ | with_reducible refine s_ret ?_ | with_reducible refine e_cmp ?_ | with_reducible refine c_eq ?_ | with_reducible refine c_ne ?_ | with_reducible refine c_lt ?_ | with_reducible refine c_le ?_ | with_reducible refine c_gt ?_ | with_reducible refine c_ge ?_ | with_reducible refine x_ifT ?_ | with_reducible refine x_ifF ?_ | with_reducible refine x_ifNT ?_ | with_reducible refine x_ifNF ?_ | with_reducible refine x_ifd (fun hc => ?_) (fun hc => ?_) | with_reducible refine x_ifn (fun hc => ?_) (fun hc => ?_) | with_reducible refine x_if (fun hc => ?_) (fun hc => ?_) | with_reducible refine s_skip ?_ | with_reducible refine s_expr ?_ | with_reducible refine e_mt ?_ | with_reducible refine b_div ?_ ?_ | with_reducible refine b_mod ?_ ?_ | with_reducible refine b_pow ?_ ?_ | with_reducible refine e_tup ?_ | with_reducible refine x_len (by simp only [List.length_cons, List.length_nil]; decide) ?_ | with_reducible refine e_neg ?_ | with_reducible refine x_int ?_ | with_reducible refine e_bl ?_ | with_reducible refine e_non ?_ | with_reducible refine e_str ?_ | with_reducible refine e_and ?_ | with_reducible refine e_or ?_ | with_reducible refine e_not ?_ | with_reducible refine e_truth ?_ | with_reducible refine x_bl ?_ | with_reducible refine t_bl ?_ | with_reducible refine t_int ?_ | with_reducible refine t_tup ?_ | with_reducible refine t_non ?_ | with_reducible refine e_ife ?_ | with_reducible refine e_isi ?_ | with_reducible refine f_abs ?_ | with_reducible refine f_int ?_ | with_reducible refine f_gcd ?_ | with_reducible refine f_max ?_ | with_reducible refine f_min ?_ | with_reducible refine f_tupT ?_ | with_reducible refine s_for ?_ | with_reducible refine w_rng ?_ | with_reducible refine x_rng ?_ ?_ | with_reducible refine w_it ?_ | with_reducible refine x_itT ?_ | with_reducible refine s_while ?_ | with_reducible refine e_lst ?_ | with_reducible refine e_cut ?_ | with_reducible refine e_absent ?_ | with_reducible refine e_asInt ?_ | with_reducible refine x_pI ?_ | with_reducible refine x_pN ?_ | with_reducible refine e_chain ?_ | with_reducible refine e_comp ?_ | with_reducible refine e_tcomp ?_ | with_reducible refine s_brk ?_ | with_reducible refine s_cont ?_ | ((with_reducible refine m_app (ds := ?_) ?_ ?_); rotate_left; (focus ((repeat (first | exact put_same | assumption | refine put_old ?_ (by assumption))); done))) | ((with_reducible refine m_app2 (ds := ?_) ?_ ?_ ?_); rotate_left; (focus ((repeat (first | exact put_same | assumption | refine put_old ?_ (by assumption))); done))) | ((with_reducible refine z_leniL (qs := ?_) ?_ ?_); rotate_left; first | exact Or.inl put_same | assumption | exact Or.inl (by assumption) | (refine Or.inl ?_; (focus ((repeat (first | exact put_same | assumption | refine put_old ?_ (by assumption))); done))) | exact listAt_put (by assumption) (by assumption) | exact listAt_sub (by assumption) (by assumption)) | ((with_reducible refine z_lenfL (qs := ?_) ?_ ?_); rotate_left; first | exact Or.inl put_same | assumption | exact Or.inl (by assumption) | (refine Or.inl ?_; (focus ((repeat (first | exact put_same | assumption | refine put_old ?_ (by assumption))); done))) | exact listAt_put (by assumption) (by assumption) | exact listAt_sub (by assumption) (by assumption)) | ((with_reducible refine f_lenL (ds := ?_) ?_ ?_); rotate_left; first | exact Or.inl put_same | assumption | exact Or.inl (by assumption) | (refine Or.inl ?_; (focus ((repeat (first | exact put_same | assumption | refine put_old ?_ (by assumption))); done))) | exact listAt_put (by assumption) (by assumption) | exact listAt_sub (by assumption) (by assumption)) | ((with_reducible refine i_iL (ns := ?_) ?_ ?_ ?_); rotate_left; first | exact Or.inl put_same | assumption | exact Or.inl (by assumption) | (refine Or.inl ?_; (focus ((repeat (first | exact put_same | assumption | refine put_old ?_ (by assumption))); done))) | exact listAt_put (by assumption) (by assumption) | exact listAt_sub (by assumption) (by assumption)) | ((with_reducible refine i_fL (ns := ?_) ?_ ?_ ?_); rotate_left; first | exact Or.inl put_same | assumption | exact Or.inl (by assumption) | (refine Or.inl ?_; (focus ((repeat (first | exact put_same | assumption | refine put_old ?_ (by assumption))); done))) | exact listAt_put (by assumption) (by assumption) | exact listAt_sub (by assumption) (by assumption)) | ((with_reducible refine f_tupL (ds := ?_) ?_ ?_); rotate_left; first | exact Or.inl put_same | assumption | exact Or.inl (by assumption) | (refine Or.inl ?_; (focus ((repeat (first | exact put_same | assumption | refine put_old ?_ (by assumption))); done))) | exact listAt_put (by assumption) (by assumption) | exact listAt_sub (by assumption) (by assumption)) | ((with_reducible refine x_itL (ds := ?_) ?_ ?_); rotate_left; first | exact Or.inl put_same | assumption | exact Or.inl (by assumption) | (refine Or.inl ?_; (focus ((repeat (first | exact put_same | assumption | refine put_old ?_ (by assumption))); done))) | exact listAt_put (by assumption) (by assumption) | exact listAt_sub (by assumption) (by assumption)) | with_reducible refine x_new (fun r nr => ?_) | ((with_reducible refine b_lst (ds := ?_) (es := ?_) ?_ ?_ ?_ ?_); rotate_left 2; (focus ((repeat (first | exact put_same | assumption | refine put_old ?_ (by assumption))); done)); (focus ((repeat (first | exact put_same | assumption | refine put_old ?_ (by assumption))); done))) | ((with_reducible refine b_rep (ds := ?_) ?_ ?_ ?_); rotate_left; (focus ((repeat (first | exact put_same | assumption | refine put_old ?_ (by assumption))); done))) | with_reducible refine f_lstT ?_ | with_reducible refine b_tup ?_ ?_ | with_reducible refine z_lenfT ?_ | with_reducible refine f_lenT ?_ | with_reducible refine i_fT ?_ ?_ | with_reducible refine z_isiI ?_ | with_reducible refine z_isiB ?_ | with_reducible refine z_isiF ?_ | with_reducible refine z_isiT ?_ | with_reducible refine z_lenF ?_)
  · omega
  · have hl9 : listAt (put M8 r (.lst [D.tup (fL its), D.tup (fL fs), D.tup (fL its)])) r [D.tup (fL its), D.tup (fL fs), D.tup (fL its)] := .inl put_same
    have s9 := sub_new (o := .lst [D.tup (fL its), D.tup (fL fs), D.tup (fL its)]) (Sub.refl M8) nr
    have hP9 := hP8.sub s9
    have sM9 := sM8.trans s9
    generalize put M8 r (.lst [D.tup (fL its), D.tup (fL fs), D.tup (fL its)]) = M9 at hl9 hP9 sM9 s9 ⊢
    have good : ∀ (i : Nat) (hi : i < [D.tup (fL its), D.tup (fL fs), D.tup (fL its)].length), ∃ ws : List Rat, [D.tup (fL its), D.tup (fL fs), D.tup (fL its)][i] = .tup (fL ws) ∧ 1 ≤ ws.length ∧ ws.length ≤ 61 ∧ ∀ w ∈ ws, Sz 20000 w := fun i hi => by
      have his' : ∀ w ∈ its, Sz 20000 w := fun w hw => (his w hw).mono (by decide)
      have hi3 : i < 3 := hi
      rcases (by omega : i = 0 ∨ i = 1 ∨ i = 2) with rfl | rfl | rfl
      · exact ⟨its, rfl, by omega, by omega, his'⟩
      · exact ⟨fs, rfl, by omega, by omega, hfs⟩
      · exact ⟨its, rfl, by omega, by omega, his'⟩
    refine for_lst _ (fun i σ M' => M' = M9 ∧ ∃ x2 x4 o5 o6, σ = [some (.ref u), some (.ref r0), x2, none, x4, o5, o6, some (.ref w2), some (.tup (fL its)), some (.ref w4), some (.tup (fL (trimQ ps)))]) ⟨rfl, _, _, _, _, rfl⟩ (fun i σ M' z => by rw [z.1]; exact hl9) ?_ ?_
    · rintro i hi σ M' ⟨rfl, x2, x4, o5, o6, rfl⟩
      obtain ⟨ws, ews, w1, w2, hws⟩ := good i hi
      rw [ews]
      have hrl := rs_len ws
      have hrz := rs_sz (by omega) hws
      have key := summed_rs (show ws.length ≠ 0 by omega)
      have hrow : ((ws.length : Int) + 1) = ((rs ws).length : Int) := by rw [hrl]; rfl
      have b1 : (rs ws).length ≤ 62 + 1 := by omega
      have b2 : (rs ws).length ≤ 1000 := by omega
      have b3 : ((rs ws).length + 1) * (2 * 20000 + 100) ≤ 50000000 := by rw [hrl]; omega
      have b4 : ws.length ≤ 62 + 1 := by omega
      have b5 : ws.length ≤ 1000 := by omega
      have b6 : (ws.length + 1) * 20000 ≤ 50000000 := by omega
      repeat' (first | with_reducible refine c_raised g11 b5 (by decide) hws ?_ | with_reducible refine c__law_is_row g5 hrow b2 ?_ | with_reducible refine c__law_summed g6 hP9 b1 b2 b3 hrz ?_ | with_reducible refine c__law_summed g6 hP9 b4 b5 b6 hws ?_ | with_reducible refine c_nefrs (fun b hb => ?_) | ((with_reducible refine e_var (d := ?_) ?_ ?_); rotate_left; exact rfl) | with_reducible refine e_cons ?_ | with_reducible refine x_tup ?_ | with_reducible refine e_nil ?_ | with_reducible refine e_int ?_ | with_reducible refine e_idx ?_ | with_reducible refine e_bin ?_ | with_reducible refine b_add ?_ | with_reducible refine b_sub ?_ | with_reducible refine b_mul ?_ ?_ | with_reducible refine i_fr0 ?_ | with_reducible refine i_fr1 ?_ | with_reducible refine e_call ?_ | with_reducible refine e_callK ?_ | with_reducible refine e_bi ?_ | with_reducible refine s_seq ?_ | with_reducible refine s_asg ?_ | with_reducible refine s_ret ?_ | with_reducible refine e_cmp ?_ | with_reducible refine c_eq ?_ | with_reducible refine c_ne ?_ | with_reducible refine c_lt ?_ | with_reducible refine c_le ?_ | with_reducible refine c_gt ?_ | with_reducible refine c_ge ?_ | with_reducible refine s_ife ?_ | with_reducible refine x_ifT ?_ | with_reducible refine x_ifF ?_ | with_reducible refine x_ifNT ?_ | with_reducible refine x_ifNF ?_ | with_reducible refine x_ifd (fun hc => ?_) (fun hc => ?_) | with_reducible refine x_ifn (fun hc => ?_) (fun hc => ?_) | with_reducible refine x_if (fun hc => ?_) (fun hc => ?_) | with_reducible refine s_skip ?_ | with_reducible refine s_expr ?_ | with_reducible refine e_mt ?_ | with_reducible refine b_div ?_ ?_ | with_reducible refine b_mod ?_ ?_ | with_reducible refine b_pow ?_ ?_ | with_reducible refine e_tup ?_ | with_reducible refine x_len (by simp only [List.length_cons, List.length_nil]; decide) ?_ | with_reducible refine e_neg ?_ | with_reducible refine x_int ?_ | with_reducible refine e_bl ?_ | with_reducible refine e_non ?_ | with_reducible refine e_str ?_ | with_reducible refine e_and ?_ | with_reducible refine e_or ?_ | with_reducible refine e_not ?_ | with_reducible refine e_truth ?_ | with_reducible refine x_bl ?_ | with_reducible refine t_bl ?_ | with_reducible refine t_int ?_ | with_reducible refine t_tup ?_ | with_reducible refine t_non ?_ | with_reducible refine e_ife ?_ | with_reducible refine e_isi ?_ | with_reducible refine f_abs ?_ | with_reducible refine f_int ?_ | with_reducible refine f_gcd ?_ | with_reducible refine f_max ?_ | with_reducible refine f_min ?_ | with_reducible refine f_tupT ?_ | with_reducible refine s_for ?_ | with_reducible refine w_rng ?_ | with_reducible refine x_rng ?_ ?_ | with_reducible refine w_it ?_ | with_reducible refine x_itT ?_ | with_reducible refine s_while ?_ | with_reducible refine e_lst ?_ | with_reducible refine e_cut ?_ | with_reducible refine e_absent ?_ | with_reducible refine e_asInt ?_ | with_reducible refine x_pI ?_ | with_reducible refine x_pN ?_ | with_reducible refine e_chain ?_ | with_reducible refine e_comp ?_ | with_reducible refine e_tcomp ?_ | with_reducible refine s_brk ?_ | with_reducible refine s_cont ?_ | ((with_reducible refine m_app (ds := ?_) ?_ ?_); rotate_left; (focus ((repeat (first | exact put_same | assumption | refine put_old ?_ (by assumption))); done))) | ((with_reducible refine m_app2 (ds := ?_) ?_ ?_ ?_); rotate_left; (focus ((repeat (first | exact put_same | assumption | refine put_old ?_ (by assumption))); done))) | ((with_reducible refine z_leniL (qs := ?_) ?_ ?_); rotate_left; first | exact Or.inl put_same | assumption | exact Or.inl (by assumption) | (refine Or.inl ?_; (focus ((repeat (first | exact put_same | assumption | refine put_old ?_ (by assumption))); done))) | exact listAt_put (by assumption) (by assumption) | exact listAt_sub (by assumption) (by assumption)) | ((with_reducible refine z_lenfL (qs := ?_) ?_ ?_); rotate_left; first | exact Or.inl put_same | assumption | exact Or.inl (by assumption) | (refine Or.inl ?_; (focus ((repeat (first | exact put_same | assumption | refine put_old ?_ (by assumption))); done))) | exact listAt_put (by assumption) (by assumption) | exact listAt_sub (by assumption) (by assumption)) | ((with_reducible refine f_lenL (ds := ?_) ?_ ?_); rotate_left; first | exact Or.inl put_same | assumption | exact Or.inl (by assumption) | (refine Or.inl ?_; (focus ((repeat (first | exact put_same | assumption | refine put_old ?_ (by assumption))); done))) | exact listAt_put (by assumption) (by assumption) | exact listAt_sub (by assumption) (by assumption)) | ((with_reducible refine i_iL (ns := ?_) ?_ ?_ ?_); rotate_left; first | exact Or.inl put_same | assumption | exact Or.inl (by assumption) | (refine Or.inl ?_; (focus ((repeat (first | exact put_same | assumption | refine put_old ?_ (by assumption))); done))) | exact listAt_put (by assumption) (by assumption) | exact listAt_sub (by assumption) (by assumption)) | ((with_reducible refine i_fL (ns := ?_) ?_ ?_ ?_); rotate_left; first | exact Or.inl put_same | assumption | exact Or.inl (by assumption) | (refine Or.inl ?_; (focus ((repeat (first | exact put_same | assumption | refine put_old ?_ (by assumption))); done))) | exact listAt_put (by assumption) (by assumption) | exact listAt_sub (by assumption) (by assumption)) | ((with_reducible refine f_tupL (ds := ?_) ?_ ?_); rotate_left; first | exact Or.inl put_same | assumption | exact Or.inl (by assumption) | (refine Or.inl ?_; (focus ((repeat (first | exact put_same | assumption | refine put_old ?_ (by assumption))); done))) | exact listAt_put (by assumption) (by assumption) | exact listAt_sub (by assumption) (by assumption)) | ((with_reducible refine x_itL (ds := ?_) ?_ ?_); rotate_left; first | exact Or.inl put_same | assumption | exact Or.inl (by assumption) | (refine Or.inl ?_; (focus ((repeat (first | exact put_same | assumption | refine put_old ?_ (by assumption))); done))) | exact listAt_put (by assumption) (by assumption) | exact listAt_sub (by assumption) (by assumption)) | with_reducible refine x_new (fun r nr => ?_) | ((with_reducible refine b_lst (ds := ?_) (es := ?_) ?_ ?_ ?_ ?_); rotate_left 2; (focus ((repeat (first | exact put_same | assumption | refine put_old ?_ (by assumption))); done)); (focus ((repeat (first | exact put_same | assumption | refine put_old ?_ (by assumption))); done))) | ((with_reducible refine b_rep (ds := ?_) ?_ ?_ ?_); rotate_left; (focus ((repeat (first | exact put_same | assumption | refine put_old ?_ (by assumption))); done))) | with_reducible refine f_lstT ?_ | with_reducible refine b_tup ?_ ?_ | with_reducible refine z_lenfT ?_ | with_reducible refine f_lenT ?_ | with_reducible refine i_fT ?_ ?_ | with_reducible refine z_isiI ?_ | with_reducible refine z_isiB ?_ | with_reducible refine z_isiF ?_ | with_reducible refine z_isiT ?_ | with_reducible refine z_lenF ?_)
      · exact absurd key (hb.mp ‹_›)
      · exact ⟨M', Sub.refl M', rfl, _, _, _, _, rfl⟩
    · rintro σ M' ⟨rfl, x2, x4, o5, o6, rfl⟩
      repeat' (first | ((with_reducible refine e_var (d := ?_) ?_ ?_); rotate_left; exact rfl) | with_reducible refine e_cons ?_ | with_reducible refine x_tup ?_ | with_reducible refine e_nil ?_ | with_reducible refine e_int ?_ | with_reducible refine e_idx ?_ | with_reducible refine e_bin ?_ | with_reducible refine b_add ?_ | with_reducible refine b_sub ?_ | with_reducible refine b_mul ?_ ?_ | with_reducible refine i_fr0 ?_ | with_reducible refine i_fr1 ?_ | with_reducible refine e_call ?_ | with_reducible refine e_callK ?_ | with_reducible refine e_bi ?_ | with_reducible refine s_seq ?_ | with_reducible refine s_asg ?_ | with_reducible refine s_ret ?_ | with_reducible refine e_cmp ?_ | with_reducible refine c_eq ?_ | with_reducible refine c_ne ?_ | with_reducible refine c_lt ?_ | with_reducible refine c_le ?_ | with_reducible refine c_gt ?_ | with_reducible refine c_ge ?_ | with_reducible refine s_ife ?_ | with_reducible refine x_ifT ?_ | with_reducible refine x_ifF ?_ | with_reducible refine x_ifNT ?_ | with_reducible refine x_ifNF ?_ | with_reducible refine x_ifd (fun hc => ?_) (fun hc => ?_) | with_reducible refine x_ifn (fun hc => ?_) (fun hc => ?_) | with_reducible refine x_if (fun hc => ?_) (fun hc => ?_) | with_reducible refine s_skip ?_ | with_reducible refine s_expr ?_ | with_reducible refine e_mt ?_ | with_reducible refine b_div ?_ ?_ | with_reducible refine b_mod ?_ ?_ | with_reducible refine b_pow ?_ ?_ | with_reducible refine e_tup ?_ | with_reducible refine x_len (by simp only [List.length_cons, List.length_nil]; decide) ?_ | with_reducible refine e_neg ?_ | with_reducible refine x_int ?_ | with_reducible refine e_bl ?_ | with_reducible refine e_non ?_ | with_reducible refine e_str ?_ | with_reducible refine e_and ?_ | with_reducible refine e_or ?_ | with_reducible refine e_not ?_ | with_reducible refine e_truth ?_ | with_reducible refine x_bl ?_ | with_reducible refine t_bl ?_ | with_reducible refine t_int ?_ | with_reducible refine t_tup ?_ | with_reducible refine t_non ?_ | with_reducible refine e_ife ?_ | with_reducible refine e_isi ?_ | with_reducible refine f_abs ?_ | with_reducible refine f_int ?_ | with_reducible refine f_gcd ?_ | with_reducible refine f_max ?_ | with_reducible refine f_min ?_ | with_reducible refine f_tupT ?_ | with_reducible refine s_for ?_ | with_reducible refine w_rng ?_ | with_reducible refine x_rng ?_ ?_ | with_reducible refine w_it ?_ | with_reducible refine x_itT ?_ | with_reducible refine s_while ?_ | with_reducible refine e_lst ?_ | with_reducible refine e_cut ?_ | with_reducible refine e_absent ?_ | with_reducible refine e_asInt ?_ | with_reducible refine x_pI ?_ | with_reducible refine x_pN ?_ | with_reducible refine e_chain ?_ | with_reducible refine e_comp ?_ | with_reducible refine e_tcomp ?_ | with_reducible refine s_brk ?_ | with_reducible refine s_cont ?_ | ((with_reducible refine m_app (ds := ?_) ?_ ?_); rotate_left; (focus ((repeat (first | exact put_same | assumption | refine put_old ?_ (by assumption))); done))) | ((with_reducible refine m_app2 (ds := ?_) ?_ ?_ ?_); rotate_left; (focus ((repeat (first | exact put_same | assumption | refine put_old ?_ (by assumption))); done))) | ((with_reducible refine z_leniL (qs := ?_) ?_ ?_); rotate_left; first | exact Or.inl put_same | assumption | exact Or.inl (by assumption) | (refine Or.inl ?_; (focus ((repeat (first | exact put_same | assumption | refine put_old ?_ (by assumption))); done))) | exact listAt_put (by assumption) (by assumption) | exact listAt_sub (by assumption) (by assumption)) | ((with_reducible refine z_lenfL (qs := ?_) ?_ ?_); rotate_left; first | exact Or.inl put_same | assumption | exact Or.inl (by assumption) | (refine Or.inl ?_; (focus ((repeat (first | exact put_same | assumption | refine put_old ?_ (by assumption))); done))) | exact listAt_put (by assumption) (by assumption) | exact listAt_sub (by assumption) (by assumption)) | ((with_reducible refine f_lenL (ds := ?_) ?_ ?_); rotate_left; first | exact Or.inl put_same | assumption | exact Or.inl (by assumption) | (refine Or.inl ?_; (focus ((repeat (first | exact put_same | assumption | refine put_old ?_ (by assumption))); done))) | exact listAt_put (by assumption) (by assumption) | exact listAt_sub (by assumption) (by assumption)) | ((with_reducible refine i_iL (ns := ?_) ?_ ?_ ?_); rotate_left; first | exact Or.inl put_same | assumption | exact Or.inl (by assumption) | (refine Or.inl ?_; (focus ((repeat (first | exact put_same | assumption | refine put_old ?_ (by assumption))); done))) | exact listAt_put (by assumption) (by assumption) | exact listAt_sub (by assumption) (by assumption)) | ((with_reducible refine i_fL (ns := ?_) ?_ ?_ ?_); rotate_left; first | exact Or.inl put_same | assumption | exact Or.inl (by assumption) | (refine Or.inl ?_; (focus ((repeat (first | exact put_same | assumption | refine put_old ?_ (by assumption))); done))) | exact listAt_put (by assumption) (by assumption) | exact listAt_sub (by assumption) (by assumption)) | ((with_reducible refine f_tupL (ds := ?_) ?_ ?_); rotate_left; first | exact Or.inl put_same | assumption | exact Or.inl (by assumption) | (refine Or.inl ?_; (focus ((repeat (first | exact put_same | assumption | refine put_old ?_ (by assumption))); done))) | exact listAt_put (by assumption) (by assumption) | exact listAt_sub (by assumption) (by assumption)) | ((with_reducible refine x_itL (ds := ?_) ?_ ?_); rotate_left; first | exact Or.inl put_same | assumption | exact Or.inl (by assumption) | (refine Or.inl ?_; (focus ((repeat (first | exact put_same | assumption | refine put_old ?_ (by assumption))); done))) | exact listAt_put (by assumption) (by assumption) | exact listAt_sub (by assumption) (by assumption)) | with_reducible refine x_new (fun r nr => ?_) | ((with_reducible refine b_lst (ds := ?_) (es := ?_) ?_ ?_ ?_ ?_); rotate_left 2; (focus ((repeat (first | exact put_same | assumption | refine put_old ?_ (by assumption))); done)); (focus ((repeat (first | exact put_same | assumption | refine put_old ?_ (by assumption))); done))) | ((with_reducible refine b_rep (ds := ?_) ?_ ?_ ?_); rotate_left; (focus ((repeat (first | exact put_same | assumption | refine put_old ?_ (by assumption))); done))) | with_reducible refine f_lstT ?_ | with_reducible refine b_tup ?_ ?_ | with_reducible refine z_lenfT ?_ | with_reducible refine f_lenT ?_ | with_reducible refine i_fT ?_ ?_ | with_reducible refine z_isiI ?_ | with_reducible refine z_isiB ?_ | with_reducible refine z_isiF ?_ | with_reducible refine z_isiT ?_ | with_reducible refine z_lenF ?_)
      exact ⟨M, sM9, h⟩
theorem run_law (a : Addr) (ns : List Int) (hl : ns.length ≤ 63) (hb : ∀ z ∈ ns, Builtin.Int.intBits z ≤ 1048576) : sp_law [.ref a] (scriptM a ns) fun d _ => d = .bl true :=
  ⟨a, ns, rfl, .inr put_same, fun z hz => Bd.of_bits (hb z hz), rfl⟩
end
end Pd

set_option maxHeartbeats 0
namespace Law
open PySem PySem.Spec PyProof.Rows L2 Pd He
def top (i : Nat) : Stmt := PySem.Challenge.pw_smoothbylot_k40_tie_shares.main.body.getD i (.Pass ⟨0, 0, 0, 0⟩)
def dOf (x : Str) (i : Nat) : He.DefD := ⟨(x, none), x, x, L2.defArgs (top i), L2.defBody (top i), L2.defScope (top i), [], []⟩
def fn : List He.DefD := [dOf "ratio" 5, dOf "plus" 6, dOf "times" 7, dOf "over" 8, dOf "tie_shares" 10, dOf "raised" 11, dOf "_law_whole" 13, dOf "_law_cell" 14, dOf "_law_digits" 15, dOf "_law_ratio" 16, dOf "_law_is_ratio" 17, dOf "_law_trim" 18, dOf "_law_pascal" 19, dOf "_law_fraction" 20, dOf "_law_question" 21, dOf "_law_summed" 22, dOf "_law_is_row" 23, dOf "_law_factors" 24, dOf "law" 25]
def fa : List He.Fa := [.glo "ratio", .glo "plus", .glo "times", .glo "over", .glo "tie_shares", .glo "raised", .glo "_law_whole", .glo "_law_cell", .glo "_law_digits", .glo "_law_ratio", .glo "_law_is_ratio", .glo "_law_trim", .glo "_law_pascal", .glo "_law_fraction", .glo "_law_question", .glo "_law_summed", .glo "_law_is_row", .glo "_law_factors", .glo "law", .free "len", .free "range", .free "int", .free "abs", .free "repr", .free "tuple", .free "list", .free "max", .free "min", .free "sum", .free "isinstance", .free "bool", .free "str", .free "enumerate", .free "zip", .free "reversed", .free "sorted", .free "any", .free "all", .free "set", .free "dict"]
def bx : List (Str × String) := [("comb", "math.comb"), ("gcd", "math.gcd")]
def mth : List Str := ["comb", "gcd"]
def specs : List (Str × DSp) := [("ratio", sp_ratio), ("plus", sp_plus), ("times", sp_times), ("over", sp_over), ("tie_shares", sp_tie_shares 1000), ("raised", sp_raised), ("_law_whole", sp__law_whole), ("_law_cell", sp__law_cell 1048576), ("_law_digits", sp__law_digits), ("_law_ratio", sp_ratio), ("_law_is_ratio", sp__law_is_ratio), ("_law_trim", sp__law_trim), ("_law_pascal", sp__law_pascal), ("_law_fraction", sp__law_fraction), ("_law_question", sp__law_question), ("_law_summed", sp__law_summed), ("_law_is_row", sp__law_is_row), ("_law_factors", sp__law_factors), ("law", Pd.sp_law)]
def GG : Str → DSp := fun f => (specs.lookup f).getD fun _ _ _ => False
theorem g_ratio : GG "ratio" = sp_ratio := by rfl
theorem g_plus : GG "plus" = sp_plus := by rfl
theorem g_times : GG "times" = sp_times := by rfl
theorem g_over : GG "over" = sp_over := by rfl
theorem g_tie_shares : GG "tie_shares" = sp_tie_shares 1000 := by rfl
theorem g_raised : GG "raised" = sp_raised := by rfl
theorem g__law_whole : GG "_law_whole" = sp__law_whole := by rfl
theorem g__law_cell : GG "_law_cell" = sp__law_cell 1048576 := by rfl
theorem g__law_digits : GG "_law_digits" = sp__law_digits := by rfl
theorem g__law_ratio : GG "_law_ratio" = sp_ratio := by rfl
theorem g__law_is_ratio : GG "_law_is_ratio" = sp__law_is_ratio := by rfl
theorem g__law_trim : GG "_law_trim" = sp__law_trim := by rfl
theorem g__law_pascal : GG "_law_pascal" = sp__law_pascal := by rfl
theorem g__law_fraction : GG "_law_fraction" = sp__law_fraction := by rfl
theorem g__law_question : GG "_law_question" = sp__law_question := by rfl
theorem g__law_summed : GG "_law_summed" = sp__law_summed := by rfl
theorem g__law_is_row : GG "_law_is_row" = sp__law_is_row := by rfl
theorem g__law_factors : GG "_law_factors" = sp__law_factors := by rfl
theorem g_law : GG "law" = Pd.sp_law := by rfl
section
variable {P : Program} {w : World} {K : PySem.W.Frag} {mg : Str → Option Value} {base : Heap}
def sg0 : Sig := []
theorem cc0 : cB ["top", "bottom", "common"] sg0 mth 60 (L2.defScope (top 5)) (L2.defBody (top 5)) = some p_ratio := by kernel_rfl
theorem sc0 : FnScope ["top", "bottom", "common"] ["top", "bottom"] (L2.defScope (top 5)) := ⟨by kernel_rfl, by kernel_rfl, by kernel_rfl, by decide +kernel, by kernel_rfl, by decide +kernel, by decide +kernel⟩
def sg1 : Sig := [("ratio", (["top", "bottom"], []))]
theorem cc1 : cB ["one", "two"] sg1 mth 60 (L2.defScope (top 6)) (L2.defBody (top 6)) = some p_plus := by kernel_rfl
theorem sc1 : FnScope ["one", "two"] ["one", "two"] (L2.defScope (top 6)) := ⟨by kernel_rfl, by kernel_rfl, by kernel_rfl, by decide +kernel, by kernel_rfl, by decide +kernel, by decide +kernel⟩
def sg2 : Sig := [("plus", (["one", "two"], [])), ("ratio", (["top", "bottom"], []))]
theorem cc2 : cB ["one", "two"] sg2 mth 60 (L2.defScope (top 7)) (L2.defBody (top 7)) = some p_times := by kernel_rfl
theorem sc2 : FnScope ["one", "two"] ["one", "two"] (L2.defScope (top 7)) := ⟨by kernel_rfl, by kernel_rfl, by kernel_rfl, by decide +kernel, by kernel_rfl, by decide +kernel, by decide +kernel⟩
def sg3 : Sig := [("times", (["one", "two"], [])), ("plus", (["one", "two"], [])), ("ratio", (["top", "bottom"], []))]
theorem cc3 : cB ["one", "two"] sg3 mth 60 (L2.defScope (top 8)) (L2.defBody (top 8)) = some p_over := by kernel_rfl
theorem sc3 : FnScope ["one", "two"] ["one", "two"] (L2.defScope (top 8)) := ⟨by kernel_rfl, by kernel_rfl, by kernel_rfl, by decide +kernel, by kernel_rfl, by decide +kernel, by decide +kernel⟩
def sg4 : Sig := [("over", (["one", "two"], [])), ("times", (["one", "two"], [])), ("plus", (["one", "two"], [])), ("ratio", (["top", "bottom"], []))]
theorem cc4 : cB ["poly", "degree", "answer", "k", "height", "i"] sg4 mth 60 (L2.defScope (top 10)) (L2.defBody (top 10)) = some p_tie_shares := by kernel_rfl
theorem sc4 : FnScope ["poly", "degree", "answer", "k", "height", "i"] ["poly", "degree"] (L2.defScope (top 10)) := ⟨by kernel_rfl, by kernel_rfl, by kernel_rfl, by decide +kernel, by kernel_rfl, by decide +kernel, by decide +kernel⟩
def sg5 : Sig := [("tie_shares", (["poly", "degree"], [(1, ["degree"])])), ("over", (["one", "two"], [])), ("times", (["one", "two"], [])), ("plus", (["one", "two"], [])), ("ratio", (["top", "bottom"], []))]
theorem cc5 : cB ["shares", "size", "answer", "k", "height"] sg5 mth 60 (L2.defScope (top 11)) (L2.defBody (top 11)) = some p_raised := by kernel_rfl
theorem sc5 : FnScope ["shares", "size", "answer", "k", "height"] ["shares"] (L2.defScope (top 11)) := ⟨by kernel_rfl, by kernel_rfl, by kernel_rfl, by decide +kernel, by kernel_rfl, by decide +kernel, by decide +kernel⟩
def sg6 : Sig := [("raised", (["shares"], [])), ("tie_shares", (["poly", "degree"], [(1, ["degree"])])), ("over", (["one", "two"], [])), ("times", (["one", "two"], [])), ("plus", (["one", "two"], [])), ("ratio", (["top", "bottom"], []))]
theorem cc6 : cB ["value"] sg6 mth 60 (L2.defScope (top 13)) (L2.defBody (top 13)) = some p__law_whole := by kernel_rfl
theorem sc6 : FnScope ["value"] ["value"] (L2.defScope (top 13)) := ⟨by kernel_rfl, by kernel_rfl, by kernel_rfl, by decide +kernel, by kernel_rfl, by decide +kernel, by decide +kernel⟩
def sg7 : Sig := [("_law_whole", (["value"], [])), ("raised", (["shares"], [])), ("tie_shares", (["poly", "degree"], [(1, ["degree"])])), ("over", (["one", "two"], [])), ("times", (["one", "two"], [])), ("plus", (["one", "two"], [])), ("ratio", (["top", "bottom"], []))]
theorem cc7 : cB ["script", "k", "seed", "cell"] sg7 mth 60 (L2.defScope (top 14)) (L2.defBody (top 14)) = some p__law_cell := by kernel_rfl
theorem sc7 : FnScope ["script", "k", "seed", "cell"] ["script", "k"] (L2.defScope (top 14)) := ⟨by kernel_rfl, by kernel_rfl, by kernel_rfl, by decide +kernel, by kernel_rfl, by decide +kernel, by decide +kernel⟩
def sg8 : Sig := [("_law_cell", (["script", "k"], [])), ("_law_whole", (["value"], [])), ("raised", (["shares"], [])), ("tie_shares", (["poly", "degree"], [(1, ["degree"])])), ("over", (["one", "two"], [])), ("times", (["one", "two"], [])), ("plus", (["one", "two"], [])), ("ratio", (["top", "bottom"], []))]
theorem cc8 : cB ["cell", "sizes", "row", "rest", "size", "seed", "k", "twice"] sg8 mth 60 (L2.defScope (top 15)) (L2.defBody (top 15)) = some p__law_digits := by kernel_rfl
theorem sc8 : FnScope ["cell", "sizes", "row", "rest", "size", "seed", "k", "twice"] ["cell", "sizes"] (L2.defScope (top 15)) := ⟨by kernel_rfl, by kernel_rfl, by kernel_rfl, by decide +kernel, by kernel_rfl, by decide +kernel, by decide +kernel⟩
def sg9 : Sig := [("_law_digits", (["cell", "sizes"], [])), ("_law_cell", (["script", "k"], [])), ("_law_whole", (["value"], [])), ("raised", (["shares"], [])), ("tie_shares", (["poly", "degree"], [(1, ["degree"])])), ("over", (["one", "two"], [])), ("times", (["one", "two"], [])), ("plus", (["one", "two"], [])), ("ratio", (["top", "bottom"], []))]
theorem cc9 : cB ["top", "bottom", "one", "two", "rest"] sg9 mth 60 (L2.defScope (top 16)) (L2.defBody (top 16)) = some p__law_ratio := by kernel_rfl
theorem sc9 : FnScope ["top", "bottom", "one", "two", "rest"] ["top", "bottom"] (L2.defScope (top 16)) := ⟨by kernel_rfl, by kernel_rfl, by kernel_rfl, by decide +kernel, by kernel_rfl, by decide +kernel, by decide +kernel⟩
def sg10 : Sig := [("_law_ratio", (["top", "bottom"], [])), ("_law_digits", (["cell", "sizes"], [])), ("_law_cell", (["script", "k"], [])), ("_law_whole", (["value"], [])), ("raised", (["shares"], [])), ("tie_shares", (["poly", "degree"], [(1, ["degree"])])), ("over", (["one", "two"], [])), ("times", (["one", "two"], [])), ("plus", (["one", "two"], [])), ("ratio", (["top", "bottom"], []))]
theorem cc10 : cB ["value"] sg10 mth 60 (L2.defScope (top 17)) (L2.defBody (top 17)) = some p__law_is_ratio := by kernel_rfl
theorem sc10 : FnScope ["value"] ["value"] (L2.defScope (top 17)) := ⟨by kernel_rfl, by kernel_rfl, by kernel_rfl, by decide +kernel, by kernel_rfl, by decide +kernel, by decide +kernel⟩
def sg11 : Sig := [("_law_is_ratio", (["value"], [])), ("_law_ratio", (["top", "bottom"], [])), ("_law_digits", (["cell", "sizes"], [])), ("_law_cell", (["script", "k"], [])), ("_law_whole", (["value"], [])), ("raised", (["shares"], [])), ("tie_shares", (["poly", "degree"], [(1, ["degree"])])), ("over", (["one", "two"], [])), ("times", (["one", "two"], [])), ("plus", (["one", "two"], [])), ("ratio", (["top", "bottom"], []))]
theorem cc11 : cB ["coefficients", "size", "k"] sg11 mth 60 (L2.defScope (top 18)) (L2.defBody (top 18)) = some p__law_trim := by kernel_rfl
theorem sc11 : FnScope ["coefficients", "size", "k"] ["coefficients"] (L2.defScope (top 18)) := ⟨by kernel_rfl, by kernel_rfl, by kernel_rfl, by decide +kernel, by kernel_rfl, by decide +kernel, by decide +kernel⟩
def sg12 : Sig := [("_law_trim", (["coefficients"], [])), ("_law_is_ratio", (["value"], [])), ("_law_ratio", (["top", "bottom"], [])), ("_law_digits", (["cell", "sizes"], [])), ("_law_cell", (["script", "k"], [])), ("_law_whole", (["value"], [])), ("raised", (["shares"], [])), ("tie_shares", (["poly", "degree"], [(1, ["degree"])])), ("over", (["one", "two"], [])), ("times", (["one", "two"], [])), ("plus", (["one", "two"], [])), ("ratio", (["top", "bottom"], []))]
theorem cc12 : cB ["size", "rows", "k", "last", "j"] sg12 mth 60 (L2.defScope (top 19)) (L2.defBody (top 19)) = some p__law_pascal := by kernel_rfl
theorem sc12 : FnScope ["size", "rows", "k", "last", "j"] ["size"] (L2.defScope (top 19)) := ⟨by kernel_rfl, by kernel_rfl, by kernel_rfl, by decide +kernel, by kernel_rfl, by decide +kernel, by decide +kernel⟩
def sg13 : Sig := [("_law_pascal", (["size"], [])), ("_law_trim", (["coefficients"], [])), ("_law_is_ratio", (["value"], [])), ("_law_ratio", (["top", "bottom"], [])), ("_law_digits", (["cell", "sizes"], [])), ("_law_cell", (["script", "k"], [])), ("_law_whole", (["value"], [])), ("raised", (["shares"], [])), ("tie_shares", (["poly", "degree"], [(1, ["degree"])])), ("over", (["one", "two"], [])), ("times", (["one", "two"], [])), ("plus", (["one", "two"], [])), ("ratio", (["top", "bottom"], []))]
theorem cc13 : cB ["top", "bottom", "big"] sg13 mth 60 (L2.defScope (top 20)) (L2.defBody (top 20)) = some p__law_fraction := by kernel_rfl
theorem sc13 : FnScope ["top", "bottom", "big"] ["top", "bottom", "big"] (L2.defScope (top 20)) := ⟨by kernel_rfl, by kernel_rfl, by kernel_rfl, by decide +kernel, by kernel_rfl, by decide +kernel, by decide +kernel⟩
def sg14 : Sig := [("_law_fraction", (["top", "bottom", "big"], [])), ("_law_pascal", (["size"], [])), ("_law_trim", (["coefficients"], [])), ("_law_is_ratio", (["value"], [])), ("_law_ratio", (["top", "bottom"], [])), ("_law_digits", (["cell", "sizes"], [])), ("_law_cell", (["script", "k"], [])), ("_law_whole", (["value"], [])), ("raised", (["shares"], [])), ("tie_shares", (["poly", "degree"], [(1, ["degree"])])), ("over", (["one", "two"], [])), ("times", (["one", "two"], [])), ("plus", (["one", "two"], [])), ("ratio", (["top", "bottom"], []))]
theorem cc14 : cB ["cell", "more", "row", "size", "big", "items", "k", "poly", "number"] sg14 mth 60 (L2.defScope (top 21)) (L2.defBody (top 21)) = some p__law_question := by kernel_rfl
theorem sc14 : FnScope ["cell", "more", "row", "size", "big", "items", "k", "poly", "number"] ["cell", "more"] (L2.defScope (top 21)) := ⟨by kernel_rfl, by kernel_rfl, by kernel_rfl, by decide +kernel, by kernel_rfl, by decide +kernel, by decide +kernel⟩
def sg15 : Sig := [("_law_question", (["cell", "more"], [])), ("_law_fraction", (["top", "bottom", "big"], [])), ("_law_pascal", (["size"], [])), ("_law_trim", (["coefficients"], [])), ("_law_is_ratio", (["value"], [])), ("_law_ratio", (["top", "bottom"], [])), ("_law_digits", (["cell", "sizes"], [])), ("_law_cell", (["script", "k"], [])), ("_law_whole", (["value"], [])), ("raised", (["shares"], [])), ("tie_shares", (["poly", "degree"], [(1, ["degree"])])), ("over", (["one", "two"], [])), ("times", (["one", "two"], [])), ("plus", (["one", "two"], [])), ("ratio", (["top", "bottom"], []))]
theorem cc15 : cB ["rows", "items", "size", "bottom", "item", "whole", "told", "s", "value", "sign", "k"] sg15 mth 60 (L2.defScope (top 22)) (L2.defBody (top 22)) = some p__law_summed := by kernel_rfl
theorem sc15 : FnScope ["rows", "items", "size", "bottom", "item", "whole", "told", "s", "value", "sign", "k"] ["rows", "items"] (L2.defScope (top 22)) := ⟨by kernel_rfl, by kernel_rfl, by kernel_rfl, by decide +kernel, by kernel_rfl, by decide +kernel, by decide +kernel⟩
def sg16 : Sig := [("_law_summed", (["rows", "items"], [])), ("_law_question", (["cell", "more"], [])), ("_law_fraction", (["top", "bottom", "big"], [])), ("_law_pascal", (["size"], [])), ("_law_trim", (["coefficients"], [])), ("_law_is_ratio", (["value"], [])), ("_law_ratio", (["top", "bottom"], [])), ("_law_digits", (["cell", "sizes"], [])), ("_law_cell", (["script", "k"], [])), ("_law_whole", (["value"], [])), ("raised", (["shares"], [])), ("tie_shares", (["poly", "degree"], [(1, ["degree"])])), ("over", (["one", "two"], [])), ("times", (["one", "two"], [])), ("plus", (["one", "two"], [])), ("ratio", (["top", "bottom"], []))]
theorem cc16 : cB ["told", "size", "item"] sg16 mth 60 (L2.defScope (top 23)) (L2.defBody (top 23)) = some p__law_is_row := by kernel_rfl
theorem sc16 : FnScope ["told", "size", "item"] ["told", "size"] (L2.defScope (top 23)) := ⟨by kernel_rfl, by kernel_rfl, by kernel_rfl, by decide +kernel, by kernel_rfl, by decide +kernel, by decide +kernel⟩
def sg17 : Sig := [("_law_is_row", (["told", "size"], [])), ("_law_summed", (["rows", "items"], [])), ("_law_question", (["cell", "more"], [])), ("_law_fraction", (["top", "bottom", "big"], [])), ("_law_pascal", (["size"], [])), ("_law_trim", (["coefficients"], [])), ("_law_is_ratio", (["value"], [])), ("_law_ratio", (["top", "bottom"], [])), ("_law_digits", (["cell", "sizes"], [])), ("_law_cell", (["script", "k"], [])), ("_law_whole", (["value"], [])), ("raised", (["shares"], [])), ("tie_shares", (["poly", "degree"], [(1, ["degree"])])), ("over", (["one", "two"], [])), ("times", (["one", "two"], [])), ("plus", (["one", "two"], [])), ("ratio", (["top", "bottom"], []))]
theorem cc17 : cB ["rows", "poly", "number", "told", "k", "top", "bottom", "j", "part"] sg17 mth 60 (L2.defScope (top 24)) (L2.defBody (top 24)) = some p__law_factors := by kernel_rfl
theorem sc17 : FnScope ["rows", "poly", "number", "told", "k", "top", "bottom", "j", "part"] ["rows", "poly", "number"] (L2.defScope (top 24)) := ⟨by kernel_rfl, by kernel_rfl, by kernel_rfl, by decide +kernel, by kernel_rfl, by decide +kernel, by decide +kernel⟩
def sg18 : Sig := [("_law_factors", (["rows", "poly", "number"], [])), ("_law_is_row", (["told", "size"], [])), ("_law_summed", (["rows", "items"], [])), ("_law_question", (["cell", "more"], [])), ("_law_fraction", (["top", "bottom", "big"], [])), ("_law_pascal", (["size"], [])), ("_law_trim", (["coefficients"], [])), ("_law_is_ratio", (["value"], [])), ("_law_ratio", (["top", "bottom"], [])), ("_law_digits", (["cell", "sizes"], [])), ("_law_cell", (["script", "k"], [])), ("_law_whole", (["value"], [])), ("raised", (["shares"], [])), ("tie_shares", (["poly", "degree"], [(1, ["degree"])])), ("over", (["one", "two"], [])), ("times", (["one", "two"], [])), ("plus", (["one", "two"], [])), ("ratio", (["top", "bottom"], []))]
theorem cc18 : cB ["script", "rows", "asked", "k", "turn", "mine", "told", "row", "items", "more", "poly"] sg18 mth 60 (L2.defScope (top 25)) (L2.defBody (top 25)) = some p_law := by kernel_rfl
theorem sc18 : FnScope ["script", "rows", "asked", "k", "turn", "mine", "told", "row", "items", "more", "poly"] ["script"] (L2.defScope (top 25)) := ⟨by kernel_rfl, by kernel_rfl, by kernel_rfl, by decide +kernel, by kernel_rfl, by decide +kernel, by decide +kernel⟩
theorem table (X : K.In base) (gb : Gb P mg base mth) {f0 : Addr} {fd0 : FuncData} (F0 : FunD K "ratio" "ratio" (L2.defArgs (top 5)) (L2.defBody (top 5)) (L2.defScope (top 5)) [] [] f0 fd0) (m0 : mg "ratio" = some (.ref f0)) {f1 : Addr} {fd1 : FuncData} (F1 : FunD K "plus" "plus" (L2.defArgs (top 6)) (L2.defBody (top 6)) (L2.defScope (top 6)) [] [] f1 fd1) (m1 : mg "plus" = some (.ref f1)) {f2 : Addr} {fd2 : FuncData} (F2 : FunD K "times" "times" (L2.defArgs (top 7)) (L2.defBody (top 7)) (L2.defScope (top 7)) [] [] f2 fd2) (m2 : mg "times" = some (.ref f2)) {f3 : Addr} {fd3 : FuncData} (F3 : FunD K "over" "over" (L2.defArgs (top 8)) (L2.defBody (top 8)) (L2.defScope (top 8)) [] [] f3 fd3) (m3 : mg "over" = some (.ref f3)) {f4 : Addr} {fd4 : FuncData} (F4 : FunD K "tie_shares" "tie_shares" (L2.defArgs (top 10)) (L2.defBody (top 10)) (L2.defScope (top 10)) [] [] f4 fd4) (m4 : mg "tie_shares" = some (.ref f4)) {f5 : Addr} {fd5 : FuncData} (F5 : FunD K "raised" "raised" (L2.defArgs (top 11)) (L2.defBody (top 11)) (L2.defScope (top 11)) [] [] f5 fd5) (m5 : mg "raised" = some (.ref f5)) {f6 : Addr} {fd6 : FuncData} (F6 : FunD K "_law_whole" "_law_whole" (L2.defArgs (top 13)) (L2.defBody (top 13)) (L2.defScope (top 13)) [] [] f6 fd6) (m6 : mg "_law_whole" = some (.ref f6)) {f7 : Addr} {fd7 : FuncData} (F7 : FunD K "_law_cell" "_law_cell" (L2.defArgs (top 14)) (L2.defBody (top 14)) (L2.defScope (top 14)) [] [] f7 fd7) (m7 : mg "_law_cell" = some (.ref f7)) {f8 : Addr} {fd8 : FuncData} (F8 : FunD K "_law_digits" "_law_digits" (L2.defArgs (top 15)) (L2.defBody (top 15)) (L2.defScope (top 15)) [] [] f8 fd8) (m8 : mg "_law_digits" = some (.ref f8)) {f9 : Addr} {fd9 : FuncData} (F9 : FunD K "_law_ratio" "_law_ratio" (L2.defArgs (top 16)) (L2.defBody (top 16)) (L2.defScope (top 16)) [] [] f9 fd9) (m9 : mg "_law_ratio" = some (.ref f9)) {f10 : Addr} {fd10 : FuncData} (F10 : FunD K "_law_is_ratio" "_law_is_ratio" (L2.defArgs (top 17)) (L2.defBody (top 17)) (L2.defScope (top 17)) [] [] f10 fd10) (m10 : mg "_law_is_ratio" = some (.ref f10)) {f11 : Addr} {fd11 : FuncData} (F11 : FunD K "_law_trim" "_law_trim" (L2.defArgs (top 18)) (L2.defBody (top 18)) (L2.defScope (top 18)) [] [] f11 fd11) (m11 : mg "_law_trim" = some (.ref f11)) {f12 : Addr} {fd12 : FuncData} (F12 : FunD K "_law_pascal" "_law_pascal" (L2.defArgs (top 19)) (L2.defBody (top 19)) (L2.defScope (top 19)) [] [] f12 fd12) (m12 : mg "_law_pascal" = some (.ref f12)) {f13 : Addr} {fd13 : FuncData} (F13 : FunD K "_law_fraction" "_law_fraction" (L2.defArgs (top 20)) (L2.defBody (top 20)) (L2.defScope (top 20)) [] [] f13 fd13) (m13 : mg "_law_fraction" = some (.ref f13)) {f14 : Addr} {fd14 : FuncData} (F14 : FunD K "_law_question" "_law_question" (L2.defArgs (top 21)) (L2.defBody (top 21)) (L2.defScope (top 21)) [] [] f14 fd14) (m14 : mg "_law_question" = some (.ref f14)) {f15 : Addr} {fd15 : FuncData} (F15 : FunD K "_law_summed" "_law_summed" (L2.defArgs (top 22)) (L2.defBody (top 22)) (L2.defScope (top 22)) [] [] f15 fd15) (m15 : mg "_law_summed" = some (.ref f15)) {f16 : Addr} {fd16 : FuncData} (F16 : FunD K "_law_is_row" "_law_is_row" (L2.defArgs (top 23)) (L2.defBody (top 23)) (L2.defScope (top 23)) [] [] f16 fd16) (m16 : mg "_law_is_row" = some (.ref f16)) {f17 : Addr} {fd17 : FuncData} (F17 : FunD K "_law_factors" "_law_factors" (L2.defArgs (top 24)) (L2.defBody (top 24)) (L2.defScope (top 24)) [] [] f17 fd17) (m17 : mg "_law_factors" = some (.ref f17)) : Defs P w K mg base GG 58 sg18 := by
  have D1 : Defs P w K mg base GG 41 (("ratio", (["top", "bottom"], [])) :: sg0) := (Defs.nil : Defs P w K mg base GG 40 sg0).next (f := "ratio") gb (by decide) F0 sc0 cc0 (fun ds M R h => (ok_ratio) ds M R (by rw [g_ratio] at h; exact h)) m0 (fun _ _ _ _ _ _ us hl => match us, hl with | [_, _], _ => rfl) (kw_nil)
  have D2 : Defs P w K mg base GG 42 (("plus", (["one", "two"], [])) :: sg1) := (D1 : Defs P w K mg base GG 41 sg1).next (f := "plus") gb (by decide) F1 sc1 cc1 (fun ds M R h => (ok_plus g_ratio) ds M R (by rw [g_plus] at h; exact h)) m1 (fun _ _ _ _ _ _ us hl => match us, hl with | [_, _], _ => rfl) (kw_nil)
  have D3 : Defs P w K mg base GG 43 (("times", (["one", "two"], [])) :: sg2) := (D2 : Defs P w K mg base GG 42 sg2).next (f := "times") gb (by decide) F2 sc2 cc2 (fun ds M R h => (ok_times g_ratio) ds M R (by rw [g_times] at h; exact h)) m2 (fun _ _ _ _ _ _ us hl => match us, hl with | [_, _], _ => rfl) (kw_nil)
  have D4 : Defs P w K mg base GG 44 (("over", (["one", "two"], [])) :: sg3) := (D3 : Defs P w K mg base GG 43 sg3).next (f := "over") gb (by decide) F3 sc3 cc3 (fun ds M R h => (ok_over g_ratio) ds M R (by rw [g_over] at h; exact h)) m3 (fun _ _ _ _ _ _ us hl => match us, hl with | [_, _], _ => rfl) (kw_nil)
  have D5 : Defs P w K mg base GG 45 (("tie_shares", (["poly", "degree"], [(1, ["degree"])])) :: sg4) := (D4 : Defs P w K mg base GG 44 sg4).next (f := "tie_shares") gb (by decide) F4 sc4 cc4 (fun ds M R h => (ok_tie_shares g_plus g_times g_ratio g_over) ds M R (by rw [g_tie_shares] at h; exact h)) m4 (fun _ _ _ _ _ _ us hl => match us, hl with | [_, _], _ => rfl) (by refine kw_cons (n0 := 1) (ks0 := ["degree"]) (is0 := [0, 1]) (by kernel_rfl) ?_ (kw_nil); intro _ _ _ _ _ _ us ws l1 l2; exact match us, l1, ws, l2 with | [_], _, [_], _ => rfl)
  have D6 : Defs P w K mg base GG 46 (("raised", (["shares"], [])) :: sg5) := (D5 : Defs P w K mg base GG 45 sg5).next (f := "raised") gb (by decide) F5 sc5 cc5 (fun ds M R h => (ok_raised g_plus g_times g_ratio) ds M R (by rw [g_raised] at h; exact h)) m5 (fun _ _ _ _ _ _ us hl => match us, hl with | [_], _ => rfl) (kw_nil)
  have D7 : Defs P w K mg base GG 47 (("_law_whole", (["value"], [])) :: sg6) := (D6 : Defs P w K mg base GG 46 sg6).next (f := "_law_whole") gb (by decide) F6 sc6 cc6 (fun ds M R h => (ok__law_whole) ds M R (by rw [g__law_whole] at h; exact h)) m6 (fun _ _ _ _ _ _ us hl => match us, hl with | [_], _ => rfl) (kw_nil)
  have D8 : Defs P w K mg base GG 48 (("_law_cell", (["script", "k"], [])) :: sg7) := (D7 : Defs P w K mg base GG 47 sg7).next (f := "_law_cell") gb (by decide) F7 sc7 cc7 (fun ds M R h => (ok__law_cell) ds M R (by rw [g__law_cell] at h; exact h)) m7 (fun _ _ _ _ _ _ us hl => match us, hl with | [_, _], _ => rfl) (kw_nil)
  have D9 : Defs P w K mg base GG 49 (("_law_digits", (["cell", "sizes"], [])) :: sg8) := (D8 : Defs P w K mg base GG 48 sg8).next (f := "_law_digits") gb (by decide) F8 sc8 cc8 (fun ds M R h => (ok__law_digits) ds M R (by rw [g__law_digits] at h; exact h)) m8 (fun _ _ _ _ _ _ us hl => match us, hl with | [_, _], _ => rfl) (kw_nil)
  have D10 : Defs P w K mg base GG 50 (("_law_ratio", (["top", "bottom"], [])) :: sg9) := (D9 : Defs P w K mg base GG 49 sg9).next (f := "_law_ratio") gb (by decide) F9 sc9 cc9 (fun ds M R h => (ok__law_ratio) ds M R (by rw [g__law_ratio] at h; exact h)) m9 (fun _ _ _ _ _ _ us hl => match us, hl with | [_, _], _ => rfl) (kw_nil)
  have D11 : Defs P w K mg base GG 51 (("_law_is_ratio", (["value"], [])) :: sg10) := (D10 : Defs P w K mg base GG 50 sg10).next (f := "_law_is_ratio") gb (by decide) F10 sc10 cc10 (fun ds M R h => (ok__law_is_ratio g__law_whole g__law_ratio) ds M R (by rw [g__law_is_ratio] at h; exact h)) m10 (fun _ _ _ _ _ _ us hl => match us, hl with | [_], _ => rfl) (kw_nil)
  have D12 : Defs P w K mg base GG 52 (("_law_trim", (["coefficients"], [])) :: sg11) := (D11 : Defs P w K mg base GG 51 sg11).next (f := "_law_trim") gb (by decide) F11 sc11 cc11 (fun ds M R h => (ok__law_trim) ds M R (by rw [g__law_trim] at h; exact h)) m11 (fun _ _ _ _ _ _ us hl => match us, hl with | [_], _ => rfl) (kw_nil)
  have D13 : Defs P w K mg base GG 53 (("_law_pascal", (["size"], [])) :: sg12) := (D12 : Defs P w K mg base GG 52 sg12).next (f := "_law_pascal") gb (by decide) F12 sc12 cc12 (fun ds M R h => (ok__law_pascal) ds M R (by rw [g__law_pascal] at h; exact h)) m12 (fun _ _ _ _ _ _ us hl => match us, hl with | [_], _ => rfl) (kw_nil)
  have D14 : Defs P w K mg base GG 54 (("_law_fraction", (["top", "bottom", "big"], [])) :: sg13) := (D13 : Defs P w K mg base GG 53 sg13).next (f := "_law_fraction") gb (by decide) F13 sc13 cc13 (fun ds M R h => (ok__law_fraction g__law_ratio) ds M R (by rw [g__law_fraction] at h; exact h)) m13 (fun _ _ _ _ _ _ us hl => match us, hl with | [_, _, _], _ => rfl) (kw_nil)
  have D15 : Defs P w K mg base GG 55 (("_law_question", (["cell", "more"], [])) :: sg14) := (D14 : Defs P w K mg base GG 54 sg14).next (f := "_law_question") gb (by decide) F14 sc14 cc14 (fun ds M R h => (ok__law_question g__law_digits g__law_fraction g__law_trim) ds M R (by rw [g__law_question] at h; exact h)) m14 (fun _ _ _ _ _ _ us hl => match us, hl with | [_, _], _ => rfl) (kw_nil)
  have D16 : Defs P w K mg base GG 56 (("_law_summed", (["rows", "items"], [])) :: sg15) := (D15 : Defs P w K mg base GG 55 sg15).next (f := "_law_summed") gb (by decide) F15 sc15 cc15 (fun ds M R h => (ok__law_summed g__law_ratio g__law_trim) ds M R (by rw [g__law_summed] at h; exact h)) m15 (fun _ _ _ _ _ _ us hl => match us, hl with | [_, _], _ => rfl) (kw_nil)
  have D17 : Defs P w K mg base GG 57 (("_law_is_row", (["told", "size"], [])) :: sg16) := (D16 : Defs P w K mg base GG 56 sg16).next (f := "_law_is_row") gb (by decide) F16 sc16 cc16 (fun ds M R h => (ok__law_is_row g__law_is_ratio) ds M R (by rw [g__law_is_row] at h; exact h)) m16 (fun _ _ _ _ _ _ us hl => match us, hl with | [_, _], _ => rfl) (kw_nil)
  have D18 : Defs P w K mg base GG 58 (("_law_factors", (["rows", "poly", "number"], [])) :: sg17) := (D17 : Defs P w K mg base GG 57 sg17).next (f := "_law_factors") gb (by decide) F17 sc17 cc17 (fun ds M R h => (ok__law_factors g__law_ratio) ds M R (by rw [g__law_factors] at h; exact h)) m17 (fun _ _ _ _ _ _ us hl => match us, hl with | [_, _, _], _ => rfl) (kw_nil)
  exact D18
end
theorem fin {w : World} {mg : Str → Option Value} {fa' : Addr} {h : Heap} {K : PySem.W.Frag} (KX : K.In h) (G : h.Ns mainGlobals mg) (hmg : mg ("law" : Str) = some (.ref fa')) (c0 : He.obsD fa fn K = He.valD fn) (cb : Pd.bxB bx K = true) :
    ∃ (K : PySem.W.Frag) (fd : FuncData) (sp : DSp), K.In h ∧ (∀ (s : Shared) (u : Value), BindsTo s fd ⟨[u], []⟩ [("script", u)]) ∧
        (∀ (a : Addr) (ns : List Int), ns.length ≤ 63 → (∀ z ∈ ns, Builtin.Int.intBits z ≤ 1048576) → sp [.ref a] (scriptM a ns) fun d _ => d = .bl true) ∧
        ∀ (base : Heap) (K' : PySem.W.Frag), NoList K K' → K'.In base → base.Ns mainGlobals mg → base.NoSeer → FnG PySem.Challenge.pw_smoothbylot_k40_tie_shares w K' mg base 59 fa' fd ["script"] sp := by
  have c : He.SaysD fa fn K := c0
  obtain ⟨fd0, F0⟩ := c.def_ 0 (d := dOf "ratio" 5) rfl
  have m0 := He.glo_ok KX G (c.fact 0 (f := .glo "ratio") rfl)
  obtain ⟨fd1, F1⟩ := c.def_ 1 (d := dOf "plus" 6) rfl
  have m1 := He.glo_ok KX G (c.fact 1 (f := .glo "plus") rfl)
  obtain ⟨fd2, F2⟩ := c.def_ 2 (d := dOf "times" 7) rfl
  have m2 := He.glo_ok KX G (c.fact 2 (f := .glo "times") rfl)
  obtain ⟨fd3, F3⟩ := c.def_ 3 (d := dOf "over" 8) rfl
  have m3 := He.glo_ok KX G (c.fact 3 (f := .glo "over") rfl)
  obtain ⟨fd4, F4⟩ := c.def_ 4 (d := dOf "tie_shares" 10) rfl
  have m4 := He.glo_ok KX G (c.fact 4 (f := .glo "tie_shares") rfl)
  obtain ⟨fd5, F5⟩ := c.def_ 5 (d := dOf "raised" 11) rfl
  have m5 := He.glo_ok KX G (c.fact 5 (f := .glo "raised") rfl)
  obtain ⟨fd6, F6⟩ := c.def_ 6 (d := dOf "_law_whole" 13) rfl
  have m6 := He.glo_ok KX G (c.fact 6 (f := .glo "_law_whole") rfl)
  obtain ⟨fd7, F7⟩ := c.def_ 7 (d := dOf "_law_cell" 14) rfl
  have m7 := He.glo_ok KX G (c.fact 7 (f := .glo "_law_cell") rfl)
  obtain ⟨fd8, F8⟩ := c.def_ 8 (d := dOf "_law_digits" 15) rfl
  have m8 := He.glo_ok KX G (c.fact 8 (f := .glo "_law_digits") rfl)
  obtain ⟨fd9, F9⟩ := c.def_ 9 (d := dOf "_law_ratio" 16) rfl
  have m9 := He.glo_ok KX G (c.fact 9 (f := .glo "_law_ratio") rfl)
  obtain ⟨fd10, F10⟩ := c.def_ 10 (d := dOf "_law_is_ratio" 17) rfl
  have m10 := He.glo_ok KX G (c.fact 10 (f := .glo "_law_is_ratio") rfl)
  obtain ⟨fd11, F11⟩ := c.def_ 11 (d := dOf "_law_trim" 18) rfl
  have m11 := He.glo_ok KX G (c.fact 11 (f := .glo "_law_trim") rfl)
  obtain ⟨fd12, F12⟩ := c.def_ 12 (d := dOf "_law_pascal" 19) rfl
  have m12 := He.glo_ok KX G (c.fact 12 (f := .glo "_law_pascal") rfl)
  obtain ⟨fd13, F13⟩ := c.def_ 13 (d := dOf "_law_fraction" 20) rfl
  have m13 := He.glo_ok KX G (c.fact 13 (f := .glo "_law_fraction") rfl)
  obtain ⟨fd14, F14⟩ := c.def_ 14 (d := dOf "_law_question" 21) rfl
  have m14 := He.glo_ok KX G (c.fact 14 (f := .glo "_law_question") rfl)
  obtain ⟨fd15, F15⟩ := c.def_ 15 (d := dOf "_law_summed" 22) rfl
  have m15 := He.glo_ok KX G (c.fact 15 (f := .glo "_law_summed") rfl)
  obtain ⟨fd16, F16⟩ := c.def_ 16 (d := dOf "_law_is_row" 23) rfl
  have m16 := He.glo_ok KX G (c.fact 16 (f := .glo "_law_is_row") rfl)
  obtain ⟨fd17, F17⟩ := c.def_ 17 (d := dOf "_law_factors" 24) rfl
  have m17 := He.glo_ok KX G (c.fact 17 (f := .glo "_law_factors") rfl)
  obtain ⟨fd18, F18⟩ := c.def_ 18 (d := dOf "law" 25) rfl
  have m18 := He.glo_ok KX G (c.fact 18 (f := .glo "law") rfl)
  have em := hmg.symm.trans m18
  cases em
  have fr := Pd.free_all KX G c (fun x hx => by simp only [freeNames, List.mem_cons, List.not_mem_nil, or_false] at hx; rcases hx with rfl | rfl | rfl | rfl | rfl | rfl | rfl | rfl | rfl | rfl | rfl | rfl | rfl | rfl | rfl | rfl | rfl | rfl | rfl | rfl | rfl <;> simp [fa])
  have b_comb : mg ("comb" : PySem.Str) = some (.builtin "math.comb") := Pd.bx_ok KX G cb (by simp [bx])
  have b_gcd : mg ("gcd" : PySem.Str) = some (.builtin "math.gcd") := Pd.bx_ok KX G cb (by simp [bx])
  refine ⟨K, fd18, Pd.sp_law, KX, fun s v => L2.FunD.bindsA (ps := ["script"]) F18 (fun _ _ _ _ _ _ us hl => match us, hl with | [_], _ => rfl) s [v] rfl, Pd.run_law, fun base K' nl KX' ns seer => ?_⟩
  have gb : Pd.Gb PySem.Challenge.pw_smoothbylot_k40_tie_shares mg base mth := ⟨seer, rfl, fr, fun x hx i e => by
    simp only [mth, List.mem_cons, List.not_mem_nil, or_false] at hx
    rcases hx with rfl | rfl
    · subst e; exact b_comb
    · subst e; exact b_gcd⟩
  exact Pd.fnG_funD (Pd.funD_out nl F18) gb (table KX' gb (Pd.funD_out nl F0) m0 (Pd.funD_out nl F1) m1 (Pd.funD_out nl F2) m2 (Pd.funD_out nl F3) m3 (Pd.funD_out nl F4) m4 (Pd.funD_out nl F5) m5 (Pd.funD_out nl F6) m6 (Pd.funD_out nl F7) m7 (Pd.funD_out nl F8) m8 (Pd.funD_out nl F9) m9 (Pd.funD_out nl F10) m10 (Pd.funD_out nl F11) m11 (Pd.funD_out nl F12) m12 (Pd.funD_out nl F13) m13 (Pd.funD_out nl F14) m14 (Pd.funD_out nl F15) m15 (Pd.funD_out nl F16) m16 (Pd.funD_out nl F17) m17) (by decide) sc18 cc18 (Pd.ok_law Law.g__law_pascal Law.g__law_question Law.g__law_cell Law.g_tie_shares Law.g__law_is_row Law.g__law_summed Law.g__law_digits Law.g__law_fraction Law.g__law_trim Law.g__law_factors Law.g_raised)
end Law
open PySem PySem.W PySem.Calls PyProof.Rows
theorem PySem.Challenge.cw_smoothbylot_k40_tie_shares_holds : PySem.Challenge.rw_smoothbylot_k40_tie_shares.Holds := by
  w_on; o_law; k_head; (case hw => w_witness2)
  k_fill
  refine Pd.walk_ofG (l := PySem.Challenge.rw_smoothbylot_k40_tie_shares) (n := 63) (k := 59) (x := "script") rfl (by decide) rfl ⟨rfl, by decide, by decide⟩ (by decide +kernel) ?F
  intro w mg fa h Y G hmg
  exact Law.fin (PySem.W.kIn_of Y) G hmg (by kernel_rfl) (by kernel_rfl)
