import PyProof.Rows.All
import Wide.All
import OpenK.AllK
import Wide.FinOn
import HandS.ForMost
import HandS.IsInst
import HandS.Zip
import HandS.Wide
import HandS.Defaults
import HandS.OwnEq
import HandS.EndBits
import HandS.Flow
import HandS.Style
import HandS.MakeKw
import HandS.MakeKwOnly
import HandS.Property
import HandS.ForExc
import HandS.TupAny
import HandS.More
import PySem.Challenge.RW_gustfloor_k10_names_points_and_winds
set_option Elab.async false
set_option linter.all false
set_option maxRecDepth 100000
set_option maxHeartbeats 2000000
namespace DL
open PySem PySem.Spec PyProof.Rows L2

/-- data as trees; cel a: the changing object at a -/
inductive D where
  | non | bl (b : Bool) | int (i : Int) | str (x : Str) | lst (ds : List D) | tup (ds : List D) | obj (C : Addr) (fs : List (Str × D)) | cel (a : Addr) | scr (ns : List Int)

mutual
inductive Rep (K : PySem.W.Frag) (G : Hp) : V → D → Prop where
  | non : Rep K G .non .non
  | bl {b : Bool} : Rep K G (.bl b) (.bl b)
  | int {i : Int} : Rep K G (.int i) (.int i)
  | str {x : Str} : Rep K G (.str x) (.str x)
  | lst {a : Addr} {vs : List V} {ds : List D} (h : G a = some (.lst vs)) (r : Reps K G vs ds) : Rep K G (.ref a) (.lst ds)
  | tup {a : Addr} {vs : List V} {ds : List D} (h : G a = some (.tup vs)) (r : Reps K G vs ds) : Rep K G (.ref a) (.tup ds)
  | obj {a C dx : Addr} {fvs : List (Str × V)} {fs : List (Str × D)} (h : G a = some (.ins C dx fvs)) (r : FRep K G fvs fs) : Rep K G (.ref a) (.obj C fs)
  | cel {a : Addr} : Rep K G (.ref a) (.cel a)
  | scr {a : Addr} {ns : List Int} (h : SqL K G a (ns.map V.int)) : Rep K G (.ref a) (.scr ns)
inductive Reps (K : PySem.W.Frag) (G : Hp) : List V → List D → Prop where
  | nil : Reps K G [] []
  | cons {v : V} {d : D} {vs : List V} {ds : List D} (h : Rep K G v d) (r : Reps K G vs ds) : Reps K G (v :: vs) (d :: ds)
inductive FRep (K : PySem.W.Frag) (G : Hp) : List (Str × V) → List (Str × D) → Prop where
  | nil : FRep K G [] []
  | cons {f : Str} {v : V} {d : D} {vs : List (Str × V)} {ds : List (Str × D)} (h : Rep K G v d) (r : FRep K G vs ds) : FRep K G ((f, v) :: vs) ((f, d) :: ds)
end

theorem Same.seqL {K : PySem.W.Frag} {H H' : Hp} {a : Addr} {xs : List V} (e : Same H H') (h : SqL K H a xs) : SqL K H' a xs := by
  rcases h with (h | ⟨o, h⟩) | h
  · exact .inl (.inl (e _ _ h))
  · exact .inl (.inr ⟨o, e _ _ h⟩)
  · exact .inr h
theorem Same.seqT {K : PySem.W.Frag} {H H' : Hp} {a : Addr} {xs : List V} (e : Same H H') (h : SqT K H a xs) : SqT K H' a xs := by
  rcases h with (h | ⟨o, h⟩) | h
  · exact .inl (.inl (e _ _ h))
  · exact .inl (.inr ⟨o, e _ _ h⟩)
  · exact .inr h
section
variable {K : PySem.W.Frag} {G G' : Hp}
mutual
theorem Rep.same (s : Same G G') : ∀ {v : V} {d : D}, Rep K G v d → Rep K G' v d
  | _, _, .non => .non
  | _, _, .bl => .bl
  | _, _, .int => .int
  | _, _, .str => .str
  | _, _, .lst h r => .lst (s _ _ h) (Reps.same s r)
  | _, _, .tup h r => .tup (s _ _ h) (Reps.same s r)
  | _, _, .obj h r => .obj (s _ _ h) (FRep.same s r)
  | _, _, .cel => .cel
  | _, _, .scr h => .scr (Same.seqL s h)
theorem Reps.same (s : Same G G') : ∀ {v : List V} {d : List D}, Reps K G v d → Reps K G' v d
  | _, _, .nil => .nil
  | _, _, .cons h r => .cons (Rep.same s h) (Reps.same s r)
theorem FRep.same (s : Same G G') : ∀ {v : List (Str × V)} {d : List (Str × D)}, FRep K G v d → FRep K G' v d
  | _, _, .nil => .nil
  | _, _, .cons h r => .cons (Rep.same s h) (FRep.same s r)
end
theorem Reps.length : ∀ {vs : List V} {ds : List D}, Reps K G vs ds → vs.length = ds.length
  | _, _, .nil => rfl
  | _, _, .cons _ r => by rw [List.length_cons, List.length_cons, Reps.length r]
theorem Reps.get : ∀ {vs : List V} {ds : List D} {i : Nat} {d : D}, Reps K G vs ds → ds[i]? = some d → ∃ v, vs[i]? = some v ∧ Rep K G v d
  | _, _, _, _, .nil, e => by simp at e
  | _, _, 0, _, .cons h _, e => by simp at e; subst e; exact ⟨_, rfl, h⟩
  | _, _, i + 1, d, .cons _ r, e => by
    obtain ⟨v, h1, h2⟩ := Reps.get (i := i) (d := d) r (by simpa using e)
    exact ⟨v, by simpa using h1, h2⟩
theorem Reps.getV : ∀ {vs : List V} {ds : List D} {i : Nat} {v : V}, Reps K G vs ds → vs[i]? = some v → ∃ d, ds[i]? = some d ∧ Rep K G v d
  | _, _, _, _, .nil, e => by simp at e
  | _, _, 0, _, .cons h _, e => by simp at e; subst e; exact ⟨_, rfl, h⟩
  | _, _, i + 1, d, .cons _ r, e => by
    obtain ⟨v, h1, h2⟩ := Reps.getV (i := i) (v := d) r (by simpa using e)
    exact ⟨v, by simpa using h1, h2⟩
theorem Reps.append : ∀ {xs ys : List V} {ds es : List D}, Reps K G xs ds → Reps K G ys es → Reps K G (xs ++ ys) (ds ++ es)
  | _, _, _, _, .nil, s => s
  | _, _, _, _, .cons r t, s => .cons r (Reps.append t s)
theorem Reps.take : ∀ {xs : List V} {ds : List D} (n : Nat), Reps K G xs ds → Reps K G (xs.take n) (ds.take n)
  | _, _, 0, _ => .nil
  | _, _, _ + 1, .nil => .nil
  | _, _, n + 1, .cons r t => .cons r (Reps.take n t)
theorem Reps.drop : ∀ {xs : List V} {ds : List D} (n : Nat), Reps K G xs ds → Reps K G (xs.drop n) (ds.drop n)
  | _, _, 0, r => r
  | _, _, _ + 1, .nil => .nil
  | _, _, n + 1, .cons _ t => Reps.drop n t
theorem Reps.set {x : V} {u : D} (r : Rep K G x u) : ∀ {xs : List V} {us : List D} (i : Nat), Reps K G xs us → Reps K G (xs.set i x) (us.set i u)
  | _, _, _, .nil => .nil
  | _, _, 0, .cons _ t => .cons r t
  | _, _, i + 1, .cons q t => .cons q (Reps.set r i t)
theorem Reps.ints : ∀ (ns : List Int), Reps K G (ns.map V.int) (ns.map D.int)
  | [] => .nil
  | _ :: r => .cons .int (Reps.ints r)
theorem FRep.get : ∀ {vs : List (Str × V)} {ds : List (Str × D)} {f : Str} {d : D}, FRep K G vs ds → ds.lookup f = some d → ∃ v, vs.lookup f = some v ∧ Rep K G v d
  | _, _, _, _, .nil, e => by simp at e
  | _, _, f, d, .cons (f := g) (v := v) h r, e => by
    rw [List.lookup_cons] at e ⊢
    cases hb : (f == g) with
    | true =>
      rw [hb] at e
      cases e
      exact ⟨v, rfl, h⟩
    | false =>
      rw [hb] at e
      exact FRep.get r e
theorem FRep.none : ∀ {vs : List (Str × V)} {ds : List (Str × D)} {f : Str}, FRep K G vs ds → ds.lookup f = none → vs.lookup f = none
  | _, _, _, .nil, e => by simp
  | _, _, f, .cons (f := g) (v := v) h r, e => by
    rw [List.lookup_cons] at e ⊢
    cases hb : (f == g) with
    | true =>
      rw [hb] at e
      cases e
    | false =>
      rw [hb] at e
      exact FRep.none r e
theorem FRep.length : ∀ {vs : List (Str × V)} {ds : List (Str × D)}, FRep K G vs ds → vs.length = ds.length
  | _, _, .nil => rfl
  | _, _, .cons _ r => by rw [List.length_cons, List.length_cons, FRep.length r]
def putD (f : Str) (v : D) : List (Str × D) → List (Str × D)
  | [] => [(f, v)]
  | (g, u) :: r => if g = f then (f, v) :: r else (g, u) :: putD f v r
end

/-- what changes -/
inductive MO where
  | lst (ds : List D) | ins (C : Addr) (fs : List (Str × D))
abbrev Mm := Addr → Option MO
def mup (M : Mm) (a : Addr) (o : MO) : Mm := fun b => if b = a then some o else M b
theorem mup_same {M : Mm} {a : Addr} {o : MO} : mup M a o a = some o := by unfold mup; rw [if_pos rfl]
theorem mup_ne {M : Mm} {a b : Addr} {o : MO} (h : b ≠ a) : mup M a o b = M b := by unfold mup; rw [if_neg h]
theorem mup_mup {M : Mm} {a : Addr} {o u : MO} : mup (mup M a o) a u = mup M a u := by
  funext b; unfold mup; split <;> rfl
def mdel (M : Mm) (a : Addr) : Mm := fun b => if b = a then none else M b
theorem mdel_same {M : Mm} {a : Addr} : mdel M a a = none := by unfold mdel; rw [if_pos rfl]
theorem mdel_ne {M : Mm} {a b : Addr} (h : b ≠ a) : mdel M a b = M b := by unfold mdel; rw [if_neg h]
theorem mdel_mup {M : Mm} {a : Addr} {o : MO} (h : M a = none) : mdel (mup M a o) a = M := by
  funext b
  unfold mdel mup
  by_cases e : b = a
  · subst e; rw [if_pos rfl, h]
  · rw [if_neg e, if_neg e]
/-- a state: the tracked heap, the part of it that never changes, what changes; the rest is hidden -/
structure Sta where
  H : Hp
  G : Hp
  M : Mm
def MRep (K : PySem.W.Frag) (G : Hp) (o : Option HO) : MO → Prop
  | .lst ds => ∃ vs, o = some (.lst vs) ∧ Reps K G vs ds
  | .ins C fs => ∃ dx fvs, o = some (.ins C dx fvs) ∧ FRep K G fvs fs
structure Ok (K : PySem.W.Frag) (s : Sta) : Prop where
  sub : Same s.G s.H
  apart : ∀ a mo, s.M a = some mo → s.G a = none
  cells : ∀ a mo, s.M a = some mo → MRep K s.G (s.H a) mo
structure Step (s t : Sta) : Prop where
  same : Same s.G t.G
  dom : ∀ a, (s.M a).isSome = true → (t.M a).isSome = true
  hid : ∀ a o, s.H a = some o → s.G a = none → s.M a = none → t.H a = some o ∧ t.G a = none ∧ t.M a = none
theorem Step.refl (s : Sta) : Step s s := ⟨Same.refl _, fun _ h => h, fun _ _ h1 h2 h3 => ⟨h1, h2, h3⟩⟩
theorem Step.trans {s t u : Sta} (a : Step s t) (b : Step t u) : Step s u :=
  ⟨a.same.trans b.same, fun x h => b.dom x (a.dom x h), fun x o h1 h2 h3 => let ⟨g1, g2, g3⟩ := a.hid x o h1 h2 h3; b.hid x o g1 g2 g3⟩
theorem MRep.same {K : PySem.W.Frag} {G G' : Hp} {o : Option HO} {mo : MO} (s : Same G G') (h : MRep K G o mo) : MRep K G' o mo := by
  cases mo with
  | lst ds => obtain ⟨vs, e, r⟩ := h; exact ⟨vs, e, r.same s⟩
  | ins C fs => obtain ⟨dx, fvs, e, r⟩ := h; exact ⟨dx, fvs, e, r.same s⟩
theorem MRep.some {K : PySem.W.Frag} {G : Hp} {o : Option HO} {mo : MO} (h : MRep K G o mo) : ∃ u, o = Option.some u := by
  cases mo with
  | lst ds => obtain ⟨vs, e, r⟩ := h; exact ⟨_, e⟩
  | ins C fs => obtain ⟨dx, fvs, e, r⟩ := h; exact ⟨_, e⟩
theorem same_new {G : Hp} {p : Addr} {o : HO} (h : G p = none) : Same G (upd G p o) := fun b u e => by
  rw [upd_ne (ne_of_none e h)]
  exact e
section
variable {K : PySem.W.Frag} {s : Sta} {p : Addr} {o : HO} {mo : MO}
theorem Ok.freeM (k : Ok K s) (h : s.H p = none) : s.M p = none := by
  cases e : s.M p with
  | none => rfl
  | some mo =>
    obtain ⟨u, q⟩ := (k.cells p mo e).some
    rw [h] at q
    cases q
theorem Ok.freeG (k : Ok K s) (h : s.H p = none) : s.G p = none := k.sub.free h
/-- a new object that does not change -/
theorem Ok.new (k : Ok K s) (h : s.H p = none) : Ok K ⟨upd s.H p o, upd s.G p o, s.M⟩ ∧ Step s ⟨upd s.H p o, upd s.G p o, s.M⟩ := by
  have hm := k.freeM h
  have hg := k.freeG h
  refine ⟨⟨fun b u e => ?_, fun a mo e => ?_, fun a mo e => ?_⟩, ⟨same_new hg, fun _ x => x, fun a u h1 h2 h3 => ?_⟩⟩
  · have e' : upd s.G p o b = some u := e
    show upd s.H p o b = some u
    by_cases eb : b = p
    · subst eb
      rw [upd_same] at e' ⊢
      exact e'
    · rw [upd_ne eb] at e' ⊢
      exact k.sub b u e'
  · have ne : a ≠ p := fun z => by rw [z, hm] at e; cases e
    show upd s.G p o a = none
    rw [upd_ne ne]
    exact k.apart a mo e
  · have ne : a ≠ p := fun z => by rw [z, hm] at e; cases e
    show MRep K (upd s.G p o) (upd s.H p o a) mo
    rw [upd_ne ne]
    exact (k.cells a mo e).same (same_new hg)
  · have ne : a ≠ p := ne_of_none h1 h
    exact ⟨by show upd s.H p o a = _; rw [upd_ne ne]; exact h1, by show upd s.G p o a = _; rw [upd_ne ne]; exact h2, h3⟩
/-- a new object that changes -/
theorem Ok.newM (k : Ok K s) (h : s.H p = none) (r : MRep K s.G (some o) mo) : Ok K ⟨upd s.H p o, s.G, mup s.M p mo⟩ ∧ Step s ⟨upd s.H p o, s.G, mup s.M p mo⟩ := by
  have hm := k.freeM h
  have hg := k.freeG h
  refine ⟨⟨fun b u e => ?_, fun a mo' e => ?_, fun a mo' e => ?_⟩, ⟨Same.refl _, fun a x => ?_, fun a u h1 h2 h3 => ?_⟩⟩
  · have ne : b ≠ p := ne_of_none e hg
    show upd s.H p o b = _
    rw [upd_ne ne]
    exact k.sub b u e
  · by_cases ea : a = p
    · subst ea; exact hg
    · have e' : mup s.M p mo a = some mo' := e
      rw [mup_ne ea] at e'
      exact k.apart a mo' e'
  · have e' : mup s.M p mo a = some mo' := e
    show MRep K s.G (upd s.H p o a) mo'
    by_cases ea : a = p
    · subst ea
      rw [mup_same] at e'
      cases e'
      rw [upd_same]
      exact r
    · rw [mup_ne ea] at e'
      rw [upd_ne ea]
      exact k.cells a mo' e'
  · show (mup s.M p mo a).isSome = true
    by_cases ea : a = p
    · subst ea; rw [mup_same]; rfl
    · rw [mup_ne ea]; exact x
  · have ne : a ≠ p := ne_of_none h1 h
    exact ⟨by show upd s.H p o a = _; rw [upd_ne ne]; exact h1, h2, by show mup s.M p mo a = none; rw [mup_ne ne]; exact h3⟩
/-- a changing object is changed -/
theorem Ok.put (k : Ok K s) (h : (s.M p).isSome = true) (r : MRep K s.G (some o) mo) : Ok K ⟨upd s.H p o, s.G, mup s.M p mo⟩ ∧ Step s ⟨upd s.H p o, s.G, mup s.M p mo⟩ := by
  have hg : s.G p = none := by
    cases e : s.M p with
    | none => rw [e] at h; cases h
    | some m => exact k.apart p m e
  refine ⟨⟨fun b u e => ?_, fun a mo' e => ?_, fun a mo' e => ?_⟩, ⟨Same.refl _, fun a x => ?_, fun a u h1 h2 h3 => ?_⟩⟩
  · have ne : b ≠ p := ne_of_none e hg
    show upd s.H p o b = _
    rw [upd_ne ne]
    exact k.sub b u e
  · by_cases ea : a = p
    · subst ea; exact hg
    · have e' : mup s.M p mo a = some mo' := e
      rw [mup_ne ea] at e'
      exact k.apart a mo' e'
  · have e' : mup s.M p mo a = some mo' := e
    show MRep K s.G (upd s.H p o a) mo'
    by_cases ea : a = p
    · subst ea
      rw [mup_same] at e'
      cases e'
      rw [upd_same]
      exact r
    · rw [mup_ne ea] at e'
      rw [upd_ne ea]
      exact k.cells a mo' e'
  · show (mup s.M p mo a).isSome = true
    by_cases ea : a = p
    · subst ea; rw [mup_same]; rfl
    · rw [mup_ne ea]; exact x
  · have ne : a ≠ p := fun z => by rw [z] at h3; rw [h3] at h; cases h
    exact ⟨by show upd s.H p o a = _; rw [upd_ne ne]; exact h1, h2, by show mup s.M p mo a = none; rw [mup_ne ne]; exact h3⟩
/-- a changing object is kept as it is from now on; b: the state that is looked back to, which did not know it -/
theorem Ok.freeze {b : Sta} (k : Ok K s) (st : Step b s) (hb : b.H p = none) (hbm : b.M p = none) (hm : (s.M p).isSome = true) (ho : s.H p = some o) : Ok K ⟨s.H, upd s.G p o, mdel s.M p⟩ ∧ Step b ⟨s.H, upd s.G p o, mdel s.M p⟩ ∧ Same s.G (upd s.G p o) := by
  have hg : s.G p = none := by
    cases e : s.M p with
    | none => rw [e] at hm; cases hm
    | some m => exact k.apart p m e
  refine ⟨⟨fun c u e => ?_, fun a mo' e => ?_, fun a mo' e => ?_⟩, ⟨st.same.trans (same_new hg), fun a x => ?_, fun a u h1 h2 h3 => ?_⟩, same_new hg⟩
  · have e' : upd s.G p o c = some u := e
    by_cases ec : c = p
    · subst ec
      rw [upd_same] at e'
      cases e'
      exact ho
    · rw [upd_ne ec] at e'
      exact k.sub c u e'
  · have e' : mdel s.M p a = some mo' := e
    by_cases ea : a = p
    · subst ea; rw [mdel_same] at e'; cases e'
    · rw [mdel_ne ea] at e'
      show upd s.G p o a = none
      rw [upd_ne ea]
      exact k.apart a mo' e'
  · have e' : mdel s.M p a = some mo' := e
    by_cases ea : a = p
    · subst ea; rw [mdel_same] at e'; cases e'
    · rw [mdel_ne ea] at e'
      exact (k.cells a mo' e').same (same_new hg)
  · have ne : a ≠ p := fun z => by rw [z, hbm] at x; cases x
    show (mdel s.M p a).isSome = true
    rw [mdel_ne ne]
    exact st.dom a x
  · have ne : a ≠ p := ne_of_none h1 hb
    obtain ⟨g1, g2, g3⟩ := st.hid a u h1 h2 h3
    exact ⟨g1, by show upd s.G p o a = none; rw [upd_ne ne]; exact g2, by show mdel s.M p a = none; rw [mdel_ne ne]; exact g3⟩
/-- a hidden object is shown -/
theorem Ok.shown {b : Sta} (k : Ok K s) (st : Step b s) (hb : b.H p = none) (hg : s.G p = none) (hm : s.M p = none) (ho : s.H p = some o) : Ok K ⟨s.H, upd s.G p o, s.M⟩ ∧ Step b ⟨s.H, upd s.G p o, s.M⟩ ∧ Same s.G (upd s.G p o) := by
  refine ⟨⟨fun c u e => ?_, fun a mo' e => ?_, fun a mo' e => ?_⟩, ⟨st.same.trans (same_new hg), st.dom, fun a u h1 h2 h3 => ?_⟩, same_new hg⟩
  · have e' : upd s.G p o c = some u := e
    by_cases ec : c = p
    · subst ec
      rw [upd_same] at e'
      cases e'
      exact ho
    · rw [upd_ne ec] at e'
      exact k.sub c u e'
  · have ne : a ≠ p := fun z => by rw [z, hm] at e; cases e
    show upd s.G p o a = none
    rw [upd_ne ne]
    exact k.apart a mo' e
  · exact (k.cells a mo' e).same (same_new hg)
  · have ne : a ≠ p := ne_of_none h1 hb
    obtain ⟨g1, g2, g3⟩ := st.hid a u h1 h2 h3
    exact ⟨g1, by show upd s.G p o a = none; rw [upd_ne ne]; exact g2, g3⟩
/-- a hidden object is laid, or changed -/
theorem Ok.hide {b : Sta} (k : Ok K s) (st : Step b s) (hb : b.H p = none) (hg : s.G p = none) (hm : s.M p = none) : Ok K ⟨upd s.H p o, s.G, s.M⟩ ∧ Step b ⟨upd s.H p o, s.G, s.M⟩ := by
  refine ⟨⟨fun c u e => ?_, k.apart, fun a mo' e => ?_⟩, ⟨st.same, st.dom, fun a u h1 h2 h3 => ?_⟩⟩
  · have ne : c ≠ p := ne_of_none e hg
    show upd s.H p o c = _
    rw [upd_ne ne]
    exact k.sub c u e
  · have ne : a ≠ p := fun z => by rw [z, hm] at e; cases e
    show MRep K s.G (upd s.H p o a) mo'
    rw [upd_ne ne]
    exact k.cells a mo' e
  · have ne : a ≠ p := ne_of_none h1 hb
    obtain ⟨g1, g2, g3⟩ := st.hid a u h1 h2 h3
    exact ⟨by show upd s.H p o a = _; rw [upd_ne ne]; exact g1, g2, g3⟩
end

/-! ### readings over data -/
abbrev DEnv := List (Option D)
abbrev DK := D → Mm → Prop
abbrev DKA := List D → Mm → Prop
abbrev DX := Addr → List (Str × D) → Mm → Prop
abbrev DE := DEnv → Mm → DK → DX → Prop
abbrev DT := DEnv → Mm → (Bool → Mm → Prop) → DX → Prop
abbrev DA := DEnv → Mm → DKA → DX → Prop
structure DEnds where
  nx : DEnv → Mm → Prop
  rt : DK
  m0 : Mm
  bk : DEnv → Mm → Prop := fun _ _ => False
  ct : DEnv → Mm → Prop := fun _ _ => False
abbrev DS := DEnds → DX → DEnv → Mm → Prop

structure ER (K : PySem.W.Frag) (s : Sta) (σ : L2.St) (ρ : DEnv) : Prop where
  ok : Ok K s
  len : σ.length = ρ.length
  at_ : ∀ (i : Nat) (d : D), ρ[i]? = some (some d) → ∃ v, σ[i]? = some (some v) ∧ Rep K s.G v d
section
variable {K : PySem.W.Frag} {s t : Sta} {σ : L2.St} {ρ ρ' : DEnv}
theorem ER.step (e : ER K s σ ρ) (st : Step s t) (k : Ok K t) : ER K t σ ρ := ⟨k, e.len, fun i d h => let ⟨v, h1, h2⟩ := e.at_ i d h; ⟨v, h1, h2.same st.same⟩⟩
theorem ER.set (e : ER K s σ ρ) (i : Nat) {v : V} {d : D} (r : Rep K s.G v d) : ER K s (σ.set i (some v)) (ρ.set i (some d)) := by
  refine ⟨e.ok, by rw [List.length_set, List.length_set]; exact e.len, fun j d' h => ?_⟩
  by_cases hj : j = i
  · subst hj
    by_cases hl : j < ρ.length
    · rw [List.getElem?_set_self hl] at h
      cases h
      exact ⟨v, List.getElem?_set_self (by rw [e.len]; exact hl), r⟩
    · rw [List.getElem?_eq_none (by rw [List.length_set]; omega)] at h
      cases h
  · rw [List.getElem?_set_ne (Ne.symm hj)] at h
    rw [List.getElem?_set_ne (Ne.symm hj)]
    exact e.at_ j d' h
theorem ER.unset (e : ER K s σ ρ) (i : Nat) : ER K s (σ.set i none) (ρ.set i none) := by
  refine ⟨e.ok, by rw [List.length_set, List.length_set]; exact e.len, fun j d' h => ?_⟩
  by_cases hj : j = i
  · subst hj
    by_cases hl : j < ρ.length
    · rw [List.getElem?_set_self hl] at h
      cases h
    · rw [List.getElem?_eq_none (by rw [List.length_set]; omega)] at h
      cases h
  · rw [List.getElem?_set_ne (Ne.symm hj)] at h
    rw [List.getElem?_set_ne (Ne.symm hj)]
    exact e.at_ j d' h
end

def Post (K : PySem.W.Frag) (s : Sta) (k : DK) (Q : VK) : Prop := ∀ (d : D) (t : Sta), k d t.M → Step s t → Ok K t → ∀ v, Rep K t.G v d → Q v t.H
def PostT (K : PySem.W.Frag) (s : Sta) (k : Bool → Mm → Prop) (Q : Bool → Hp → Prop) : Prop := ∀ (b : Bool) (t : Sta), k b t.M → Step s t → Ok K t → Q b t.H
def PostA (K : PySem.W.Frag) (s : Sta) (k : DKA) (Q : List V → Hp → Prop) : Prop := ∀ (ds : List D) (t : Sta), k ds t.M → Step s t → Ok K t → ∀ vs, Reps K t.G vs ds → Q vs t.H
def PostN (K : PySem.W.Frag) (s : Sta) (k : DEnv → Mm → Prop) (Q : L2.St → Hp → Prop) : Prop := ∀ (ρ : DEnv) (t : Sta), k ρ t.M → Step s t → ∀ σ, ER K t σ ρ → Q σ t.H
def PostX (K : PySem.W.Frag) (E : XK) (s : Sta) (x : DX) : Prop := ∀ (C : Addr) (fs : List (Str × D)) (t : Sta), x C fs t.M → Step s t → Ok K t → ∀ dx fvs, t.H dx = some (.xd fvs) → t.G dx = none → t.M dx = none → FRep K t.G fvs fs → E (.ref C) (some dx) t.H
section
variable {K : PySem.W.Frag} {s t : Sta} {E : XK}
theorem Post.step {k : DK} {Q : VK} (p : Post K s k Q) (st : Step s t) : Post K t k Q := fun d u h s' r v e => p d u h (st.trans s') r v e
theorem PostT.step {k : Bool → Mm → Prop} {Q : Bool → Hp → Prop} (p : PostT K s k Q) (st : Step s t) : PostT K t k Q := fun d u h s' r => p d u h (st.trans s') r
theorem PostA.step {k : DKA} {Q : List V → Hp → Prop} (p : PostA K s k Q) (st : Step s t) : PostA K t k Q := fun d u h s' r v e => p d u h (st.trans s') r v e
theorem PostN.step {k : DEnv → Mm → Prop} {Q : L2.St → Hp → Prop} (p : PostN K s k Q) (st : Step s t) : PostN K t k Q := fun d u h s' v e => p d u h (st.trans s') v e
theorem PostX.step {x : DX} (p : PostX K E s x) (st : Step s t) : PostX K E t x := fun C fs u h s' k dx fvs h1 h2 h3 h4 => p C fs u h (st.trans s') k dx fvs h1 h2 h3 h4
theorem PostX.never : PostX K E s (fun _ _ _ => False) := fun _ _ _ h => h.elim
theorem Post.now {k : DK} {Q : VK} (p : Post K s k Q) {d : D} {v : V} (h : k d s.M) (o : Ok K s) (r : Rep K s.G v d) : Q v s.H := p d s h (Step.refl s) o v r
end

def up (K : PySem.W.Frag) (E : XK) (τ : DE) : TE := fun σ H Q => ∃ ρ s k x, s.H = H ∧ ER K s σ ρ ∧ τ ρ s.M k x ∧ Post K s k Q ∧ PostX K E s x
def upT (K : PySem.W.Frag) (E : XK) (τ : DT) : TT := fun σ H Q => ∃ ρ s k x, s.H = H ∧ ER K s σ ρ ∧ τ ρ s.M k x ∧ PostT K s k Q ∧ PostX K E s x
def upA (K : PySem.W.Frag) (E : XK) (τ : DA) : TA := fun σ H Q => ∃ ρ s k x, s.H = H ∧ ER K s σ ρ ∧ τ ρ s.M k x ∧ PostA K s k Q ∧ PostX K E s x
structure EndsR (K : PySem.W.Frag) (s : Sta) (k : DEnds) (D : Ends) : Prop where
  nx : PostN K s k.nx D.nx
  rt : ∃ b, Step b s ∧ Ok K b ∧ b.M = k.m0 ∧ Post K b k.rt D.rt
  bk : PostN K s k.bk D.bk
  ct : PostN K s k.ct D.ct
theorem EndsR.step {K : PySem.W.Frag} {s t : Sta} {k : DEnds} {D : Ends} (p : EndsR K s k D) (st : Step s t) : EndsR K t k D :=
  ⟨p.nx.step st, let ⟨b, s1, o, m, q⟩ := p.rt; ⟨b, s1.trans st, o, m, q⟩, p.bk.step st, p.ct.step st⟩
def upS (K : PySem.W.Frag) (E : XK) (τ : DS) : TS := fun D σ H => ∃ ρ s k x, s.H = H ∧ ER K s σ ρ ∧ τ k x ρ s.M ∧ EndsR K s k D ∧ PostX K E s x

def DP (X : Cx) (E : XK) (e : Expr) (τ : DE) : Prop := PE X e (up X.K E τ)
def DPT (X : Cx) (E : XK) (e : Expr) (τ : DT) : Prop := PT X e (upT X.K E τ)
def DPW (X : Cx) (E : XK) (e : Expr) (τ : DT) : Prop := PW X e (upT X.K E τ)
def DPA (X : Cx) (E : XK) (es : List Expr) (τ : DA) : Prop := PA X es (upA X.K E τ)
def DPS (X : Cx) (E : XK) (st : Stmt) (τ : DS) : Prop := PS X st (upS X.K E τ)
def DPB (X : Cx) (E : XK) (st : List Stmt) (τ : DS) : Prop := PSs X st (upS X.K E τ)

section
variable {X : Cx} {E : XK} {e a b c : Expr} {pos : Pos}
theorem pe_mono {t t' : TE} (h : PE X e t) (m : ∀ σ H Q, t' σ H Q → t σ H Q) : PE X e t' := ⟨fun pins s σ H Q I q => h.run pins s σ H Q I (m σ H Q q)⟩
theorem pt_mono {t t' : TT} (h : PT X e t) (m : ∀ σ H Q, t' σ H Q → t σ H Q) : PT X e t' := ⟨fun pins s σ H Q I q => h.run pins s σ H Q I (m σ H Q q)⟩
theorem pw_mono {t t' : TT} (h : PW X e t) (m : ∀ σ H Q, t' σ H Q → t σ H Q) : PW X e t' := ⟨fun wh pins s σ H Q I q => h.run wh pins s σ H Q I (m σ H Q q)⟩
theorem pa_mono {es : List Expr} {t t' : TA} (h : PA X es t) (m : ∀ σ H Q, t' σ H Q → t σ H Q) : PA X es t' := ⟨fun p pins s σ H Q I q => h.run p pins s σ H Q I (m σ H Q q)⟩
theorem ps_mono {st : Stmt} {t t' : TS} (h : PS X st t) (m : ∀ D σ H, t' D σ H → t D σ H) : PS X st t' := ⟨fun pins s σ H D I q => h.run pins s σ H D I (m D σ H q)⟩
theorem pss_mono {st : List Stmt} {t t' : TS} (h : PSs X st t) (m : ∀ D σ H, t' D σ H → t D σ H) : PSs X st t' := ⟨fun pins s σ H D I q => h.run pins s σ H D I (m D σ H q)⟩

/-! ### names and constants -/
def dVar (i : Nat) : DE := fun ρ M k _ => ∃ d, ρ[i]? = some (some d) ∧ k d M
def dC (d : D) : DE := fun _ M k _ => k d M
theorem up_var {K : PySem.W.Frag} {i : Nat} {σ : L2.St} {H : Hp} {Q : VK} (h : up K E (dVar i) σ H Q) : tVar i σ H Q := by
  obtain ⟨ρ, s, k, x, rfl, er, ⟨d, e1, q⟩, p, _⟩ := h
  obtain ⟨v, e2, r⟩ := er.at_ i d e1
  exact ⟨v, e2, p.now q er.ok r⟩
theorem dv (i : Nat) {x : Str} (hN : X.N[i]? = some x := by rfl) (hv : Vis X.env.scope x := by first | exact Or.inl rfl | exact Or.inr (Or.inl rfl) | exact Or.inr (Or.inr rfl)) (hd : (x == ("__debug__" : Str)) = false := by decide)
    (hcd : (x == ("__classdict__" : Str)) = false := by decide) : DP X E (.Name x pos) (dVar i) := pe_mono (pe_var hN hv hd hcd) fun _ _ _ h => up_var h
theorem up_c {K : PySem.W.Frag} {d : D} {v : V} {σ : L2.St} {H : Hp} {Q : VK} (r : ∀ G, Rep K G v d) (h : up K E (dC d) σ H Q) : tC v σ H Q := by
  obtain ⟨ρ, s, k, x, rfl, er, q, p, _⟩ := h
  exact p.now q er.ok (r _)
theorem d_int {i j} : DP X E (.Constant (.int i) j pos) (dC (.int i)) := pe_mono pe_int fun _ _ _ h => up_c (fun _ => .int) h
theorem d_bl {b j} : DP X E (.Constant (.bool b) j pos) (dC (.bl b)) := pe_mono pe_bl fun _ _ _ h => up_c (fun _ => .bl) h
theorem d_non {j} : DP X E (.Constant .none j pos) (dC .non) := pe_mono pe_non fun _ _ _ h => up_c (fun _ => .non) h
theorem d_str {x j} : DP X E (.Constant (.str x) j pos) (dC (.str x)) := pe_mono pe_str fun _ _ _ h => up_c (fun _ => .str) h
/-- a module's constant -/
inductive KC : D → Value → Prop where
  | int {i t} : KC (.int i) (.int i t)
  | str {x t} : KC (.str x) (.str x t)
theorem d_glob {x : Str} {d : D} {u : Value} (hg : Gl X x) (hm : X.mg x = some u) (r : KC d u) (hd : (x == ("__debug__" : Str)) = false := by decide) : DP X E (.Name x pos) (dC d) := by
  cases r with
  | int => exact pe_mono (pe_glob (v := .int _) hg hm ⟨_, rfl⟩ hd) fun _ _ _ h => up_c (fun _ => .int) h
  | str => exact pe_mono (pe_glob (v := .str _) hg hm ⟨_, rfl⟩ hd) fun _ _ _ h => up_c (fun _ => .str) h

/-! ### operators -/
abbrev D2 := D → D → Mm → DK → DX → Prop
abbrev D1 := D → Mm → DK → DX → Prop
abbrev DN := List D → Mm → DK → DX → Prop
def r2 (K : PySem.W.Frag) (E : XK) (f : D2) : R2 := fun x y H Q => ∃ s dx dy k xx, s.H = H ∧ Ok K s ∧ Rep K s.G x dx ∧ Rep K s.G y dy ∧ f dx dy s.M k xx ∧ Post K s k Q ∧ PostX K E s xx
def r1 (K : PySem.W.Frag) (E : XK) (f : D1) : V → Hp → VK → Prop := fun x H Q => ∃ s dx k xx, s.H = H ∧ Ok K s ∧ Rep K s.G x dx ∧ f dx s.M k xx ∧ Post K s k Q ∧ PostX K E s xx
def rA (K : PySem.W.Frag) (E : XK) (f : DN) : List V → Hp → VK → Prop := fun xs H Q => ∃ s ds k xx, s.H = H ∧ Ok K s ∧ Reps K s.G xs ds ∧ f ds s.M k xx ∧ Post K s k Q ∧ PostX K E s xx
def dOp (f : D2) (τa τb : DE) : DE := fun ρ M k x => τa ρ M (fun u M1 => τb ρ M1 (fun v M2 => f u v M2 k x) x) x
def dUn (f : D1) (τa : DE) : DE := fun ρ M k x => τa ρ M (fun u M1 => f u M1 k x) x
theorem up_op {K : PySem.W.Frag} {f : D2} {τa τb : DE} {σ : L2.St} {H : Hp} {Q : VK} (h : up K E (dOp f τa τb) σ H Q) : tOp (r2 K E f) (up K E τa) (up K E τb) σ H Q := by
  obtain ⟨ρ, s, k, x, rfl, er, q, p, px⟩ := h
  refine ⟨ρ, s, _, x, rfl, er, q, fun u s1 q1 st1 ok1 v1 r1 => ?_, px⟩
  refine ⟨ρ, s1, _, x, rfl, er.step st1 ok1, q1, fun w s2 q2 st2 ok2 v2 r2 => ?_, px.step st1⟩
  exact ⟨s2, u, w, k, x, rfl, ok2, r1.same st2.same, r2, q2, p.step (st1.trans st2), px.step (st1.trans st2)⟩
theorem up_un {K : PySem.W.Frag} {f : D1} {τa : DE} {σ : L2.St} {H : Hp} {Q : VK} (h : up K E (dUn f τa) σ H Q) : tUn (r1 K E f) (up K E τa) σ H Q := by
  obtain ⟨ρ, s, k, x, rfl, er, q, p, px⟩ := h
  exact ⟨ρ, s, _, x, rfl, er, q, fun u s1 q1 st1 ok1 v1 r1 => ⟨s1, u, k, x, rfl, ok1, r1, q1, p.step st1, px.step st1⟩, px⟩
variable {τa τb τc : DE}
theorem d_op {op : Operator} {f : D2} (ho : OpR X (binaryOp op) (r2 X.K E f)) (ha : DP X E a τa) (hb : DP X E b τb) : DP X E (.BinOp a op b pos) (dOp f τa τb) := pe_mono (pe_op ho ha hb) fun _ _ _ h => up_op h
theorem d_un {op : UnaryOp} {f : D1} (ho : UnR X (unaryOp op) (r1 X.K E f)) (ha : DP X E a τa) : DP X E (.UnaryOp op a pos) (dUn f τa) := pe_mono (pe_un ho ha) fun _ _ _ h => up_un h
theorem d_cmp {op : CmpOp} {f : D2} (ho : OpR X (compareOp op) (r2 X.K E f)) (ha : DP X E a τa) (hb : DP X E b τb) (hm : behindInMarks op b = false) : DP X E (.Compare a [op] [b] pos) (dOp f τa τb) := pe_mono (pe_cmpR ho ha hb hm) fun _ _ _ h => up_op h
/-- a value that is a bool, as a test -/
def dB (τ : DE) : DT := fun ρ M k x => τ ρ M (fun u M1 => ∃ b, u = .bl b ∧ k b M1) x
section
variable {K : PySem.W.Frag} {G : Hp} {v : V}
theorem Rep.bl_of {b : Bool} (h : Rep K G v (.bl b)) : v = .bl b := by cases h; rfl
theorem Rep.int_of {b : Int} (h : Rep K G v (.int b)) : v = .int b := by cases h; rfl
theorem Rep.str_of {b : Str} (h : Rep K G v (.str b)) : v = .str b := by cases h; rfl
theorem Rep.non_of (h : Rep K G v .non) : v = .non := by cases h; rfl
theorem Rep.cel_of {a : Addr} (h : Rep K G v (.cel a)) : v = .ref a := by cases h; rfl
theorem Rep.lst_of {ds : List D} (h : Rep K G v (.lst ds)) : ∃ a vs, v = .ref a ∧ G a = some (.lst vs) ∧ Reps K G vs ds := by cases h with | lst h r => exact ⟨_, _, rfl, h, r⟩
theorem Rep.tup_of {ds : List D} (h : Rep K G v (.tup ds)) : ∃ a vs, v = .ref a ∧ G a = some (.tup vs) ∧ Reps K G vs ds := by cases h with | tup h r => exact ⟨_, _, rfl, h, r⟩
theorem Rep.obj_of {C : Addr} {fs : List (Str × D)} (h : Rep K G v (.obj C fs)) : ∃ a dx fvs, v = .ref a ∧ G a = some (.ins C dx fvs) ∧ FRep K G fvs fs := by cases h with | obj h r => exact ⟨_, _, _, rfl, h, r⟩
theorem Reps.one {v : List V} {d : D} (h : Reps K G v [d]) : ∃ x, v = [x] ∧ Rep K G x d := by
  cases h with | cons h r => cases r; exact ⟨_, rfl, h⟩
theorem Reps.two {v : List V} {d e : D} (h : Reps K G v [d, e]) : ∃ x y, v = [x, y] ∧ Rep K G x d ∧ Rep K G y e := by
  cases h with | cons h r => cases r with | cons h' r => cases r; exact ⟨_, _, rfl, h, h'⟩
end
theorem upT_B {K : PySem.W.Frag} {τ : DE} {σ : L2.St} {H : Hp} {Q : Bool → Hp → Prop} (h : upT K E (dB τ) σ H Q) : up K E τ σ H fun x H' => ∃ k, x = .bl k ∧ Q k H' := by
  obtain ⟨ρ, s, k, x, rfl, er, q, p, px⟩ := h
  refine ⟨ρ, s, _, x, rfl, er, q, fun u s1 q1 st1 ok1 v1 r1 => ?_, px⟩
  obtain ⟨b, rfl, q1⟩ := q1
  exact ⟨b, r1.bl_of, p b s1 q1 st1 ok1⟩
theorem t_cmp {op : CmpOp} {f : D2} (ho : OpR X (compareOp op) (r2 X.K E f)) (ha : DP X E a τa) (hb : DP X E b τb) (hm : behindInMarks op b = false) : DPT X E (.Compare a [op] [b] pos) (dB (dOp f τa τb)) :=
  pt_mono (pt_cmpR ho ha hb hm) fun σ H Q h => up_op (upT_B h)
theorem t_val (h : DP X E e τa) (he : ∀ whole, isTrue e X.env whole = (do let v ← whole; standAt e.pos; holding [v] (truthy v)) := by intro _; rfl) : DPT X E e (dB τa) :=
  pt_mono (pt_val h he) fun σ H Q h => upT_B h

/-! ### and, or, not, if -/
variable {θa θb : DT} {rest : List Expr}
def dAnd (t u : DT) : DT := fun ρ M k x => t ρ M (fun c M1 => if c = true then u ρ M1 k x else k false M1) x
def dOr (t u : DT) : DT := fun ρ M k x => t ρ M (fun c M1 => if c = true then k true M1 else u ρ M1 k x) x
def dNot (t : DT) : DT := fun ρ M k x => t ρ M (fun c M1 => k (!c) M1) x
theorem w_and1 (ha : DPT X E a θa) : DPW X E (.BoolOp .And [a] pos) θa := pw_and1 ha
theorem w_or1 (ha : DPT X E a θa) : DPW X E (.BoolOp .Or [a] pos) θa := pw_or1 ha
theorem w_and (ha : DPT X E a θa) (hb : DPW X E (.BoolOp .And (b :: rest) pos) θb) : DPW X E (.BoolOp .And (a :: b :: rest) pos) (dAnd θa θb) :=
  pw_mono (pw_and ha hb) fun σ H Q h => by
    obtain ⟨ρ, s, k, x, rfl, er, q, p, px⟩ := h
    refine ⟨ρ, s, _, x, rfl, er, q, fun b s1 q1 st1 ok1 => ?_, px⟩
    cases b with
    | true =>
      rw [if_pos rfl] at q1 ⊢
      exact ⟨ρ, s1, k, x, rfl, er.step st1 ok1, q1, p.step st1, px.step st1⟩
    | false =>
      rw [if_neg Bool.false_ne_true] at q1 ⊢
      exact p false s1 q1 st1 ok1
theorem w_or (ha : DPT X E a θa) (hb : DPW X E (.BoolOp .Or (b :: rest) pos) θb) : DPW X E (.BoolOp .Or (a :: b :: rest) pos) (dOr θa θb) :=
  pw_mono (pw_or ha hb) fun σ H Q h => by
    obtain ⟨ρ, s, k, x, rfl, er, q, p, px⟩ := h
    refine ⟨ρ, s, _, x, rfl, er, q, fun b s1 q1 st1 ok1 => ?_, px⟩
    cases b with
    | true =>
      rw [if_pos rfl] at q1 ⊢
      exact p true s1 q1 st1 ok1
    | false =>
      rw [if_neg Bool.false_ne_true] at q1 ⊢
      exact ⟨ρ, s1, k, x, rfl, er.step st1 ok1, q1, p.step st1, px.step st1⟩
theorem t_not (ha : DPT X E a θa) : DPT X E (.UnaryOp .Not a pos) (dNot θa) :=
  pt_mono (pt_not ha) fun σ H Q h => by
    obtain ⟨ρ, s, k, x, rfl, er, q, p, px⟩ := h
    exact ⟨ρ, s, _, x, rfl, er, q, fun b s1 q1 st1 ok1 => p (!b) s1 q1 st1 ok1, px⟩
theorem DPW.t (h : DPW X E e θa) : DPT X E e θa := PW.pt h
/-- .. as values -/
def dAndV (ta tb : DE) : DE := fun ρ M k x => ta ρ M (fun u M1 => ∃ c, u = .bl c ∧ if c = true then tb ρ M1 k x else k (.bl false) M1) x
def dOrV (ta tb : DE) : DE := fun ρ M k x => ta ρ M (fun u M1 => ∃ c, u = .bl c ∧ if c = true then k (.bl true) M1 else tb ρ M1 k x) x
def dNotV (ta : DE) : DE := fun ρ M k x => ta ρ M (fun u M1 => ∃ c, u = .bl c ∧ k (.bl (!c)) M1) x
theorem d_one {op} (h : DP X E a τa) : DP X E (.BoolOp op [a] pos) τa := pe_one h
theorem d_and (ha : DP X E a τa) (hb : DP X E (.BoolOp .And (b :: rest) pos) τb) : DP X E (.BoolOp .And (a :: b :: rest) pos) (dAndV τa τb) :=
  pe_mono (pe_and ha hb) fun σ H Q h => by
    obtain ⟨ρ, s, k, x, rfl, er, q, p, px⟩ := h
    refine ⟨ρ, s, _, x, rfl, er, q, fun u s1 q1 st1 ok1 v1 r1 => ?_, px⟩
    obtain ⟨c, rfl, q1⟩ := q1
    refine ⟨c, r1.bl_of, ?_⟩
    cases c with
    | true =>
      rw [if_pos rfl] at q1 ⊢
      exact ⟨ρ, s1, k, x, rfl, er.step st1 ok1, q1, p.step st1, px.step st1⟩
    | false =>
      rw [if_neg Bool.false_ne_true] at q1 ⊢
      exact p _ s1 q1 st1 ok1 _ .bl
theorem d_or (ha : DP X E a τa) (hb : DP X E (.BoolOp .Or (b :: rest) pos) τb) : DP X E (.BoolOp .Or (a :: b :: rest) pos) (dOrV τa τb) :=
  pe_mono (pe_or ha hb) fun σ H Q h => by
    obtain ⟨ρ, s, k, x, rfl, er, q, p, px⟩ := h
    refine ⟨ρ, s, _, x, rfl, er, q, fun u s1 q1 st1 ok1 v1 r1 => ?_, px⟩
    obtain ⟨c, rfl, q1⟩ := q1
    refine ⟨c, r1.bl_of, ?_⟩
    cases c with
    | true =>
      rw [if_pos rfl] at q1 ⊢
      exact p _ s1 q1 st1 ok1 _ .bl
    | false =>
      rw [if_neg Bool.false_ne_true] at q1 ⊢
      exact ⟨ρ, s1, k, x, rfl, er.step st1 ok1, q1, p.step st1, px.step st1⟩
theorem d_not (ha : DP X E a τa) : DP X E (.UnaryOp .Not a pos) (dNotV τa) :=
  pe_mono (pe_not ha) fun σ H Q h => by
    obtain ⟨ρ, s, k, x, rfl, er, q, p, px⟩ := h
    refine ⟨ρ, s, _, x, rfl, er, q, fun u s1 q1 st1 ok1 v1 r1 => ?_, px⟩
    obtain ⟨c, rfl, q1⟩ := q1
    exact ⟨c, r1.bl_of, p _ s1 q1 st1 ok1 _ .bl⟩
def dIf (t : DT) (ta tb : DE) : DE := fun ρ M k x => t ρ M (fun c M1 => if c = true then ta ρ M1 k x else tb ρ M1 k x) x
theorem d_if (hc : DPT X E c θa) (ha : DP X E a τa) (hb : DP X E b τb) : DP X E (.IfExp c a b pos) (dIf θa τa τb) :=
  pe_mono (pe_ifExp hc ha hb) fun σ H Q h => by
    obtain ⟨ρ, s, k, x, rfl, er, q, p, px⟩ := h
    refine ⟨ρ, s, _, x, rfl, er, q, fun c s1 q1 st1 ok1 => ?_, px⟩
    cases c with
    | true =>
      rw [if_pos rfl] at q1 ⊢
      exact ⟨ρ, s1, k, x, rfl, er.step st1 ok1, q1, p.step st1, px.step st1⟩
    | false =>
      rw [if_neg Bool.false_ne_true] at q1 ⊢
      exact ⟨ρ, s1, k, x, rfl, er.step st1 ok1, q1, p.step st1, px.step st1⟩
/-- a < b < c -/
def dChain (f g : D2) (τa τb τc : DE) : DE := fun ρ M k x => τa ρ M (fun u M1 => τb ρ M1 (fun v M2 => f u v M2 (fun z M3 => ∃ c, z = .bl c ∧ if c = true then τc ρ M3 (fun w M4 => g v w M4 k x) x else k (.bl false) M3) x) x) x

/-! ### argument lists, displays -/
variable {es : List Expr} {αa : DA}
def dNil : DA := fun _ M k _ => k [] M
def dCons (ta : DE) (tr : DA) : DA := fun ρ M k x => ta ρ M (fun u M1 => tr ρ M1 (fun us M2 => k (u :: us) M2) x) x
theorem a_nil : DPA X E [] dNil := pa_mono pa_nil fun σ H Q h => by
  obtain ⟨ρ, s, k, x, rfl, er, q, p, px⟩ := h
  exact p [] s q (Step.refl s) er.ok [] .nil
theorem a_cons (ha : DP X E e τa) (hr : DPA X E es αa) (hs : starEach (e :: es) X.env = (false, eval e X.env) :: starEach es X.env := by rfl) : DPA X E (e :: es) (dCons τa αa) :=
  pa_mono (pa_cons ha hr hs) fun σ H Q h => by
    obtain ⟨ρ, s, k, x, rfl, er, q, p, px⟩ := h
    refine ⟨ρ, s, _, x, rfl, er, q, fun u s1 q1 st1 ok1 v1 r1 => ?_, px⟩
    refine ⟨ρ, s1, _, x, rfl, er.step st1 ok1, q1, fun us s2 q2 st2 ok2 vs r2 => ?_, px.step st1⟩
    exact p _ s2 q2 (st1.trans st2) ok2 _ (.cons (r1.same st2.same) r2)
def dTup (t : DA) : DE := fun ρ M k x => t ρ M (fun xs M1 => xs.length ≤ sizeLine ∧ k (.tup xs) M1) x
def dLst (t : DA) : DE := fun ρ M k x => t ρ M (fun xs M1 => xs.length ≤ sizeLine ∧ k (.lst xs) M1) x
/-- a list that changes -/
def dLstM (t : DA) : DE := fun ρ M k x => t ρ M (fun xs M1 => xs.length ≤ sizeLine ∧ ∀ p, M1 p = none → k (.cel p) (mup M1 p (.lst xs))) x
section
variable {K : PySem.W.Frag} {s : Sta} {k : DK} {Q : VK} {xs : List V} {ds : List D} {q : Addr}
theorem Post.tup (p : Post K s k Q) (h : k (.tup ds) s.M) (o : Ok K s) (r : Reps K s.G xs ds) (hq : s.H q = none) : Q (.ref q) (upd s.H q (.tup xs)) := by
  obtain ⟨a, b⟩ := o.new (o := .tup xs) hq
  exact p _ ⟨upd s.H q (.tup xs), upd s.G q (.tup xs), s.M⟩ h b a _ (.tup upd_same (r.same b.same))
theorem Post.lst (p : Post K s k Q) (h : k (.lst ds) s.M) (o : Ok K s) (r : Reps K s.G xs ds) (hq : s.H q = none) : Q (.ref q) (upd s.H q (.lst xs)) := by
  obtain ⟨a, b⟩ := o.new (o := .lst xs) hq
  exact p _ ⟨upd s.H q (.lst xs), upd s.G q (.lst xs), s.M⟩ h b a _ (.lst upd_same (r.same b.same))
theorem Post.lstM (p : Post K s k Q) (h : ∀ p, s.M p = none → k (.cel p) (mup s.M p (.lst ds))) (o : Ok K s) (r : Reps K s.G xs ds) (hq : s.H q = none) : Q (.ref q) (upd s.H q (.lst xs)) := by
  obtain ⟨a, b⟩ := o.newM (o := .lst xs) (mo := .lst ds) hq ⟨xs, rfl, r⟩
  exact p _ ⟨upd s.H q (.lst xs), s.G, mup s.M q (.lst ds)⟩ (h q (o.freeM hq)) b a _ .cel
end
theorem d_tup {x1} (h : DPA X E es αa) : DP X E (.Tuple es x1 pos) (dTup αa) :=
  pe_mono (pe_tup h) fun σ H Q h => by
    obtain ⟨ρ, s, k, x, rfl, er, q, p, px⟩ := h
    refine ⟨ρ, s, _, x, rfl, er, q, fun us s1 q1 st1 ok1 vs r1 => ?_, px⟩
    exact ⟨by rw [r1.length]; exact q1.1, fun t ht => (p.step st1).tup q1.2 ok1 r1 ht⟩
theorem d_lst (h : DPA X E es αa) : DP X E (.List es pos) (dLst αa) :=
  pe_mono (pe_lst h) fun σ H Q h => by
    obtain ⟨ρ, s, k, x, rfl, er, q, p, px⟩ := h
    refine ⟨ρ, s, _, x, rfl, er, q, fun us s1 q1 st1 ok1 vs r1 => ?_, px⟩
    exact ⟨by rw [r1.length]; exact q1.1, fun t ht => (p.step st1).lst q1.2 ok1 r1 ht⟩
theorem d_lstM (h : DPA X E es αa) : DP X E (.List es pos) (dLstM αa) :=
  pe_mono (pe_lst h) fun σ H Q h => by
    obtain ⟨ρ, s, k, x, rfl, er, q, p, px⟩ := h
    refine ⟨ρ, s, _, x, rfl, er, q, fun us s1 q1 st1 ok1 vs r1 => ?_, px⟩
    exact ⟨by rw [r1.length]; exact q1.1, fun t ht => (p.step st1).lstM q1.2 ok1 r1 ht⟩

/-! ### calls of built-ins -/
def dCB (f : DN) (t : DA) : DE := fun ρ M k x => t ρ M (fun ds M1 => f ds M1 k x) x
theorem up_cb {K : PySem.W.Frag} {f : DN} {σ : L2.St} {H : Hp} {Q : VK} (h : up K E (dCB f αa) σ H Q) : tCB (rA K E f) (upA K E αa) σ H Q := by
  obtain ⟨ρ, s, k, x, rfl, er, q, p, px⟩ := h
  exact ⟨ρ, s, _, x, rfl, er, q, fun us s1 q1 st1 ok1 vs r1 => ⟨s1, us, k, x, rfl, ok1, r1, q1, p.step st1, px.step st1⟩, px⟩
theorem d_callB {id : String} {x : Str} {p : Pos} {f : DN} (hc : CallR X (.builtin id) (rA X.K E f)) (hg : Gl X x) (hm : X.mg x = none) (hv : bootBuiltins x = some (.builtin id)) (ha : DPA X E (e :: es) αa) (hn : x ≠ "__name__" := by decide) (hdb : (x == ("__debug__" : Str)) = false := by decide) (hs : starEach (e :: es) X.env = (false, eval e X.env) :: starEach es X.env := by rfl) (hpl : (backTo pos (starEach es X.env)).any (·.1) = false := by rfl) :
    DP X E (.Call (.Name x p) (e :: es) [] pos) (dCB f αa) := pe_mono (pe_callB hc hg hm hv ha hn hdb hs hpl) fun _ _ _ h => up_cb h
theorem d_callTy {T : String} {x : Str} {p : Pos} {f : DN} (hc : CallR X (.type T) (rA X.K E f)) (hg : Gl X x) (hm : X.mg x = none) (hv : bootBuiltins x = some (.type T)) (ha : DPA X E (e :: es) αa) (hn : x ≠ "__name__" := by decide) (hdb : (x == ("__debug__" : Str)) = false := by decide) (hs : starEach (e :: es) X.env = (false, eval e X.env) :: starEach es X.env := by rfl) (hpl : (backTo pos (starEach es X.env)).any (·.1) = false := by rfl) :
    DP X E (.Call (.Name x p) (e :: es) [] pos) (dCB f αa) := pe_mono (pe_callTy hc hg hm hv ha hn hdb hs hpl) fun _ _ _ h => up_cb h

/-! ### statements -/
variable {st : Stmt} {sts : List Stmt} {τs τt : DS}
def dNext : DS := fun k _ ρ M => k.nx ρ M
def dSeq (t u : DS) : DS := fun k x ρ M => t { k with nx := u k x } x ρ M
theorem b_nil : DPB X E [] dNext := pss_mono pss_nil fun D σ H h => by
  obtain ⟨ρ, s, k, x, rfl, er, q, p, px⟩ := h
  exact p.nx ρ s q (Step.refl s) σ er
theorem b_cons (h1 : DPS X E st τs) (h2 : DPB X E sts τt) : DPB X E (st :: sts) (dSeq τs τt) := pss_mono (pss_cons h1 h2) fun D σ H h => by
  obtain ⟨ρ, s, k, x, rfl, er, q, p, px⟩ := h
  refine ⟨ρ, s, _, x, rfl, er, q, ⟨fun ρ1 s1 q1 st1 σ1 er1 => ?_, p.rt, p.bk, p.ct⟩, px⟩
  exact ⟨ρ1, s1, k, x, rfl, er1, q1, p.step st1, px.step st1⟩
theorem b_one (h1 : DPS X E st τs) : DPB X E [st] τs := pss_one h1
theorem s_pass : DPS X E (.Pass pos) dNext := ps_mono ps_pass fun D σ H h => by
  obtain ⟨ρ, s, k, x, rfl, er, q, p, px⟩ := h
  exact p.nx ρ s q (Step.refl s) σ er
def dBrk : DS := fun k _ ρ M => k.bk ρ M
theorem s_break : DPS X E (.Break pos) dBrk := ps_mono ps_break fun D σ H h => by
  obtain ⟨ρ, s, k, x, rfl, er, q, p, px⟩ := h
  exact p.bk ρ s q (Step.refl s) σ er
def dCont : DS := fun k _ ρ M => k.ct ρ M
theorem s_continue : DPS X E (.Continue pos) dCont := ps_mono ps_continue fun D σ H h => by
  obtain ⟨ρ, s, k, x, rfl, er, q, p, px⟩ := h
  exact p.ct ρ s q (Step.refl s) σ er
def dDrop (τ : DE) : DS := fun k x ρ M => τ ρ M (fun _ M1 => k.nx ρ M1) x
theorem s_expr (he : DP X E e τa) (hs : swapsWith e none pos.line X.env = pure false := by rfl) : DPS X E (.Expr e pos) (dDrop τa) := ps_mono (ps_expr he hs) fun D σ H h => by
  obtain ⟨ρ, s, k, x, rfl, er, q, p, px⟩ := h
  exact ⟨ρ, s, _, x, rfl, er, q, fun u s1 q1 st1 ok1 v1 r1 => p.nx ρ s1 q1 st1 σ (er.step st1 ok1), px⟩
def dRet (τ : DE) : DS := fun k x ρ M => τ ρ M k.rt x
theorem s_ret (he : DP X E e τa) : DPS X E (.Return (some e) pos) (dRet τa) := ps_mono (ps_ret he) fun D σ H h => by
  obtain ⟨ρ, s, k, x, rfl, er, q, p, px⟩ := h
  obtain ⟨b, sb, ob, mb, pb⟩ := p.rt
  exact ⟨ρ, s, k.rt, x, rfl, er, q, pb.step sb, px⟩
/-- a changing list, as it is from now on, given back -/
def dRetZ (τ : DE) : DS := fun k x ρ M => τ ρ M (fun u M1 => ∃ a ds, u = .cel a ∧ M1 a = some (.lst ds) ∧ k.m0 a = none ∧ k.rt (.lst ds) (mdel M1 a)) x
theorem s_retZ (he : DP X E e τa) : DPS X E (.Return (some e) pos) (dRetZ τa) := ps_mono (ps_ret he) fun D σ H h => by
  obtain ⟨ρ, s, k, x, rfl, er, q, p, px⟩ := h
  obtain ⟨b, sb, ob, mb, pb⟩ := p.rt
  refine ⟨ρ, s, _, x, rfl, er, q, fun u s1 q1 st1 ok1 v1 r1 => ?_, px⟩
  obtain ⟨a, ds, rfl, hm, h0, q1⟩ := q1
  have hv := r1.cel_of
  subst hv
  obtain ⟨vs, ho, rs⟩ := ok1.cells _ _ hm
  have st : Step b s1 := sb.trans st1
  have bm : b.M a = none := by rw [mb]; exact h0
  have bh : b.H a = none := by
    cases eh : b.H a with
    | none => rfl
    | some o =>
      cases eg : b.G a with
      | none =>
        have z := (st.hid a o eh eg bm).2.2
        rw [hm] at z
        cases z
      | some u =>
        have z := st.same a u eg
        rw [ok1.apart _ _ hm] at z
        cases z
  obtain ⟨k2, st2, sm⟩ := ok1.freeze st bh bm (by rw [hm]; rfl) ho
  exact pb _ ⟨s1.H, upd s1.G a (.lst vs), mdel s1.M a⟩ q1 st2 k2 _ (.lst upd_same (rs.same sm))
def dRetN : DS := fun k _ _ M => k.rt .non M
theorem s_retN : DPS X E (.Return none pos) dRetN := ps_mono ps_retN fun D σ H h => by
  obtain ⟨ρ, s, k, x, rfl, er, q, p, px⟩ := h
  obtain ⟨b, sb, ob, mb, pb⟩ := p.rt
  exact pb _ s q sb er.ok _ .non
def dIfS (c : DT) (t u : DS) : DS := fun k x ρ M => c ρ M (fun b M1 => if b = true then t k x ρ M1 else u k x ρ M1) x
theorem s_if {sa sb : List Stmt} (hc : DPT X E c θa) (ha : DPB X E sa τs) (hb : DPB X E sb τt) : DPS X E (.If c sa sb pos) (dIfS θa τs τt) := ps_mono (ps_if hc ha hb) fun D σ H h => by
  obtain ⟨ρ, s, k, x, rfl, er, q, p, px⟩ := h
  refine ⟨ρ, s, _, x, rfl, er, q, fun c s1 q1 st1 ok1 => ?_, px⟩
  cases c with
  | true =>
    rw [if_pos rfl] at q1 ⊢
    exact ⟨ρ, s1, k, x, rfl, er.step st1 ok1, q1, p.step st1, px.step st1⟩
  | false =>
    rw [if_neg Bool.false_ne_true] at q1 ⊢
    exact ⟨ρ, s1, k, x, rfl, er.step st1 ok1, q1, p.step st1, px.step st1⟩
/-- code that is never come to -/
def dNever : DS := fun _ _ _ _ => False
theorem s_never : DPS X E st dNever := ps_mono ps_never fun D σ H h => by
  obtain ⟨ρ, s, k, x, rfl, er, q, p, px⟩ := h
  exact q
theorem b_never : DPB X E sts dNever := pss_mono pss_never fun D σ H h => by
  obtain ⟨ρ, s, k, x, rfl, er, q, p, px⟩ := h
  exact q
/-- name = value -/
def dSet (i : Nat) (τ : DE) : DS := fun k x ρ M => τ ρ M (fun u M1 => k.nx (ρ.set i (some u)) M1) x
theorem s_set {i : Nat} {x : Str} {pos' : Pos} (hN : X.N.Nodup) (hi : X.N[i]? = some x) (hx : Loc X.env.scope x) (he : DP X E e τa) (hs : swapsWith e (some (.Name x pos')) pos.line X.env = pure false := by rfl) (hf : X.fn x = true ∨ X.env.scope.names.lookup x = some .local := by first | exact .inl rfl | exact .inr rfl | assumption) :
    DPS X E (.Assign [.Name x pos'] e pos) (dSet i τa) := ps_mono (ps_set hN hi hx he hs hf) fun D σ H h => by
  obtain ⟨ρ, s, k, x, rfl, er, q, p, px⟩ := h
  exact ⟨ρ, s, _, x, rfl, er, q, fun u s1 q1 st1 ok1 v1 r1 => p.nx _ s1 q1 st1 _ ((er.step st1 ok1).set i r1), px⟩
/-- a, b = x, y -/
def dPar (i j : Nat) (α : DA) : DS := fun k x ρ M => α ρ M (fun us M1 => ∃ u v, us = [u, v] ∧ k.nx ((ρ.set i (some u)).set j (some v)) M1) x
theorem s_par {i j : Nat} {x y : Str} {px py pt : Pos} {kt k2 pt2} (hc : X.calm = true) (hN : X.N.Nodup) (hi : X.N[i]? = some x) (hj : X.N[j]? = some y) (hij : i ≠ j)
    (hx : X.env.scope.names.lookup x = some .local) (hy : X.env.scope.names.lookup y = some .local) (ha : DPA X E [a, b] αa)
    (hw : swappedStores [.Tuple [.Name x px, .Name y py] kt pt] (.Tuple [a, b] k2 pt2) X.env = pure (some [x, y]))
    (hs : swapsWithSole [.Tuple [.Name x px, .Name y py] kt pt] (.Tuple [a, b] k2 pt2) pos.line X.env = pure false := by rfl) :
    DPS X E (.Assign [.Tuple [.Name x px, .Name y py] kt pt] (.Tuple [a, b] k2 pt2) pos) (dPar i j αa) := ps_mono (ps_par hc hN hi hj hij hx hy ha hw hs) fun D σ H h => by
  obtain ⟨ρ, s, k, x, rfl, er, q, p, px⟩ := h
  refine ⟨ρ, s, _, x, rfl, er, q, fun us s1 q1 st1 ok1 vs r1 => ?_, px⟩
  obtain ⟨u, v, rfl, q1⟩ := q1
  obtain ⟨u', v', rfl, ru, rv⟩ := r1.two
  exact ⟨u', v', rfl, p.nx _ s1 q1 st1 _ (((er.step st1 ok1).set i ru).set j rv)⟩
end
end DL
set_option Elab.async false
set_option linter.all false
set_option maxRecDepth 100000
set_option maxHeartbeats 2000000
namespace DL
open PySem PySem.Spec PyProof.Rows L2

/-! ### what is walked -/
/-- J gives the data ds, one by one, in s and whatever follows it -/
structure ItD (K : PySem.W.Frag) (s : Sta) (J : It) (ds : List D) : Prop where
  go : ∀ (i : Nat) (t : Sta), Step s t → Ok K t → i < ds.length → J.go i t.H
  stop : ∀ (t : Sta), Step s t → Ok K t → J.stop ds.length t.H
  yld : ∀ (i : Nat) (t : Sta) (x : V) (H' : Hp), Step s t → Ok K t → J.yld i t.H x H' → ∀ d, ds[i]? = some d → ∃ u : Sta, u.H = H' ∧ u.M = t.M ∧ Step t u ∧ Ok K u ∧ Rep K u.G x d
abbrev DI := DEnv → Mm → DKA → DX → Prop
def upI (K : PySem.W.Frag) (E : XK) (ι : DI) : TI := fun σ H R => ∃ ρ s k x, s.H = H ∧ ER K s σ ρ ∧ ι ρ s.M k x ∧ PostX K E s x ∧ ∀ (ds : List D) (t : Sta), k ds t.M → Step s t → Ok K t → ∀ J, ItD K t J ds → R J t.H
def DPI (X : Cx) (E : XK) (tg iter : Expr) (ι : DI) : Prop := PI X tg iter (upI X.K E ι)
section
variable {X : Cx} {E : XK} {e a b c : Expr} {pos : Pos} {tg iter : Expr} {τa τb : DE} {αa : DA}
theorem pi_mono {t t' : TI} (h : PI X tg iter t) (m : ∀ σ H R, t' σ H R → t σ H R) : PI X tg iter t' := ⟨fun pins s σ H R I q => h.run pins s σ H R I (m σ H R q)⟩
theorem itD_list {K : PySem.W.Frag} {s : Sta} {l : Addr} {vs : List V} {ds : List D} (h : s.G l = some (.lst vs)) (r : Reps K s.G vs ds) : ItD K s (Itl K l) ds := by
  have at_ : ∀ t, Step s t → Ok K t → SqL K t.H l vs := fun t st ok => SqL.of (ok.sub _ _ (st.same _ _ h))
  have hl := r.length
  refine ⟨fun i t st ok hi => ?_, fun t st ok => ⟨vs, at_ t st ok, by omega⟩, fun i t x H' st ok y d hd => ?_⟩
  · exact ⟨vs, vs[i]'(by omega), at_ t st ok, by simp [hl ▸ hi]⟩
  · obtain ⟨v, hv, rv⟩ := r.get hd
    have q := y.2 vs (at_ t st ok)
    rw [hv] at q
    cases q
    exact ⟨t, y.1.symm, rfl, Step.refl t, ok, rv.same st.same⟩
theorem itD_tup {K : PySem.W.Frag} {s : Sta} {l : Addr} {vs : List V} {ds : List D} (h : s.G l = some (.tup vs)) (r : Reps K s.G vs ds) : ItD K s (Itt K l) ds := by
  have at_ : ∀ t, Step s t → Ok K t → SqT K t.H l vs := fun t st ok => SqT.of (ok.sub _ _ (st.same _ _ h))
  have hl := r.length
  refine ⟨fun i t st ok hi => ?_, fun t st ok => ⟨vs, at_ t st ok, by omega⟩, fun i t x H' st ok y d hd => ?_⟩
  · exact ⟨vs, vs[i]'(by omega), at_ t st ok, by simp [hl ▸ hi]⟩
  · obtain ⟨v, hv, rv⟩ := r.get hd
    have q := y.2 vs (at_ t st ok)
    rw [hv] at q
    cases q
    exact ⟨t, y.1.symm, rfl, Step.refl t, ok, rv.same st.same⟩
/-- a text's signs -/
def signs (x : Str) : List D := x.cps.toList.map fun c => D.str ⟨#[c]⟩
theorem itD_str {K : PySem.W.Frag} {s : Sta} (x : Str) : ItD K s (Its x) (signs x) := by
  have hl : (signs x).length = x.cps.size := by unfold signs; simp
  refine ⟨fun i t st ok hi => by rw [hl] at hi; exact hi, fun t st ok => by rw [hl]; exact Nat.le_refl _, fun i t v H' st ok y d hd => ?_⟩
  obtain ⟨e, c, hc, rfl⟩ := y
  have q : d = D.str ⟨#[c]⟩ := by
    unfold signs at hd
    rw [List.getElem?_map] at hd
    have : x.cps.toList[i]? = some c := by simpa using hc
    rw [this] at hd
    exact (Option.some.inj hd).symm
  subst q
  exact ⟨t, e.symm, rfl, Step.refl t, ok, .str⟩
def upto (lo : Int) (n : Nat) : List D := (List.range n).map fun i => D.int (lo + (i : Nat))
theorem upto_length (lo : Int) (n : Nat) : (upto lo n).length = n := by unfold upto; simp
theorem upto_get {lo : Int} {n i : Nat} {d : D} (h : (upto lo n)[i]? = some d) : i < n ∧ d = .int (lo + i) := by
  unfold upto at h
  rw [List.getElem?_map] at h
  by_cases hi : i < n
  · rw [List.getElem?_range hi] at h
    exact ⟨hi, (Option.some.inj h).symm⟩
  · rw [List.getElem?_eq_none (by simpa using hi)] at h
    cases h
theorem itD_range {K : PySem.W.Frag} {s : Sta} (lo : Int) (n : Nat) : ItD K s (Itr lo n) (upto lo n) := by
  refine ⟨fun i t st ok hi => by rw [upto_length] at hi; exact hi, fun t st ok => by rw [upto_length]; exact Nat.le_refl _, fun i t v H' st ok y d hd => ?_⟩
  obtain ⟨e, rfl⟩ := y
  obtain ⟨_, rfl⟩ := upto_get hd
  exact ⟨t, e.symm, rfl, Step.refl t, ok, .int⟩
/-- pairs of two lists -/
def zips : List D → List D → List D
  | x :: xs, y :: ys => .tup [x, y] :: zips xs ys
  | _, _ => []
theorem zips_get : ∀ {xs ys : List D} {i : Nat} {d : D}, (zips xs ys)[i]? = some d → ∃ x y, xs[i]? = some x ∧ ys[i]? = some y ∧ d = .tup [x, y]
  | [], _, _, _, h => by simp [zips] at h
  | _ :: _, [], _, _, h => by simp [zips] at h
  | x :: xs, y :: ys, 0, d, h => by simp [zips] at h; exact ⟨x, y, rfl, rfl, h.symm⟩
  | x :: xs, y :: ys, i + 1, d, h => by
    obtain ⟨u, v, h1, h2, h3⟩ := zips_get (xs := xs) (ys := ys) (i := i) (d := d) (by simpa [zips] using h)
    exact ⟨u, v, by simpa using h1, by simpa using h2, h3⟩
theorem zips_length : ∀ (xs ys : List D), (zips xs ys).length = min xs.length ys.length
  | [], _ => by simp [zips]
  | _ :: _, [] => by simp [zips]
  | x :: xs, y :: ys => by simp [zips, zips_length xs ys]
theorem yld_pair {K : PySem.W.Frag} {t : Sta} {T : Addr} {x y : V} {d e : D} (ok : Ok K t) (hT : t.H T = none) (rx : Rep K t.G x d) (ry : Rep K t.G y e) :
    ∃ u : Sta, u.H = upd t.H T (.tup [x, y]) ∧ u.M = t.M ∧ Step t u ∧ Ok K u ∧ Rep K u.G (.ref T) (.tup [d, e]) := by
  obtain ⟨k, st⟩ := ok.new (o := .tup [x, y]) hT
  exact ⟨⟨_, _, _⟩, rfl, rfl, st, k, .tup upd_same (.cons (rx.same st.same) (.cons (ry.same st.same) .nil))⟩
theorem itD_zipL {K : PySem.W.Frag} {s : Sta} {l m : Addr} {vs us : List V} {ds es : List D} (h : s.G l = some (.lst vs)) (h' : s.G m = some (.lst us)) (r : Reps K s.G vs ds) (r' : Reps K s.G us es) : ItD K s (Itz K l m) (zips ds es) := by
  have at1 : ∀ t, Step s t → Ok K t → SqL K t.H l vs := fun t st ok => SqL.of (ok.sub _ _ (st.same _ _ h))
  have at2 : ∀ t, Step s t → Ok K t → SqL K t.H m us := fun t st ok => SqL.of (ok.sub _ _ (st.same _ _ h'))
  have hl := r.length
  have hl' := r'.length
  refine ⟨fun i t st ok hi => ?_, fun t st ok => ⟨vs, us, at1 t st ok, at2 t st ok, ?_⟩, fun i t x H' st ok y d hd => ?_⟩
  · rw [zips_length] at hi
    exact ⟨vs, us, vs[i]'(by omega), us[i]'(by omega), at1 t st ok, at2 t st ok, by simp, by simp⟩
  · rw [zips_length]; omega
  · obtain ⟨d1, d2, e1, e2, rfl⟩ := zips_get hd
    obtain ⟨T, x1, x2, rfl, hT, rfl, y1, y2⟩ := y
    obtain ⟨v1, w1, p1⟩ := r.get e1
    obtain ⟨v2, w2, p2⟩ := r'.get e2
    have q1 := y1 vs (at1 t st ok)
    have q2 := y2 us (at2 t st ok)
    rw [w1] at q1
    rw [w2] at q2
    cases q1
    cases q2
    exact yld_pair ok hT (p1.same st.same) (p2.same st.same)
theorem itD_zipT {K : PySem.W.Frag} {s : Sta} {l m : Addr} {vs us : List V} {ds es : List D} (h : s.G l = some (.tup vs)) (h' : s.G m = some (.tup us)) (r : Reps K s.G vs ds) (r' : Reps K s.G us es) : ItD K s (RZ.ItzT K l m) (zips ds es) := by
  have at1 : ∀ t, Step s t → Ok K t → SqT K t.H l vs := fun t st ok => SqT.of (ok.sub _ _ (st.same _ _ h))
  have at2 : ∀ t, Step s t → Ok K t → SqT K t.H m us := fun t st ok => SqT.of (ok.sub _ _ (st.same _ _ h'))
  have hl := r.length
  have hl' := r'.length
  refine ⟨fun i t st ok hi => ?_, fun t st ok => ⟨vs, us, at1 t st ok, at2 t st ok, ?_⟩, fun i t x H' st ok y d hd => ?_⟩
  · rw [zips_length] at hi
    exact ⟨vs, us, vs[i]'(by omega), us[i]'(by omega), at1 t st ok, at2 t st ok, by simp, by simp⟩
  · rw [zips_length]; omega
  · obtain ⟨d1, d2, e1, e2, rfl⟩ := zips_get hd
    obtain ⟨T, x1, x2, rfl, hT, rfl, y1, y2⟩ := y
    obtain ⟨v1, w1, p1⟩ := r.get e1
    obtain ⟨v2, w2, p2⟩ := r'.get e2
    have q1 := y1 vs (at1 t st ok)
    have q2 := y2 us (at2 t st ok)
    rw [w1] at q1
    rw [w2] at q2
    cases q1
    cases q2
    exact yld_pair ok hT (p1.same st.same) (p2.same st.same)

/-- what a walked value gives -/
def dItems : D → DKA → Mm → Prop
  | .lst ds, k, M => k ds M
  | .tup ds, k, M => k ds M
  | .str x, k, M => k (signs x) M
  | _, _, _ => False
def iSeq (τ : DE) : DI := fun ρ M k x => τ ρ M (fun u M1 => dItems u k M1) x
theorem i_seq (he : DP X E e τa) : DPI X E tg e (iSeq τa) := by
  refine ⟨fun pins s σ H R I h => ?_⟩
  obtain ⟨ρ, s0, k, x, rfl, er, q, px, p⟩ := h
  refine thn (he.run pins s σ s0.H (fun v H1 => ∃ d t, t.H = H1 ∧ Step s0 t ∧ Ok X.K t ∧ Rep X.K t.G v d ∧ dItems d k t.M) I ⟨ρ, s0, _, x, rfl, er, q, fun d t q1 st1 ok1 v1 r1 => ⟨d, t, rfl, st1, ok1, r1, q1⟩, px⟩) fun v s1 ⟨y, H1, I1, r1, d, t, eH, st, ok, rd, q1⟩ => ?_
  subst eH
  cases rd with
  | lst ha rs =>
    rename_i a vs ds
    cases r1
    have hq : SqL X.K t.H a vs := SqL.of (ok.sub _ _ ha)
    obtain ⟨its, rv, pl, hz⟩ := I1.list hq
    refine wpAny_pyIter_list pl.isList ?_
    refine ⟨s1.heap.objs.size, [s1.heap.objs.size], _, _, t.H, rfl, I1.kept (t' := s1.toks) fun b o e => Heap.get?_push_of_some _ e, turn_list a _, ⟨_, Heap.get?_push_size _ rfl, rfl, rfl⟩, fun b hb => ?_, p ds t q1 st ok _ (itD_list ha rs)⟩
    have e : b = s1.heap.objs.size := by simpa using hb
    subst e
    exact I1.fpOk (Nat.le_refl _) (I1.hok.fresh (Nat.le_refl _))
  | tup ha rs =>
    rename_i a vs ds
    cases r1
    have hq : SqT X.K t.H a vs := SqT.of (ok.sub _ _ ha)
    obtain ⟨its, rv, pl, hz⟩ := I1.tuple hq
    refine wpAny_pyIter_tuple (show s1.heap.IsTuple a its.toArray from pl) ?_
    refine ⟨s1.heap.objs.size, [s1.heap.objs.size], _, _, t.H, rfl, I1.kept (t' := s1.toks) fun b o e => Heap.get?_push_of_some _ e, turn_tuple a _, ⟨_, Heap.get?_push_size _ rfl, rfl, rfl⟩, fun b hb => ?_, p ds t q1 st ok _ (itD_tup ha rs)⟩
    have e : b = s1.heap.objs.size := by simpa using hb
    subst e
    exact I1.fpOk (Nat.le_refl _) (I1.hok.fresh (Nat.le_refl _))
  | str =>
    rename_i z
    obtain ⟨tt, rfl⟩ := r1
    have q2 := p (signs z) t q1 st ok _ (itD_str z)
    cases ha : z.cps.all (· < 128)
    · exact wpAny_pyIter_wide ha (pi_one (tk := s1.toks) I1 _ (turn_str _ z tt "str_iterator" (.inr rfl)) ⟨_, Heap.get?_push_size _ rfl, rfl, rfl⟩ q2)
    · exact wpAny_pyIter_ascii ha (pi_one (tk := s1.toks) I1 _ (turn_str _ z tt "str_ascii_iterator" (.inl rfl)) ⟨_, Heap.get?_push_size _ rfl, rfl, rfl⟩ q2)
  | _ => exact q1.elim
def iRange1 (α : DA) : DI := fun ρ M k x => α ρ M (fun us M1 => ∃ j : Int, us = [.int j] ∧ -(2 ^ 62) ≤ j ∧ j < 2 ^ 62 ∧ k (upto 0 j.toNat) M1) x
theorem i_range1 {p : Pos} (hg : Gl X "range") (hm : X.mg "range" = none) (ha : DPA X E [a] αa) (hs : starEach [a] X.env = [(false, eval a X.env)] := by rfl) : DPI X E tg (.Call (.Name "range" p) [a] [] pos) (iRange1 αa) :=
  pi_mono (pi_range1 hg hm ha hs) fun σ H R h => by
    obtain ⟨ρ, s, k, x, rfl, er, q, px, p⟩ := h
    refine ⟨ρ, s, _, x, rfl, er, q, fun us s1 q1 st1 ok1 vs r1 => ?_, px⟩
    obtain ⟨j, rfl, h1, h2, q1⟩ := q1
    obtain ⟨v, rfl, rv⟩ := r1.one
    exact ⟨j, by rw [rv.int_of], h1, h2, p _ s1 q1 st1 ok1 _ (itD_range 0 j.toNat)⟩
def iRange2 (α : DA) : DI := fun ρ M k x => α ρ M (fun us M1 => ∃ i j : Int, us = [.int i, .int j] ∧ (-(2 ^ 62) ≤ i ∧ i < 2 ^ 62 ∧ -(2 ^ 62) ≤ j ∧ j < 2 ^ 62) ∧ k (upto i (j - i).toNat) M1) x
theorem i_range2 {p : Pos} (hg : Gl X "range") (hm : X.mg "range" = none) (ha : DPA X E [a, b] αa) (hs : starEach [a, b] X.env = [(false, eval a X.env), (false, eval b X.env)] := by rfl) (hs2 : starEach [b] X.env = [(false, eval b X.env)] := by rfl) : DPI X E tg (.Call (.Name "range" p) [a, b] [] pos) (iRange2 αa) :=
  pi_mono (pi_range2 hg hm ha hs hs2) fun σ H R h => by
    obtain ⟨ρ, s, k, x, rfl, er, q, px, p⟩ := h
    refine ⟨ρ, s, _, x, rfl, er, q, fun us s1 q1 st1 ok1 vs r1 => ?_, px⟩
    obtain ⟨i, j, rfl, h1, q1⟩ := q1
    obtain ⟨v, w, rfl, rv, rw'⟩ := r1.two
    exact ⟨i, j, by rw [rv.int_of, rw'.int_of], h1, p _ s1 q1 st1 ok1 _ (itD_range i (j - i).toNat)⟩
def dZip : List D → DKA → Mm → Prop
  | [.lst a, .lst b], k, M => k (zips a b) M
  | [.tup a, .tup b], k, M => k (zips a b) M
  | _, _, _ => False
def iZip (α : DA) : DI := fun ρ M k x => α ρ M (fun us M1 => dZip us k M1) x
theorem i_zip {p tpos : Pos} {elts : List Expr} {kk : Nat} (hg : Gl X "zip") (hm : X.mg "zip" = none) (ha : DPA X E [a, b] αa) (hs : starEach [a, b] X.env = (false, eval a X.env) :: starEach [b] X.env := by rfl) (hpl : (backTo pos (starEach [b] X.env)).any (·.1) = false := by rfl) :
    DPI X E (.Tuple elts kk tpos) (.Call (.Name "zip" p) [a, b] [] pos) (iZip αa) :=
  pi_mono (RZ.pi_zipA hg hm ha hs hpl) fun σ H R h => by
    obtain ⟨ρ, s, k, x, rfl, er, q, px, p⟩ := h
    refine ⟨ρ, s, _, x, rfl, er, q, fun us s1 q1 st1 ok1 vs r1 => ?_, px⟩
    change dZip us k s1.M at q1
    unfold dZip at q1
    split at q1
    · obtain ⟨v, w, rfl, rv, rw'⟩ := r1.two
      obtain ⟨c, vs, rfl, hc, rs⟩ := rv.lst_of
      obtain ⟨d, ws, rfl, hd, rt⟩ := rw'.lst_of
      exact ⟨c, d, vs, ws, rfl, .inl ⟨SqL.of (ok1.sub _ _ hc), SqL.of (ok1.sub _ _ hd), p _ s1 q1 st1 ok1 _ (itD_zipL hc hd rs rt)⟩⟩
    · obtain ⟨v, w, rfl, rv, rw'⟩ := r1.two
      obtain ⟨c, vs, rfl, hc, rs⟩ := rv.tup_of
      obtain ⟨d, ws, rfl, hd, rt⟩ := rw'.tup_of
      exact ⟨c, d, vs, ws, rfl, .inr ⟨SqT.of (ok1.sub _ _ hc), SqT.of (ok1.sub _ _ hd), p _ s1 q1 st1 ok1 _ (itD_zipT hc hd rs rt)⟩⟩
    · exact q1.elim

/-! ### targets -/
abbrev DG := D → DEnv → Mm → (DEnv → Mm → Prop) → Prop
abbrev DGs := List D → DEnv → Mm → (DEnv → Mm → Prop) → Prop
def upG (K : PySem.W.Frag) (g : DG) : TG := fun v σ H Q => ∃ d ρ s k, s.H = H ∧ ER K s σ ρ ∧ Rep K s.G v d ∧ g d ρ s.M k ∧ PostN K s k Q
def upGs (K : PySem.W.Frag) (g : DGs) : TGs := fun vs σ H Q => ∃ ds ρ s k, s.H = H ∧ ER K s σ ρ ∧ Reps K s.G vs ds ∧ g ds ρ s.M k ∧ PostN K s k Q
def DPG (X : Cx) (tg : Expr) (g : DG) : Prop := PG X tg (upG X.K g)
def DPGs (X : Cx) (ts : List Expr) (g : DGs) : Prop := PGs X ts (upGs X.K g)
def gN (i : Nat) : DG := fun d ρ M k => k (ρ.set i (some d)) M
theorem pg_mono {t t' : TG} (h : PG X e t) (m : ∀ v σ H Q, t' v σ H Q → t v σ H Q) : PG X e t' := ⟨fun pins s σ H v u Q I r q => h.run pins s σ H v u Q I r (m v σ H Q q)⟩
theorem pgs_mono {es : List Expr} {t t' : TGs} (h : PGs X es t) (m : ∀ v σ H Q, t' v σ H Q → t v σ H Q) : PGs X es t' := ⟨fun pins s σ H v u Q I r q => h.run pins s σ H v u Q I r (m v σ H Q q)⟩
theorem g_name {i : Nat} {x : Str} (hN : X.N.Nodup) (hi : X.N[i]? = some x) (hx : Loc X.env.scope x) (hf : X.fn x = true ∨ X.env.scope.names.lookup x = some .local := by first | exact .inl rfl | exact .inr rfl | assumption) : DPG X (.Name x pos) (gN i) :=
  pg_mono (pg_name hN hi hx hf) fun v σ H Q h => by
    obtain ⟨d, ρ, s, k, rfl, er, r, q, p⟩ := h
    exact p _ s q (Step.refl s) _ (er.set i r)
def gsNil : DGs := fun ds ρ M k => ds = [] ∧ k ρ M
def gsCons (g : DG) (h : DGs) : DGs := fun ds ρ M k => ∃ d r, ds = d :: r ∧ g d ρ M fun ρ1 M1 => h r ρ1 M1 k
theorem gs_nil : DPGs X [] gsNil := pgs_mono pgs_nil fun vs σ H Q h => by
  obtain ⟨ds, ρ, s, k, rfl, er, r, ⟨rfl, q⟩, p⟩ := h
  cases r
  exact ⟨rfl, p _ s q (Step.refl s) _ er⟩
theorem gs_cons {es : List Expr} {g : DG} {h : DGs} (h1 : DPG X e g) (h2 : DPGs X es h) (hs : (assignEach (e :: es) X.env).map (·.2) = assign e X.env :: (assignEach es X.env).map (·.2) := by rfl) : DPGs X (e :: es) (gsCons g h) :=
  pgs_mono (pgs_cons h1 h2 hs) fun vs σ H Q hh => by
    obtain ⟨ds, ρ, s, k, rfl, er, r, ⟨d, dr, rfl, q⟩, p⟩ := hh
    cases r with
    | cons rv rs =>
      refine ⟨_, _, rfl, d, ρ, s, _, rfl, er, rv, q, fun ρ1 s1 q1 st1 σ1 er1 => ?_⟩
      exact ⟨dr, ρ1, s1, k, rfl, er1, rs.same st1.same, q1, p.step st1⟩
/-- (a, b, ..) = a tuple of that length -/
def gTupD (n : Nat) (g : DGs) : DG := fun d ρ M k => ∃ ds, d = .tup ds ∧ ds.length = n ∧ g ds ρ M k
theorem g_tup {es : List Expr} {k : Nat} {g : DGs} {n : Nat} (hc : X.calm = true) (h : DPGs X es g) (hn : (assignEach es X.env).length = n := by rfl) (hst : (assignEach es X.env).findIdx? (·.1) = none := by rfl) : DPG X (.Tuple es k pos) (gTupD n g) :=
  pg_mono (pg_tup hc h hn hst) fun v σ H Q hh => by
    obtain ⟨d, ρ, s, k, rfl, er, r, ⟨ds, rfl, hl, q⟩, p⟩ := hh
    obtain ⟨a, vs, rfl, ha, rs⟩ := r.tup_of
    exact ⟨a, vs, rfl, SqT.of (er.ok.sub _ _ ha), by rw [rs.length]; exact hl, ds, ρ, s, k, rfl, er, rs, q, p⟩
/-- target = value -/
def dAsg (g : DG) (τ : DE) : DS := fun k x ρ M => τ ρ M (fun u M1 => g u ρ M1 k.nx) x
theorem s_asg {tg : Expr} {g : DG} (he : DP X E e τa) (hg : DPG X tg g) (hs : swapsWithSole [tg] e pos.line X.env = pure false := by rfl) (hw : swappedStores [tg] e X.env = pure none := by rfl)
    (h1 : (assignEach [tg] X.env).map (·.2) = [assign tg X.env] := by rfl) : DPS X E (.Assign [tg] e pos) (dAsg g τa) := ps_mono (ps_asg he hg hs hw h1) fun D σ H h => by
  obtain ⟨ρ, s, k, x, rfl, er, q, p, px⟩ := h
  exact ⟨ρ, s, _, x, rfl, er, q, fun u s1 q1 st1 ok1 v1 r1 => ⟨u, ρ, s1, k.nx, rfl, er.step st1 ok1, r1, q1, p.nx.step st1⟩, px⟩

/-! ### for -/
/-- the turns over ds; I: what holds ahead of each turn -/
inductive ForK (g : DG) (β : DS) (k : DEnds) (x : DX) (ρ0 : DEnv) (ds : List D) (M0 : Mm) : Prop where
  | of (I : Nat → DEnv → Mm → Prop) (i0 : I 0 ρ0 M0) (turn : ∀ (j : Nat) (d : D) (ρ : DEnv) (M : Mm), ds[j]? = some d → I j ρ M → g d ρ M fun ρ1 M2 => β { k with nx := I (j + 1), bk := k.nx, ct := I (j + 1) } x ρ1 M2)
      (fin : ∀ ρ M, I ds.length ρ M → k.nx ρ M)
  | no (h : False)
def dFor (ι : DI) (g : DG) (β : DS) : DS := fun k x ρ M => ι ρ M (fun ds M1 => ForK g β k x ρ ds M1) x
theorem s_for {body : List Stmt} {ι : DI} {g : DG} {β : DS} (hp : PassesOwn (model X.prog X.w) X.A X.env X.xe) (hc : X.calm = true) (hi : DPI X E tg iter ι) (hg : DPG X tg g) (hb : DPB X E body β)
    (hs : ∀ x, foldedSetIterable iter X.env x = pure x := by intro _; rfl) : DPS X E (.For tg iter body [] pos) (dFor ι g β) := ps_mono (ps_for hp hc hi hg hb hs) fun D σ H h => by
  obtain ⟨ρ, s, k, x, rfl, er, q, p, px⟩ := h
  refine ⟨ρ, s, _, x, rfl, er, q, px, fun ds s1 q1 st1 ok1 J it => ?_⟩
  rcases q1 with ⟨I, i0, turn, fin⟩ | z
  case no => exact z.elim
  refine ⟨fun j m σ' H' => m = ds.length - j ∧ j ≤ ds.length ∧ ∃ ρ' s', s'.H = H' ∧ ER X.K s' σ' ρ' ∧ Step s1 s' ∧ I j ρ' s'.M, ⟨_, rfl, Nat.zero_le _, ρ, s1, rfl, er.step st1 ok1, Step.refl s1, i0⟩, ?_⟩
  rintro j m σ' H' ⟨rfl, hj, ρ', s', rfl, er', st', ij⟩
  by_cases hlt : j < ds.length
  · refine .inr ⟨it.go j s' st' er'.ok hlt, fun σ2 H2 => ∃ ρ2 s2, s2.H = H2 ∧ ER X.K s2 σ2 ρ2 ∧ Step s1 s2 ∧ I (j + 1) ρ2 s2.M, ?_, ?_⟩
    · rintro σ2 H2 ⟨ρ2, s2, e2, er2, st2, i2⟩
      exact ⟨ds.length - (j + 1), by omega, rfl, hlt, ρ2, s2, e2, er2, st2, i2⟩
    · intro v H2 y
      obtain ⟨d, hd⟩ : ∃ d, ds[j]? = some d := ⟨ds[j], by simp [hlt]⟩
      obtain ⟨u, rfl, eM, stu, oku, ru⟩ := it.yld j s' v H2 st' er'.ok y d hd
      have ij' : I j ρ' u.M := by rw [eM]; exact ij
      refine ⟨d, ρ', u, _, rfl, er'.step stu oku, ru, turn j d ρ' u.M hd ij', fun ρ3 s3 q3 st3 σ3 er3 => ?_⟩
      have sb : Step s1 s3 := (st'.trans stu).trans st3
      refine ⟨ρ3, s3, _, x, rfl, er3, q3, ⟨fun ρ4 s4 q4 st4 σ4 er4 => ⟨ρ4, s4, rfl, er4, sb.trans st4, q4⟩, ?_, fun ρ4 s4 q4 st4 σ4 er4 => p.nx ρ4 s4 q4 ((st1.trans sb).trans st4) σ4 er4, fun ρ4 s4 q4 st4 σ4 er4 => ⟨ρ4, s4, rfl, er4, sb.trans st4, q4⟩⟩, px.step (st1.trans sb)⟩
      obtain ⟨b, b1, b2, b3, b4⟩ := p.rt
      exact ⟨b, b1.trans (st1.trans sb), b2, b3, b4⟩
  · have ej : j = ds.length := by omega
    subst ej
    exact .inl ⟨it.stop s' st' er'.ok, p.nx ρ' s' (fin ρ' s'.M ij) (st1.trans st') σ' er'⟩

/-! ### while -/
inductive WhK (c : DT) (β : DS) (k : DEnds) (x : DX) (ρ0 : DEnv) (M0 : Mm) : Prop where
  | of (W : Nat → DEnv → Mm → Prop) (w0 : ∃ m, W m ρ0 M0) (turn : ∀ m ρ M, W m ρ M →
      c ρ M (fun b M1 => if b = true then β { k with nx := fun ρ M => ∃ m', m' < m ∧ W m' ρ M, bk := k.nx, ct := fun ρ M => ∃ m', m' < m ∧ W m' ρ M } x ρ M1 else k.nx ρ M1) x)
  | no (h : False)
def dWhile (c : DT) (β : DS) : DS := fun k x ρ M => WhK c β k x ρ M
theorem s_while {body : List Stmt} {θ : DT} {β : DS} (hp : PassesOwn (model X.prog X.w) X.A X.env X.xe) (hc : DPT X E c θ) (hb : DPB X E body β) : DPS X E (.While c body [] pos) (dWhile θ β) := ps_mono (ps_while hp hc hb) fun D σ H h => by
  obtain ⟨ρ, s, k, x, rfl, er, q, p, px⟩ := h
  rcases q with ⟨W, ⟨m0, w0⟩, turn⟩ | z
  case no => exact z.elim
  refine ⟨fun m σ' H' => ∃ ρ' s', s'.H = H' ∧ ER X.K s' σ' ρ' ∧ Step s s' ∧ W m ρ' s'.M, ⟨m0, ρ, s, rfl, er, Step.refl s, w0⟩, ?_⟩
  rintro m σ' H' ⟨ρ', s', rfl, er', st', w'⟩
  refine ⟨ρ', s', _, x, rfl, er', turn m ρ' s'.M w', fun b s1 q1 st1 ok1 => ?_, px.step st'⟩
  cases b with
  | true =>
    rw [if_pos rfl] at q1 ⊢
    have sb : Step s s1 := st'.trans st1
    refine ⟨fun σ2 H2 => ∃ m', m' < m ∧ ∃ ρ2 s2, s2.H = H2 ∧ ER X.K s2 σ2 ρ2 ∧ Step s s2 ∧ W m' ρ2 s2.M, fun σ2 H2 z => z, ?_⟩
    refine ⟨ρ', s1, _, x, rfl, er'.step st1 ok1, q1, ⟨fun ρ4 s4 ⟨m', hm, q4⟩ st4 σ4 er4 => ⟨m', hm, ρ4, s4, rfl, er4, sb.trans st4, q4⟩, ?_, fun ρ4 s4 q4 st4 σ4 er4 => p.nx ρ4 s4 q4 (sb.trans st4) σ4 er4, fun ρ4 s4 ⟨m', hm, q4⟩ st4 σ4 er4 => ⟨m', hm, ρ4, s4, rfl, er4, sb.trans st4, q4⟩⟩, px.step sb⟩
    obtain ⟨b, b1, b2, b3, b4⟩ := p.rt
    exact ⟨b, b1.trans sb, b2, b3, b4⟩
  | false =>
    rw [if_neg Bool.false_ne_true] at q1 ⊢
    exact p.nx ρ' s1 q1 (st'.trans st1) σ' (er'.step st1 ok1)

/-! ### list comprehensions -/
def wipeD (ρ : DEnv) : List Nat → DEnv
  | [] => ρ
  | v :: vs => (wipeD ρ vs).set v none
theorem ER.wipe {K : PySem.W.Frag} {s : Sta} {σ : L2.St} {ρ : DEnv} (er : ER K s σ ρ) : ∀ vs : List Nat, ER K s (wipe σ vs) (wipeD ρ vs)
  | [] => er
  | v :: vs => (er.wipe vs).unset v
/-- the turns of a comprehension; I: what holds ahead of each turn of the list made so far -/
inductive LcK (g : DG) (θ : DT) (ε : DE) (vs : List Nat) (ρ : DEnv) (ds : List D) (M0 : Mm) (k : DK) : Prop where
  | of (hl : ds.length < sizeLine) (I : Nat → List D → Mm → Prop) (i0 : I 0 [] M0)
      (turn : ∀ (j : Nat) (d : D) (acc : List D) (M : Mm), ds[j]? = some d → I j acc M → g d (wipeD ρ vs) M fun ρ1 M2 => θ ρ1 M2 (fun b M3 => if b = true then ε ρ1 M3 (fun y M4 => I (j + 1) (acc ++ [y]) M4) (fun _ _ _ => False) else I (j + 1) acc M3) (fun _ _ _ => False))
      (fin : ∀ acc M, I ds.length acc M → k (.lst acc) M)
  | no (h : False)
def dLc (ι : DI) (g : DG) (θ : DT) (ε : DE) (vs : List Nat) : DE := fun ρ M k x => ι ρ M (fun ds M1 => LcK g θ ε vs ρ ds M1 k) x
def DPTs (X : Cx) (E : XK) (ifs : List Expr) (θ : DT) : Prop := PTs X ifs (upT X.K E θ)
def dYes : DT := fun _ M k _ => k true M
theorem ts_nil : DPTs X E [] dYes := ⟨fun pins s σ H Q I h => by
  obtain ⟨ρ, s0, k, x, rfl, er, q, p, px⟩ := h
  exact pts_nil.run pins s σ s0.H Q I (p true s0 q (Step.refl s0) er.ok)⟩
theorem ts_one {θ : DT} (h : DPT X E c θ) : DPTs X E [c] θ := pts_one h
/-- a target, over values and over data; the slots of vs alone are set -/
structure GPair (K : PySem.W.Frag) (g : TG) (γ : DG) (vs : List Nat) : Prop where
  run : ∀ (v : V) (d : D) (σ : L2.St) (ρ : DEnv) (s : Sta) (k : DEnv → Mm → Prop) (Q : L2.St → Hp → Prop), ER K s σ ρ → Rep K s.G v d → γ d ρ s.M k →
    (∀ ρ' σ', k ρ' s.M → ER K s σ' ρ' → wipe σ' vs = wipe σ vs → Q σ' s.H) → g v σ s.H Q
structure GsPair (K : PySem.W.Frag) (g : TGs) (γ : DGs) (vs : List Nat) : Prop where
  run : ∀ (v : List V) (d : List D) (σ : L2.St) (ρ : DEnv) (s : Sta) (k : DEnv → Mm → Prop) (Q : L2.St → Hp → Prop), ER K s σ ρ → Reps K s.G v d → γ d ρ s.M k →
    (∀ ρ' σ', k ρ' s.M → ER K s σ' ρ' → wipe σ' vs = wipe σ vs → Q σ' s.H) → g v σ s.H Q
theorem wipe_set (σ : L2.St) (i : Nat) (v : Option V) : ∀ vs : List Nat, i ∈ vs → wipe (σ.set i v) vs = wipe σ vs
  | [], h => by cases h
  | j :: vs, h => by
    unfold wipe
    by_cases e : i ∈ vs
    · rw [wipe_set σ i v vs e]
    · have hj : i = j := by
        rcases List.mem_cons.mp h with z | z
        · exact z
        · exact absurd z e
      subst hj
      have key : ∀ us : List Nat, i ∉ us → wipe (σ.set i v) us = (wipe σ us).set i v := by
        intro us
        induction us with
        | nil => intro _; rfl
        | cons u us ih =>
          intro hn
          unfold wipe
          rw [ih (fun z => hn (List.mem_cons_of_mem _ z))]
          exact List.set_comm _ _ (fun z => hn (by rw [z]; exact List.mem_cons_self))
      rw [key vs e, List.set_set]
theorem wipe_wipe (σ : L2.St) : ∀ vs : List Nat, wipe (wipe σ vs) vs = wipe σ vs := by
  have h : ∀ (us vs : List Nat), (∀ u ∈ us, u ∈ vs) → wipe (wipe σ us) vs = wipe σ vs := by
    intro us
    induction us with
    | nil => intro vs _; rfl
    | cons u us ih =>
      intro vs hs
      show wipe ((wipe σ us).set u none) vs = wipe σ vs
      rw [wipe_set _ _ _ _ (hs u List.mem_cons_self)]
      exact ih vs fun z hz => hs z (List.mem_cons_of_mem _ hz)
  exact fun vs => h vs vs fun _ z => z
theorem gp_name {K : PySem.W.Frag} {i : Nat} {vs : List Nat} (h : i ∈ vs) : GPair K (gName i) (gN i) vs :=
  ⟨fun v d σ ρ s k Q er r q f => f _ _ q (er.set i r) (wipe_set σ i _ vs h)⟩
theorem gps_nil {K : PySem.W.Frag} {vs : List Nat} : GsPair K gNil gsNil vs :=
  ⟨fun v d σ ρ s k Q er r q f => by
    obtain ⟨rfl, q⟩ := q
    cases r
    exact ⟨rfl, f _ _ q er rfl⟩⟩
theorem gps_cons {K : PySem.W.Frag} {vs : List Nat} {g : TG} {γ : DG} {gs : TGs} {γs : DGs} (h : GPair K g γ vs) (hs : GsPair K gs γs vs) : GsPair K (gCons g gs) (gsCons γ γs) vs :=
  ⟨fun v d σ ρ s k Q er r q f => by
    obtain ⟨d1, dr, rfl, q⟩ := q
    cases r with
    | cons rv rs =>
      exact ⟨_, _, rfl, h.run _ d1 σ ρ s _ _ er rv q fun ρ' σ' q' er' w' => hs.run _ dr σ' ρ' s k Q er' rs q' fun ρ2 σ2 q2 er2 w2 => f ρ2 σ2 q2 er2 (w2.trans w')⟩⟩
theorem gp_tup {K : PySem.W.Frag} {vs : List Nat} {n : Nat} {gs : TGs} {γs : DGs} (hs : GsPair K gs γs vs) : GPair K (gTup K n gs) (gTupD n γs) vs :=
  ⟨fun v d σ ρ s k Q er r q f => by
    obtain ⟨ds, rfl, hl, q⟩ := q
    obtain ⟨a, us, rfl, ha, rs⟩ := r.tup_of
    exact ⟨a, us, rfl, SqT.of (er.ok.sub _ _ ha), by rw [rs.length]; exact hl, hs.run _ ds σ ρ s k Q er rs q f⟩⟩

theorem up_lc {K : PySem.W.Frag} {ι : DI} {g : TG} {γ : DG} {θ : DT} {ε : DE} {vs : List Nat} {σ : L2.St} {H : Hp} {Q : VK} (gp : GPair K g γ vs) (h : up K E (dLc ι γ θ ε vs) σ H Q) : tLc (upI K E ι) g (upT K E0 θ) (up K E0 ε) vs σ H Q := by
  obtain ⟨ρ, s, k, x, rfl, er, q, p, px⟩ := h
  refine ⟨ρ, s, _, x, rfl, er, q, px, fun ds s1 q1 st1 ok1 J it => ?_⟩
  rcases q1 with ⟨hlen, I, i0, turn, fin⟩ | z
  case no => exact z.elim
  intro L hL
  -- the list at L is hidden while it grows
  have inv0 : ∃ (acc : List D) (vs' : List V) (s' : Sta), s'.H = upd s1.H L (.lst []) ∧ Ok K s' ∧ Step s1 s' ∧ s'.G L = none ∧ s'.M L = none ∧ s'.H L = some (.lst vs') ∧ Reps K s'.G vs' acc ∧ acc.length ≤ 0 ∧ I 0 acc s'.M := by
    obtain ⟨k1, st⟩ := ok1.hide (o := .lst []) (Step.refl s1) hL (ok1.freeG hL) (ok1.freeM hL)
    exact ⟨[], [], ⟨_, _, _⟩, rfl, k1, st, ok1.freeG hL, ok1.freeM hL, upd_same, .nil, Nat.le_refl _, i0⟩
  refine ⟨fun j m H' => m = ds.length - j ∧ j ≤ ds.length ∧ ∃ (acc : List D) (vs' : List V) (s' : Sta), s'.H = H' ∧ Ok K s' ∧ Step s1 s' ∧ s'.G L = none ∧ s'.M L = none ∧ s'.H L = some (.lst vs') ∧ Reps K s'.G vs' acc ∧ acc.length ≤ j ∧ I j acc s'.M,
    ⟨ds.length, rfl, Nat.zero_le _, inv0⟩, ?_⟩
  rintro j m H' ⟨rfl, hj, acc, vs', s', rfl, ok', st', gL, mL, hL', rs, hal, ij⟩
  by_cases hlt : j < ds.length
  · refine .inr ⟨it.go j s' st' ok' hlt, fun H2 => ∃ (acc : List D) (vs' : List V) (s' : Sta), s'.H = H2 ∧ Ok K s' ∧ Step s1 s' ∧ s'.G L = none ∧ s'.M L = none ∧ s'.H L = some (.lst vs') ∧ Reps K s'.G vs' acc ∧ acc.length ≤ j + 1 ∧ I (j + 1) acc s'.M,
      fun H2 z => ⟨ds.length - (j + 1), by omega, rfl, hlt, z⟩, fun v H2 y => ?_⟩
    obtain ⟨d, hd⟩ : ∃ d, ds[j]? = some d := ⟨ds[j], by simp [hlt]⟩
    obtain ⟨u, rfl, eM, stu, oku, ru⟩ := it.yld j s' v H2 st' ok' y d hd
    have ij' : I j acc u.M := by rw [eM]; exact ij
    obtain ⟨hLu, gLu, mLu⟩ := stu.hid L _ hL' gL mL
    have eru : ER K u (wipe σ vs) (wipeD ρ vs) := (er.step ((st1.trans st').trans stu) oku).wipe vs
    refine gp.run v d _ _ u _ _ eru ru (turn j d acc u.M hd ij') fun ρ3 σ3 q3 er3 w3 => ⟨w3.trans (wipe_wipe σ vs), ?_⟩
    refine ⟨ρ3, u, _, _, rfl, er3, q3, fun b s4 q4 st4 ok4 => ?_, PostX.never⟩
    obtain ⟨hL4, gL4, mL4⟩ := st4.hid L _ hLu gLu mLu
    cases b with
    | true =>
      rw [if_pos rfl] at q4 ⊢
      refine ⟨ρ3, s4, _, _, rfl, er3.step st4 ok4, q4, fun yd s5 q5 st5 ok5 yv ry => ?_, PostX.never⟩
      obtain ⟨hL5, gL5, mL5⟩ := st5.hid L _ hL4 gL4 mL4
      have rs5 : Reps K s5.G vs' acc := rs.same ((stu.trans st4).trans st5).same
      refine ⟨vs', hL5, by rw [rs5.length]; omega, ?_⟩
      obtain ⟨k6, st6⟩ := ok5.hide (o := .lst (vs' ++ [yv])) (((st'.trans stu).trans st4).trans st5) hL gL5 mL5
      exact ⟨acc ++ [yd], vs' ++ [yv], ⟨_, _, _⟩, rfl, k6, st6, gL5, mL5, upd_same, rs5.append (.cons ry .nil), by simp; omega, q5⟩
    | false =>
      rw [if_neg Bool.false_ne_true] at q4 ⊢
      exact ⟨acc, vs', s4, rfl, ok4, (st'.trans stu).trans st4, gL4, mL4, hL4, rs.same (stu.trans st4).same, by omega, q4⟩
  · have ej : j = ds.length := by omega
    subst ej
    refine .inl ⟨it.stop s' st' ok', ?_⟩
    obtain ⟨k6, st6, sm⟩ := ok'.shown st' hL gL mL hL'
    exact p _ ⟨s'.H, upd s'.G L (.lst vs'), s'.M⟩ (fin acc s'.M ij) (st1.trans st6) k6 _ (.lst upd_same (rs.same sm))
variable {elt : Expr} {ifs : List Expr} {scope : Scope} {own : List (Str × Nat)} {ι : DI} {g : TG} {γ : DG} {θ : DT} {ε : DE}
theorem d_lc (hc : X.calm = true) (hN : X.N.Nodup) (hi : DPI X E tg iter ι) (ok : BlkOk X.N X.env.scope scope own) (gp : GPair X.K g γ (own.map (·.2)))
    (hg : ∀ (s : Shared) (H : Hp) (C : Addr) (cl : List (Str × Addr)) (fp : List Addr), PG (X.blk s H scope (compEnvC scope cl C X.env) fp) tg g) (ht : ∀ (s : Shared) (H : Hp) (C : Addr) (cl : List (Str × Addr)) (fp : List Addr), DPTs (X.blk s H scope (compEnvC scope cl C X.env) fp) E0 ifs θ)
    (he : ∀ (s : Shared) (H : Hp) (C : Addr) (cl : List (Str × Addr)) (fp : List Addr), DP (X.blk s H scope (compEnvC scope cl C X.env) fp) E0 elt ε) (hs : ∀ x, foldedSetIterable iter X.env x = pure x := by intro _; rfl) :
    DP X E (.ListComp elt [⟨tg, iter, ifs, 0⟩] scope pos) (dLc ι γ θ ε (own.map (·.2))) := pe_mono (pe_lc (tt := upT X.K E0 θ) (te := up X.K E0 ε) hc hN hi ok hg ht he hs) fun _ _ _ h => up_lc gp h
theorem s_setLc {i : Nat} {y : Str} {py spos : Pos} (hc : X.calm = true) (hN : X.N.Nodup) (hy : X.N[i]? = some y) (hyl : X.env.scope.names.lookup y = some .local)
    (hsw : swapsWith (.ListComp elt [⟨tg, iter, ifs, 0⟩] scope pos) (some (.Name y py)) spos.line X.env = pure true) (hi : DPI X E tg iter ι) (ok : BlkOk X.N X.env.scope scope own) (gp : GPair X.K g γ (own.map (·.2)))
    (hg : ∀ (s : Shared) (H : Hp) (C : Addr) (cl : List (Str × Addr)) (fp : List Addr), PG (X.blk s H scope (compEnvC scope cl C X.env) fp) tg g) (ht : ∀ (s : Shared) (H : Hp) (C : Addr) (cl : List (Str × Addr)) (fp : List Addr), DPTs (X.blk s H scope (compEnvC scope cl C X.env) fp) E0 ifs θ)
    (he : ∀ (s : Shared) (H : Hp) (C : Addr) (cl : List (Str × Addr)) (fp : List Addr), DP (X.blk s H scope (compEnvC scope cl C X.env) fp) E0 elt ε) (hs : ∀ x, foldedSetIterable iter X.env x = pure x := by intro _; rfl) :
    DPS X E (.Assign [.Name y py] (.ListComp elt [⟨tg, iter, ifs, 0⟩] scope pos) spos) (dSet i (dLc ι γ θ ε (own.map (·.2)))) := ps_mono (ps_setLc (tt := upT X.K E0 θ) (te := up X.K E0 ε) hc hN hy hyl hsw hi ok hg ht he hs) fun D σ H h => by
  obtain ⟨ρ, s, k, x, rfl, er, q, p, px⟩ := h
  refine up_lc gp ⟨ρ, s, _, x, rfl, er, q, fun u s1 q1 st1 ok1 v1 r1 => p.nx _ s1 q1 st1 _ ((er.step st1 ok1).set i r1), px⟩
end
end DL
set_option Elab.async false
set_option linter.all false
set_option maxRecDepth 100000
set_option maxHeartbeats 2000000
namespace DL
open PySem PySem.Spec PyProof.Rows L2

/-! ### promises over data -/
abbrev Ct := List D → Mm → DK → DX → Prop
def spD (K : PySem.W.Frag) (n : Nat) (φ : Ct) : Sp := fun vs H Q E => ∃ s ds k x, s.H = H ∧ Ok K s ∧ Reps K s.G vs ds ∧ ds.length = n ∧ φ ds s.M k x ∧ Post K s k Q ∧ PostX K E s x
theorem spD_len {K : PySem.W.Frag} {n : Nat} {φ : Ct} {vs : List V} {H : Hp} {Q : VK} {E : XK} (h : spD K n φ vs H Q E) : vs.length = n := by
  obtain ⟨s, ds, k, x, _, _, r, hl, _⟩ := h
  rw [r.length]
  exact hl
theorem spD_imp {K : PySem.W.Frag} {n : Nat} {φ ψ : Ct} (h : ∀ ds M k x, φ ds M k x → ψ ds M k x) {vs : List V} {H : Hp} {Q : VK} {E : XK} (q : spD K n φ vs H Q E) : spD K n ψ vs H Q E := by
  obtain ⟨s, ds, k, x, e, o, r, hl, f, p, px⟩ := q
  exact ⟨s, ds, k, x, e, o, r, hl, h _ _ _ _ f, p, px⟩
def startD (N : List Str) (ds : List D) : DEnv := ds.map some ++ List.replicate (N.length - ds.length) none
theorem er_start {K : PySem.W.Frag} {s : Sta} {N : List Str} {vs : List V} {ds : List D} (o : Ok K s) (r : Reps K s.G vs ds) : ER K s (L2.start N vs) (startD N ds) := by
  have hl := r.length
  refine ⟨o, by simp [L2.start, startD, hl], fun i d h => ?_⟩
  unfold startD at h
  by_cases hi : i < ds.length
  · rw [List.getElem?_append_left (by simpa using hi), List.getElem?_map] at h
    cases e : ds[i]? with
    | none => rw [e] at h; cases h
    | some d' =>
      rw [e] at h
      have h' : d' = d := by simpa using h
      subst h'
      obtain ⟨v, hv, rv⟩ := r.get e
      refine ⟨v, ?_, rv⟩
      unfold L2.start
      rw [List.getElem?_append_left (by simpa [hl] using hi), List.getElem?_map, hv]
      rfl
  · rw [List.getElem?_append_right (by simpa using hi)] at h
    rw [List.getElem?_replicate] at h
    split at h <;> cases h
/-- what a def lets out is what its context takes -/
theorem pass_own {X : Cx} {E : XK} {E₁ : Value → Shared → Prop} (hs : X.stack = X.env :: X.outer) (hf : X.env.frame = some X.env.locals) (hex : X.ex = [])
    (hx : X.xe = fun e s' => wpAny (model X.prog X.w) X.A (leaving X.env e) (fun _ s'' => L2.CX X.prog X.w X.outer X.H_0 X.s_0 E e s'') E₁ s') : Passes (L2.CX X.prog X.w) X E :=
  passes_call (takes_of hs hf hex hx) fun _ _ _ _ h => h
section
variable {P : Program} {w : World} {K : PySem.W.Frag} {mg : Str → Option Value} {base : Heap}
/-- THE RULE for a def -/
theorem fn_D {x qual : Str} {params : Arguments} {body : List Stmt} {scope : Scope} {dvs : List V} {kws : List (Str × V)} {f : Addr} {fd : FuncData} {N ps : List Str} {k n : Nat} {φ : Ct} (F : FunD K x qual params body scope dvs kws f fd) (S : FnScope N ps scope) (hn : n = ps.length)
    (h : ∀ (cdv : Value) (A : Around) (outer : List Env) (s : Shared) (H : Hp) (E : XK), Room k (A.deeper (envOfC qual scope s.heap.objs.size f cdv)) →
      Passes (L2.CX P w) (cxOf (L2.CX P w) P w K mg base N qual scope f cdv A outer s H E) E → PassesOwn (model P w) (cxOf (L2.CX P w) P w K mg base N qual scope f cdv A outer s H E).A (cxOf (L2.CX P w) P w K mg base N qual scope f cdv A outer s H E).env (cxOf (L2.CX P w) P w K mg base N qual scope f cdv A outer s H E).xe →
      ∃ τ, DPB (cxOf (L2.CX P w) P w K mg base N qual scope f cdv A outer s H E) E body τ ∧
        ∀ (ds : List D) (M : Mm) (kk : DK) (x : DX), ds.length = n → φ ds M kk x → τ { nx := fun _ M => kk .non M, rt := kk, m0 := M } x (startD N ds) M) : FnOk P w K mg base (L2.CX P w) (k + 1) f fd ps (spD K n φ) := by
  refine F.ok (CX := L2.CX P w) S (fun vs H Q E q => by rw [spD_len q, hn]) fun cdv A outer s H vs Q E hr q => ?_
  obtain ⟨τ, ht, hq⟩ := h cdv A outer s H E hr (pass_own rfl rfl rfl rfl) (passes_of rfl)
  refine ⟨_, ht, ?_⟩
  obtain ⟨s0, ds, kk, xx, rfl, o, r, hl, f, p, px⟩ := q
  exact ⟨_, s0, _, xx, rfl, er_start o r, hq ds s0.M kk xx hl f, ⟨fun ρ t q st σ er => p _ t q st er.ok _ .non, ⟨s0, Step.refl s0, o, rfl, p⟩, fun _ _ z => z.elim, fun _ _ z => z.elim⟩, px⟩
end

/-! ### calls -/
section
variable {X : Cx} {CX : CXT} {E : XK} {k n : Nat} {f C : Addr} {fd : FuncData} {ps ks : List Str} {φ : Ct} {x m : Str} {p pos apos : Pos} {e o : Expr} {es : List Expr} {kws : List Keyword} {αa ακ : DA} {τo τv : DE} {g : List Value → List Value → List Value} {gV : List V → List V → List V} {gD : List D → List D → List D}
/-- how arguments bind, over data: n positional values, keywords named ks -/
structure KBd (K : PySem.W.Frag) (fd : FuncData) (ps : List Str) (n : Nat) (ks : List Str) (gD : List D → List D → List D) : Prop where
  ex : ∃ (g : List Value → List Value → List Value) (gV : List V → List V → List V), KBn K fd ps n ks g gV ∧ ∀ {G : Hp} {vs : List V} {us : List D} {zs : List V} {ws : List D}, Reps K G vs us → Reps K G zs ws → us.length = n → ws.length = ks.length → Reps K G (gV vs zs) (gD us ws)
def DPK (X : Cx) (E : XK) (kws : List Keyword) (τ : DA) : Prop := PK X kws (upA X.K E τ)
theorem pk_mono {t t' : TA} (h : PK X kws t) (m : ∀ σ H Q, t' σ H Q → t σ H Q) : PK X kws t' := ⟨fun p pins s σ H Q I q => h.run p pins s σ H Q I (m σ H Q q)⟩
theorem k_nil : DPK X E [] dNil := pk_mono pk_nil fun σ H Q h => by
  obtain ⟨ρ, s, k, x, rfl, er, q, p, px⟩ := h
  exact p [] s q (Step.refl s) er.ok [] .nil
theorem k_cons {nm : Option Str} {kpos : Pos} (ha : DP X E e τo) (hr : DPK X E kws αa) : DPK X E (⟨nm, e, kpos⟩ :: kws) (dCons τo αa) := pk_mono (pk_cons ha hr) fun σ H Q h => by
  obtain ⟨ρ, s, k, x, rfl, er, q, p, px⟩ := h
  refine ⟨ρ, s, _, x, rfl, er, q, fun u s1 q1 st1 ok1 v1 r1 => ?_, px⟩
  refine ⟨ρ, s1, _, x, rfl, er.step st1 ok1, q1, fun us s2 q2 st2 ok2 vs r2 => ?_, px.step st1⟩
  exact p _ s2 q2 (st1.trans st2) ok2 _ (.cons (r1.same st2.same) r2)
theorem run_D {nn : Nat} {pins : List (Addr × Obj)} {σ : L2.St} {H : Hp} {s : Shared} {Q : VK} {us ws : List Value} {vs zs : List V} (F : FnOk X.prog X.w X.K X.mg X.base CX k f fd ps (spD X.K nn φ)) (hr : Room k X.A) (hb : KBd X.K fd ps n ks gD) (hx : Passes CX X E)
    (I : Inv X pins σ H s) (r : Vals vs us) (rz : Vals zs ws) (h : ∃ s ds zd k x, s.H = H ∧ Ok X.K s ∧ Reps X.K s.G vs ds ∧ Reps X.K s.G zs zd ∧ ds.length = n ∧ zd.length = ks.length ∧ (gD ds zd).length = nn ∧ φ (gD ds zd) s.M k x ∧ Post X.K s k Q ∧ PostX X.K E s x) :
    wpAny (model X.prog X.w) X.A (call (.ref f) us (ks.zip ws)) (EP X pins σ Q) X.xe s := by
  obtain ⟨s0, ds, zd, kk, xx, rfl, o, r1, r2, l1, l2, ln, q, p, px⟩ := h
  obtain ⟨g, gV, hb, hrep⟩ := hb.ex
  have rr := hb.rel r rz
  have e1 : us.length = n := r.length.symm.trans (r1.length.trans l1)
  have e2 : ws.length = ks.length := rz.length.symm.trans (r2.length.trans l2)
  have hs : spD X.K nn φ (gV vs zs) s0.H Q E := ⟨s0, gD ds zd, kk, xx, rfl, o, hrep r1 r2 l1 l2, ln, q, p, px⟩
  refine wpAny_call (codeAny_mono (F.run X.A X.stack s s0.H ⟨us, ks.zip ws⟩ (g us ws) (gV vs zs) Q E hr I.env0 (hb.to s us ws I.kIn e1 e2) rr hs) fun r s' hq => ?_)
  cases r with
  | error e => exact hx pins σ s0.H s e s' I hq
  | ok fl =>
    cases fl with
    | ret u => exact I.after hq
    | next => exact False.elim hq
    | brk => exact False.elim hq
    | cont => exact False.elim hq
def dCall (n : Nat) (φ : Ct) (gD : List D → List D → List D) (α : DA) : DE := fun ρ M k x => α ρ M (fun ds M1 => ds.length = n ∧ φ (gD ds []) M1 k x) x
def dCallK (n m : Nat) (φ : Ct) (gD : List D → List D → List D) (α κ : DA) : DE := fun ρ M k x => α ρ M (fun ds M1 => κ ρ M1 (fun zs M2 => ds.length = n ∧ zs.length = m ∧ φ (gD ds zs) M2 k x) x) x
variable {nn : Nat} (hgl : ∀ us ws : List D, us.length = n → ws.length = ks.length → (gD us ws).length = nn)
theorem d_call (F : FnOk X.prog X.w X.K X.mg X.base CX k f fd ps (spD X.K nn φ)) (hr : Room k X.A) (hg : Gl X x) (hm : X.mg x = some (.ref f)) (hk : PySem.W.keepIn X.K (.ref f) = true) (hb : KBd X.K fd ps n [] gD) (hgl : ∀ us ws : List D, us.length = n → ws.length = 0 → (gD us ws).length = nn) (hx : Passes CX X E)
    (ha : DPA X E (e :: es) αa) (hdb : (x == ("__debug__" : Str)) = false := by decide) (he : starEach (e :: es) X.env = (false, eval e X.env) :: starEach es X.env := by rfl) (hpl : (backTo pos (starEach es X.env)).any (·.1) = false := by rfl) :
    DP X E (.Call (.Name x p) (e :: es) [] pos) (dCall n φ gD αa) := by
  refine ⟨fun pins s σ H Q I h => ?_⟩
  obtain ⟨ρ, s0, kk, xx, rfl, er, q, pp, px⟩ := h
  refine wpAny_Call_Name_kw (ld_glob I hg hm ?_ hdb)
  refine PySem.W.callWith_K (h₀ := X.base) I.ok.mod.kin hk (thn (ha.run pos pins s σ s0.H (fun vs H1 => ∃ s1 ds, s1.H = H1 ∧ Ok X.K s1 ∧ Step s0 s1 ∧ Reps X.K s1.G vs ds ∧ ds.length = n ∧ φ (gD ds []) s1.M kk xx) I ⟨ρ, s0, _, xx, rfl, er, q, fun ds s1 q1 st1 ok1 vs r1 => ⟨s1, ds, rfl, ok1, st1, r1, q1⟩, px⟩) fun us s1 ⟨vs, H1, I1, r, s2, ds, e2, ok2, st2, r2, l2, q2⟩ => ⟨I1.kIn, ?_⟩) he hpl
  subst e2
  exact run_D (ws := []) (zs := []) F hr hb hx I1 r .nil ⟨s2, ds, [], kk, xx, rfl, ok2, r2, .nil, l2, rfl, hgl _ _ l2 rfl, q2, pp.step st2, px.step st2⟩
theorem d_call0 (F : FnOk X.prog X.w X.K X.mg X.base CX k f fd ps (spD X.K nn φ)) (hr : Room k X.A) (hg : Gl X x) (hm : X.mg x = some (.ref f)) (hk : PySem.W.keepIn X.K (.ref f) = true) (hb : KBd X.K fd ps 0 [] gD) (hgl : (gD [] []).length = nn) (hx : Passes CX X E) (hdb : (x == ("__debug__" : Str)) = false := by decide) :
    DP X E (.Call (.Name x p) [] [] pos) (dCall 0 φ gD dNil) := by
  refine ⟨fun pins s σ H Q I h => ?_⟩
  obtain ⟨ρ, s0, kk, xx, rfl, er, ⟨_, q⟩, pp, px⟩ := h
  refine wpAny_Call_Name_kw (ld_glob I hg hm ?_ hdb)
  exact PySem.W.callWith_K0 I.kIn hk (run_D (us := []) (vs := []) (ws := []) (zs := []) F hr hb hx I .nil .nil ⟨s0, [], [], kk, xx, rfl, er.ok, .nil, .nil, rfl, rfl, hgl, q, pp, px⟩)
theorem d_callK (F : FnOk X.prog X.w X.K X.mg X.base CX k f fd ps (spD X.K nn φ)) (hr : Room k X.A) (hg : Gl X x) (hm : X.mg x = some (.ref f)) (hk : PySem.W.keepIn X.K (.ref f) = true) (hb : KBd X.K fd ps n ks gD) (hgl : ∀ us ws : List D, us.length = n → ws.length = ks.length → (gD us ws).length = nn) (hx : Passes CX X E)
    (ha : DPA X E (e :: es) αa) (hkw : DPK X E kws ακ) (hall : (backToKw pos (keywordEach kws X.env)).all (·.1.isSome) = true := by rfl) (hks : (backToKw pos (keywordEach kws X.env)).filterMap (·.1) = ks := by rfl)
    (hdb : (x == ("__debug__" : Str)) = false := by decide) (he : starEach (e :: es) X.env = (false, eval e X.env) :: starEach es X.env := by rfl)
    (hpl : ((backTo pos (starEach (e :: es) X.env)).any (·.1) || (backToKw pos (keywordEach kws X.env)).any (·.1.isNone)) = false := by rfl) :
    DP X E (.Call (.Name x p) (e :: es) kws pos) (dCallK n ks.length φ gD αa ακ) := by
  refine ⟨fun pins s σ H Q I h => ?_⟩
  obtain ⟨ρ, s0, kk, xx, rfl, er, q, pp, px⟩ := h
  refine wpAny_Call_Name_kw (ld_glob I hg hm ?_ hdb)
  refine PySem.W.callWith_KW (h₀ := X.base) I.ok.mod.kin hk hall (thn (ha.run pos pins s σ s0.H (fun vs H1 => ∃ s1 ds, s1.H = H1 ∧ Ok X.K s1 ∧ Step s0 s1 ∧ Reps X.K s1.G vs ds ∧ ακ ρ s1.M (fun zs M2 => ds.length = n ∧ zs.length = ks.length ∧ φ (gD ds zs) M2 kk xx) xx) I ⟨ρ, s0, _, xx, rfl, er, q, fun ds s1 q1 st1 ok1 vs r1 => ⟨s1, ds, rfl, ok1, st1, r1, q1⟩, px⟩) fun us s1 ⟨vs, H1, I1, r, s2, ds, e2, ok2, st2, r2, q2⟩ => ?_) hpl he
  subst e2
  refine thn (hkw.run pos pins s1 σ s2.H (fun zs H2 => ∃ s3 zd, s3.H = H2 ∧ Ok X.K s3 ∧ Step s2 s3 ∧ Reps X.K s3.G zs zd ∧ ds.length = n ∧ zd.length = ks.length ∧ φ (gD ds zd) s3.M kk xx) I1 ⟨ρ, s2, _, xx, rfl, er.step st2 ok2, q2, fun zd s3 q3 st3 ok3 zs r3 => ⟨s3, zd, rfl, ok3, st3, r3, q3⟩, px.step st2⟩) fun ws s3 ⟨zs, H2, I2, rz, s4, zd, e4, ok4, st4, r4, l4, l5, q4⟩ => ⟨I2.kIn, ?_⟩
  subst e4
  rw [hks]
  exact run_D F hr hb hx I2 r rz ⟨s4, ds, zd, kk, xx, rfl, ok4, r2.same st4.same, r4, l4, l5, hgl _ _ l4 l5, q4, pp.step (st2.trans st4), px.step (st2.trans st4)⟩
theorem d_callK0 (F : FnOk X.prog X.w X.K X.mg X.base CX k f fd ps (spD X.K nn φ)) (hr : Room k X.A) (hg : Gl X x) (hm : X.mg x = some (.ref f)) (hk : PySem.W.keepIn X.K (.ref f) = true) (hb : KBd X.K fd ps 0 ks gD) (hgl : ∀ ws : List D, ws.length = ks.length → (gD [] ws).length = nn) (hx : Passes CX X E)
    (hkw : DPK X E kws ακ) (hall : (backToKw pos (keywordEach kws X.env)).all (·.1.isSome) = true := by rfl) (hks : (backToKw pos (keywordEach kws X.env)).filterMap (·.1) = ks := by rfl)
    (hdb : (x == ("__debug__" : Str)) = false := by decide) (hpl : ((backTo pos (starEach [] X.env)).any (·.1) || (backToKw pos (keywordEach kws X.env)).any (·.1.isNone)) = false := by rfl) :
    DP X E (.Call (.Name x p) [] kws pos) (dCallK 0 ks.length φ gD dNil ακ) := by
  refine ⟨fun pins s σ H Q I h => ?_⟩
  obtain ⟨ρ, s0, kk, xx, rfl, er, q, pp, px⟩ := h
  refine wpAny_Call_Name_kw (ld_glob I hg hm ?_ hdb)
  refine PySem.W.callWith_KW0 (h₀ := X.base) I.ok.mod.kin hk hall ?_ hpl
  refine thn (hkw.run pos pins s σ s0.H (fun zs H2 => ∃ s3 zd, s3.H = H2 ∧ Ok X.K s3 ∧ Step s0 s3 ∧ Reps X.K s3.G zs zd ∧ 0 = 0 ∧ zd.length = ks.length ∧ φ (gD [] zd) s3.M kk xx) I ⟨ρ, s0, _, xx, rfl, er, q, fun zd s3 q3 st3 ok3 zs r3 => ⟨s3, zd, rfl, ok3, st3, r3, q3⟩, px⟩) fun ws s3 ⟨zs, H2, I2, rz, s4, zd, e4, ok4, st4, r4, l4, l5, q4⟩ => ⟨I2.kIn, ?_⟩
  subst e4
  rw [hks]
  exact run_D (us := []) (vs := []) F hr hb hx I2 .nil rz ⟨s4, [], zd, kk, xx, rfl, ok4, .nil, r4, rfl, l5, hgl _ l5, q4, pp.step st4, px.step st4⟩
end
/-- every parameter is written, in order -/
theorem kbd_plain {K : PySem.W.Frag} {fd : FuncData} {ps : List Str} {n : Nat} (hn : n = ps.length) (h : ∀ us : List Value, us.length = ps.length → bindArgs fd ⟨us, []⟩ = pure (ps.zip us)) : KBd K fd ps n [] (fun us _ => us) :=
  ⟨⟨fun us _ => us, fun vs _ => vs, ⟨fun s us ws _ l1 l2 => by
    have e : ws = [] := List.eq_nil_of_length_eq_zero l2
    subst e
    exact .of_eq (h us (l1.trans hn)), fun r _ => r⟩, fun r _ _ _ => r⟩⟩
/-- keywords: what stands at the i-th place comes from the positional ones (inl) or the keywords (inr) -/
def pickA {α : Type} (us ws : List α) : List (Sum Nat Nat) → List α
  | [] => []
  | .inl i :: r => (match us[i]? with | some u => [u] | none => []) ++ pickA us ws r
  | .inr j :: r => (match ws[j]? with | some u => [u] | none => []) ++ pickA us ws r
theorem pickA_vals {vs zs : List V} {us ws : List Value} (r : Vals vs us) (rz : Vals zs ws) : ∀ l, Vals (pickA vs zs l) (pickA us ws l)
  | [] => .nil
  | .inl i :: l => by
    refine Vals.append ?_ (pickA_vals r rz l)
    cases e : vs[i]? with
    | none => rw [r.none_of e]; exact .nil
    | some v => obtain ⟨u, h1, h2⟩ := r.get e; rw [h1]; exact .cons h2 .nil
  | .inr i :: l => by
    refine Vals.append ?_ (pickA_vals r rz l)
    cases e : zs[i]? with
    | none => rw [rz.none_of e]; exact .nil
    | some v => obtain ⟨u, h1, h2⟩ := rz.get e; rw [h1]; exact .cons h2 .nil
theorem Reps.noneD {K : PySem.W.Frag} {G : Hp} {vs : List V} {ds : List D} {i : Nat} (r : Reps K G vs ds) (e : vs[i]? = none) : ds[i]? = none := by
  have h1 := r.length
  have h2 : vs.length ≤ i := List.getElem?_eq_none_iff.mp e
  exact List.getElem?_eq_none_iff.mpr (by omega)
theorem pickA_reps {K : PySem.W.Frag} {G : Hp} {vs zs : List V} {us ws : List D} (r : Reps K G vs us) (rz : Reps K G zs ws) : ∀ l, Reps K G (pickA vs zs l) (pickA us ws l)
  | [] => .nil
  | .inl i :: l => by
    refine Reps.append ?_ (pickA_reps r rz l)
    cases e : vs[i]? with
    | none => rw [r.noneD e]; exact .nil
    | some v => obtain ⟨u, h1, h2⟩ := r.getV e; rw [h1]; exact .cons h2 .nil
  | .inr i :: l => by
    refine Reps.append ?_ (pickA_reps r rz l)
    cases e : zs[i]? with
    | none => rw [rz.noneD e]; exact .nil
    | some v => obtain ⟨u, h1, h2⟩ := rz.getV e; rw [h1]; exact .cons h2 .nil
theorem kbd_kw {K : PySem.W.Frag} {fd : FuncData} {ps ks : List Str} {n : Nat} (l : List (Sum Nat Nat)) (h : ∀ us ws : List Value, us.length = n → ws.length = ks.length → bindArgs fd ⟨us, ks.zip ws⟩ = pure (ps.zip (pickA us ws l))) : KBd K fd ps n ks (fun us ws => pickA us ws l) :=
  ⟨⟨fun us ws => pickA us ws l, fun vs zs => pickA vs zs l, ⟨fun s us ws _ l1 l2 => .of_eq (h us ws l1 l2), fun r rz => pickA_vals r rz l⟩, fun r rz _ _ => pickA_reps r rz l⟩⟩
end DL
set_option Elab.async false
set_option linter.all false
set_option maxRecDepth 100000
set_option maxHeartbeats 2000000
namespace DL
open PySem PySem.Spec PyProof.Rows L2
section
variable {X : Cx} {E : XK} {e a b c : Expr} {pos : Pos} {τa τb τc : DE} {αa : DA} {es : List Expr}

/-! ### arithmetic -/
def dAdd : D2
  | .int i, .int j, M, k, _ => k (.int (i + j)) M
  | .str i, .str j, M, k, _ => i.length + j.length ≤ sizeLine ∧ k (.str (i ++ j)) M
  | .lst i, .lst j, M, k, _ => i.length + j.length ≤ sizeLine ∧ k (.lst (i ++ j)) M
  | .tup i, .tup j, M, k, _ => i.length + j.length ≤ sizeLine ∧ k (.tup (i ++ j)) M
  | _, _, _, _, _ => False
theorem o_add : OpR X (binaryOp .Add) (r2 X.K E dAdd) := by
  intro pins s σ H x y u v Q I rx ry h
  obtain ⟨s0, dx, dy, k, xx, rfl, ok, hx, hy, q, p, px⟩ := h
  unfold dAdd at q
  split at q
  · cases hx; cases hy
    exact op_add pins s σ _ _ _ u v Q I rx ry ⟨_, _, rfl, rfl, p.now q ok .int⟩
  · cases hx; cases hy
    exact op_add_str pins s σ _ _ _ u v Q I rx ry ⟨_, _, rfl, rfl, q.1, p.now q.2 ok .str⟩
  · obtain ⟨l, vs, rfl, hl, r1⟩ := hx.lst_of
    obtain ⟨m, us, rfl, hm, r2⟩ := hy.lst_of
    exact op_cat pins s σ _ _ _ u v Q I rx ry ⟨l, m, vs, us, rfl, rfl, ok.sub _ _ hl, ok.sub _ _ hm, by rw [r1.length, r2.length]; exact q.1, fun t ht => p.lst q.2 ok (r1.append r2) ht⟩
  · obtain ⟨l, vs, rfl, hl, r1⟩ := hx.tup_of
    obtain ⟨m, us, rfl, hm, r2⟩ := hy.tup_of
    refine op_catA pins s σ _ _ _ u v Q I rx ry ⟨l, m, vs, us, rfl, rfl, SqT.of (ok.sub _ _ hl), SqT.of (ok.sub _ _ hm), by rw [r1.length, r2.length]; exact q.1, fun e => ?_, fun _ e => ?_, fun _ _ t ht => p.tup q.2 ok (r1.append r2) ht⟩
    · subst e
      cases r1
      exact p.now q.2 ok (.tup hm r2)
    · subst e
      cases r2
      have q2 := q.2
      rw [List.append_nil] at q2
      exact p.now q2 ok (.tup hl r1)
  · exact q.elim
def dI2 (g : Int → Int → D) : D2
  | .int i, .int j, M, k, _ => k (g i j) M
  | _, _, _, _, _ => False
def dI2c (C : Int → Int → Prop) (g : Int → Int → D) : D2
  | .int i, .int j, M, k, _ => C i j ∧ k (g i j) M
  | _, _, _, _, _ => False
theorem o_sub : OpR X (binaryOp .Sub) (r2 X.K E (dI2 fun i j => .int (i - j))) := by
  intro pins s σ H x y u v Q I rx ry h
  obtain ⟨s0, dx, dy, k, xx, rfl, ok, hx, hy, q, p, px⟩ := h
  unfold dI2 at q
  split at q
  · cases hx; cases hy
    exact op_sub pins s σ _ _ _ u v Q I rx ry ⟨_, _, rfl, rfl, p.now q ok .int⟩
  · exact q.elim
/-- one factor below 2 ^ 64, or both together below a million bits -/
def MulOk (i j : Int) : Prop := CMul i j ∨ CMulW i j
theorem o_mul : OpR X (binaryOp .Mult) (r2 X.K E (dI2c MulOk fun i j => .int (i * j))) := by
  intro pins s σ H x y u v Q I rx ry h
  obtain ⟨s0, dx, dy, k, xx, rfl, ok, hx, hy, q, p, px⟩ := h
  unfold dI2c at q
  split at q
  · cases hx; cases hy
    rcases q.1 with c | c
    · exact op_mul pins s σ _ _ _ u v Q I rx ry ⟨_, _, rfl, rfl, c, p.now q.2 ok .int⟩
    · exact op_mulW pins s σ _ _ _ u v Q I rx ry ⟨_, _, rfl, rfl, c, p.now q.2 ok .int⟩
  · exact q.elim
def DivOk (_ j : Int) : Prop := j ≠ 0 ∧ j.natAbs.log2 < 9000
theorem o_fdiv : OpR X (binaryOp .FloorDiv) (r2 X.K E (dI2c DivOk fun i j => .int (i.fdiv j))) := by
  intro pins s σ H x y u v Q I rx ry h
  obtain ⟨s0, dx, dy, k, xx, rfl, ok, hx, hy, q, p, px⟩ := h
  unfold dI2c at q
  split at q
  · cases hx; cases hy
    have op : OpR X (binaryOp .FloorDiv) (rI DivOk fun i j => .int (i.fdiv j)) := opI fun _ _ _ _ _ _ _ hc q => floordiv_int hc.1 q (.inl (PyProof.noPylong_of_log2 hc.2))
    exact op pins s σ _ _ _ u v Q I rx ry ⟨_, _, rfl, rfl, q.1, p.now q.2 ok .int⟩
  · exact q.elim
theorem o_mod : OpR X (binaryOp .Mod) (r2 X.K E (dI2c (fun _ j => j ≠ 0) fun i j => .int (i.fmod j))) := by
  intro pins s σ H x y u v Q I rx ry h
  obtain ⟨s0, dx, dy, k, xx, rfl, ok, hx, hy, q, p, px⟩ := h
  unfold dI2c at q
  split at q
  · cases hx; cases hy
    exact op_modN pins s σ _ _ _ u v Q I rx ry ⟨_, _, rfl, rfl, q.1, p.now q.2 ok .int⟩
  · exact q.elim
theorem o_pow : OpR X (binaryOp .Pow) (r2 X.K E (dI2c CPow fun i j => .int (i ^ j.toNat))) := by
  intro pins s σ H x y u v Q I rx ry h
  obtain ⟨s0, dx, dy, k, xx, rfl, ok, hx, hy, q, p, px⟩ := h
  unfold dI2c at q
  split at q
  · cases hx; cases hy
    exact op_pow pins s σ _ _ _ u v Q I rx ry ⟨_, _, rfl, rfl, q.1, p.now q.2 ok .int⟩
  · exact q.elim
def dNeg : D1
  | .int i, M, k, _ => k (.int (-i)) M
  | _, _, _, _ => False
theorem o_neg : UnR X (unaryOp .USub) (r1 X.K E dNeg) := by
  intro pins s σ H x u Q I rx h
  obtain ⟨s0, dx, k, xx, rfl, ok, hx, q, p, px⟩ := h
  unfold dNeg at q
  split at q
  · cases hx
    exact un_neg pins s σ _ _ u Q I rx ⟨_, rfl, p.now q ok .int⟩
  · exact q.elim

/-! ### comparisons -/
theorem o_lt : OpR X (compareOp .Lt) (r2 X.K E (dI2 fun i j => .bl (decide (i < j)))) := by
  intro pins s σ H x y u v Q I rx ry h
  obtain ⟨s0, dx, dy, k, xx, rfl, ok, hx, hy, q, p, px⟩ := h
  unfold dI2 at q
  split at q
  · cases hx; cases hy
    exact op_lt pins s σ _ _ _ u v Q I rx ry ⟨_, _, rfl, rfl, p.now q ok .bl⟩
  · exact q.elim
theorem o_le : OpR X (compareOp .LtE) (r2 X.K E (dI2 fun i j => .bl (decide (i ≤ j)))) := by
  intro pins s σ H x y u v Q I rx ry h
  obtain ⟨s0, dx, dy, k, xx, rfl, ok, hx, hy, q, p, px⟩ := h
  unfold dI2 at q
  split at q
  · cases hx; cases hy
    exact op_le pins s σ _ _ _ u v Q I rx ry ⟨_, _, rfl, rfl, p.now q ok .bl⟩
  · exact q.elim
theorem o_gt : OpR X (compareOp .Gt) (r2 X.K E (dI2 fun i j => .bl (decide (j < i)))) := by
  intro pins s σ H x y u v Q I rx ry h
  obtain ⟨s0, dx, dy, k, xx, rfl, ok, hx, hy, q, p, px⟩ := h
  unfold dI2 at q
  split at q
  · cases hx; cases hy
    exact op_gt pins s σ _ _ _ u v Q I rx ry ⟨_, _, rfl, rfl, p.now q ok .bl⟩
  · exact q.elim
theorem o_ge : OpR X (compareOp .GtE) (r2 X.K E (dI2 fun i j => .bl (decide (j ≤ i)))) := by
  intro pins s σ H x y u v Q I rx ry h
  obtain ⟨s0, dx, dy, k, xx, rfl, ok, hx, hy, q, p, px⟩ := h
  unfold dI2 at q
  split at q
  · cases hx; cases hy
    exact op_ge pins s σ _ _ _ u v Q I rx ry ⟨_, _, rfl, rfl, p.now q ok .bl⟩
  · exact q.elim
/-- a < b < c -/
theorem d_chain {op op' : CmpOp} {f g : D2} (ho : OpR X (compareOp op) (r2 X.K E f)) (ho' : OpR X (compareOp op') (r2 X.K E g)) (ha : DP X E a τa) (hb : DP X E b τb) (hc : DP X E c τc) (hm : lastMarks [op, op'] [b, c] = false := by with_unfolding_all rfl) :
    DP X E (.Compare a [op, op'] [b, c] pos) (dChain f g τa τb τc) := pe_mono (pe_chain ho ho' ha hb hc hm) fun σ H Q h => by
  obtain ⟨ρ, s, k, x, rfl, er, q, p, px⟩ := h
  refine ⟨ρ, s, _, x, rfl, er, q, fun u s1 q1 st1 ok1 v1 r1 => ?_, px⟩
  refine ⟨ρ, s1, _, x, rfl, er.step st1 ok1, q1, fun w s2 q2 st2 ok2 v2 r2 => ?_, px.step st1⟩
  refine ⟨s2, u, w, _, x, rfl, ok2, r1.same st2.same, r2, q2, fun z s3 q3 st3 ok3 v3 r3 => ?_, px.step (st1.trans st2)⟩
  obtain ⟨c, rfl, q3⟩ := q3
  refine ⟨c, r3.bl_of, ?_⟩
  have st : Step s s3 := (st1.trans st2).trans st3
  cases c with
  | true =>
    rw [if_pos rfl] at q3 ⊢
    refine ⟨ρ, s3, _, x, rfl, er.step st ok3, q3, fun z s4 q4 st4 ok4 v4 r4 => ?_, px.step st⟩
    exact ⟨s4, w, z, k, x, rfl, ok4, r2.same (st3.trans st4).same, r4, q4, p.step (st.trans st4), px.step (st.trans st4)⟩
  | false =>
    rw [if_neg Bool.false_ne_true] at q3 ⊢
    exact p _ s3 q3 st ok3 _ .bl
theorem t_chain {op op' : CmpOp} {f g : D2} (ho : OpR X (compareOp op) (r2 X.K E f)) (ho' : OpR X (compareOp op') (r2 X.K E g)) (ha : DP X E a τa) (hb : DP X E b τb) (hc : DP X E c τc) (hm : lastMarks [op, op'] [b, c] = false := by with_unfolding_all rfl) :
    DPT X E (.Compare a [op, op'] [b, c] pos) (dB (dChain f g τa τb τc)) := pt_mono (pt_chain ho ho' ha hb hc hm) fun σ H Q h => by
  have h' := upT_B h
  obtain ⟨ρ, s, k, x, rfl, er, q, p, px⟩ := h'
  refine ⟨ρ, s, _, x, rfl, er, q, fun u s1 q1 st1 ok1 v1 r1 => ?_, px⟩
  refine ⟨ρ, s1, _, x, rfl, er.step st1 ok1, q1, fun w s2 q2 st2 ok2 v2 r2 => ?_, px.step st1⟩
  refine ⟨s2, u, w, _, x, rfl, ok2, r1.same st2.same, r2, q2, fun z s3 q3 st3 ok3 v3 r3 => ?_, px.step (st1.trans st2)⟩
  obtain ⟨c, rfl, q3⟩ := q3
  refine ⟨c, r3.bl_of, ?_⟩
  have st : Step s s3 := (st1.trans st2).trans st3
  cases c with
  | true =>
    rw [if_pos rfl] at q3 ⊢
    refine ⟨ρ, s3, _, x, rfl, er.step st ok3, q3, fun z s4 q4 st4 ok4 v4 r4 => ?_, px.step st⟩
    exact ⟨s4, w, z, k, x, rfl, ok4, r2.same (st3.trans st4).same, r4, q4, p.step (st.trans st4), px.step (st.trans st4)⟩
  | false =>
    rw [if_neg Bool.false_ne_true] at q3 ⊢
    exact p _ s3 q3 st ok3 _ .bl

/-! ### == -/
mutual
def toP : D → Option PyData
  | .non => some .none
  | .bl b => some (.bool b)
  | .int i => some (.int i)
  | .str x => some (.str x)
  | .lst ds => (toPs ds).map .list
  | .tup ds => (toPs ds).map .tuple
  | _ => none
def toPs : List D → Option (List PyData)
  | [] => some []
  | d :: ds => match toP d, toPs ds with
    | some p, some ps => some (p :: ps)
    | _, _ => none
end
mutual
theorem dp_of {K : PySem.W.Frag} {G : Hp} : ∀ {v : V} {d : D} {p : PyData}, Rep K G v d → toP d = some p → Dp K G v p
  | _, .non, p, h, e => by cases h; simp [toP] at e; subst e; exact .non
  | _, .bl b, p, h, e => by cases h; simp [toP] at e; subst e; exact .bl b
  | _, .int b, p, h, e => by cases h; simp [toP] at e; subst e; exact .int b
  | _, .str b, p, h, e => by cases h; simp [toP] at e; subst e; exact .str b
  | _, .lst ds, p, h, e => by
    obtain ⟨a, vs, rfl, ha, r⟩ := h.lst_of
    simp only [toP, Option.map_eq_some_iff] at e
    obtain ⟨ps, e1, rfl⟩ := e
    exact .lst (SqL.of ha) (dps_of r e1)
  | _, .tup ds, p, h, e => by
    obtain ⟨a, vs, rfl, ha, r⟩ := h.tup_of
    simp only [toP, Option.map_eq_some_iff] at e
    obtain ⟨ps, e1, rfl⟩ := e
    exact .tup (SqT.of ha) (dps_of r e1)
  | _, .obj _ _, p, h, e => by simp [toP] at e
  | _, .cel _, p, h, e => by simp [toP] at e
  | _, .scr _, p, h, e => by simp [toP] at e
theorem dps_of {K : PySem.W.Frag} {G : Hp} : ∀ {vs : List V} {ds : List D} {ps : List PyData}, Reps K G vs ds → toPs ds = some ps → DpAll K G vs ps
  | _, [], ps, h, e => by cases h; simp [toPs] at e; subst e; exact .nil
  | _, d :: ds, ps, h, e => by
    cases h with
    | cons h1 h2 =>
      simp only [toPs] at e
      split at e
      · rename_i p ps' e1 e2
        cases e
        exact .cons (dp_of h1 e1) (dps_of h2 e2)
      · cases e
end
mutual
theorem Dp.same {K : PySem.W.Frag} {G G' : Hp} (s : Same G G') : ∀ {v : V} {p : PyData}, Dp K G v p → Dp K G' v p
  | _, _, .non => .non
  | _, _, .bl b => .bl b
  | _, _, .int b => .int b
  | _, _, .str b => .str b
  | _, _, .lst h r => .lst (Same.seq s h) (DpAll.same s r)
  | _, _, .tup h r => .tup (Same.seqT s h) (DpAll.same s r)
theorem DpAll.same {K : PySem.W.Frag} {G G' : Hp} (s : Same G G') : ∀ {v : List V} {p : List PyData}, DpAll K G v p → DpAll K G' v p
  | _, _, .nil => .nil
  | _, _, .cons h r => .cons (Dp.same s h) (DpAll.same s r)
end
/-- flat data -/
def flatD : D → Bool
  | .non => true
  | .bl _ => true
  | .int _ => true
  | .str _ => true
  | _ => false
def toV : D → V
  | .non => .non
  | .bl b => .bl b
  | .int i => .int i
  | .str x => .str x
  | _ => .non
theorem Rep.flat {K : PySem.W.Frag} {G : Hp} {v : V} {d : D} (h : Rep K G v d) (f : flatD d = true) : v = toV d ∧ flatV v = true := by
  cases h <;> first | exact ⟨rfl, rfl⟩ | cases f
/-- == of pure data -/
inductive EqD : D → D → Bool → Prop where
  | py {x y : D} {p q : PyData} (h1 : toP x = some p) (h2 : toP y = some q) (h3 : SeqAt.shaped p = true) (h4 : SeqAt.shaped q = true) : EqD x y (PyData.eqv p q)
  | sc {x y : D} (h1 : flatD x = true) (h2 : flatD y = true) (h3 : scal (toV x) (toV y) = true) : EqD x y (decide (toV x = toV y))
inductive EqK (x y : D) (M : Mm) (k : DK) : Prop where
  | of {r : Bool} (h : EqD x y r) (q : k (.bl r) M)
  | no (h : False)
inductive NeK (x y : D) (M : Mm) (k : DK) : Prop where
  | of {r : Bool} (h : EqD x y r) (q : k (.bl (!r)) M)
  | no (h : False)
def dEq : D2 := fun x y M k _ => EqK x y M k
def dNe : D2 := fun x y M k _ => NeK x y M k
theorem o_eq (hu : X.A.units + 64 < cLine) : OpR X (compareOp .Eq) (r2 X.K E dEq) := by
  intro pins s σ H x y u v Q I rx ry h
  obtain ⟨s0, dx, dy, k, xx, rfl, ok, hx, hy, qq, p, px⟩ := h
  rcases qq with ⟨q, q2⟩ | z
  case no => exact z.elim
  cases q with
  | py h1 h2 h3 h4 => exact op_eqD hu pins s σ _ _ _ u v Q I rx ry ⟨_, _, Dp.same ok.sub (dp_of hx h1), Dp.same ok.sub (dp_of hy h2), h3, h4, p.now q2 ok .bl⟩
  | sc h1 h2 h3 =>
    obtain ⟨rfl, _⟩ := hx.flat h1
    obtain ⟨rfl, _⟩ := hy.flat h2
    exact op_eq pins s σ _ _ _ u v Q I rx ry ⟨h3, p.now q2 ok .bl⟩
theorem o_ne (hu : X.A.units + 64 < cLine) : OpR X (compareOp .NotEq) (r2 X.K E dNe) := by
  intro pins s σ H x y u v Q I rx ry h
  obtain ⟨s0, dx, dy, k, xx, rfl, ok, hx, hy, qq, p, px⟩ := h
  rcases qq with ⟨q, q2⟩ | z
  case no => exact z.elim
  cases q with
  | py h1 h2 h3 h4 => exact op_neD hu pins s σ _ _ _ u v Q I rx ry ⟨_, _, Dp.same ok.sub (dp_of hx h1), Dp.same ok.sub (dp_of hy h2), h3, h4, p.now q2 ok .bl⟩
  | sc h1 h2 h3 =>
    obtain ⟨rfl, _⟩ := hx.flat h1
    obtain ⟨rfl, _⟩ := hy.flat h2
    exact op_ne pins s σ _ _ _ u v Q I rx ry ⟨h3, p.now q2 ok .bl⟩

/-! ### in, is None -/
def eqF (x y : D) : Bool := eqV (toV x) (toV y)
def inD (x : D) (xs : List D) : Bool := xs.any fun y => eqF y x
theorem inV_of {K : PySem.W.Frag} {G : Hp} {v : V} {x : D} (h : v = toV x) : ∀ {vs : List V} {xs : List D}, Reps K G vs xs → xs.all flatD = true → inV v vs = inD x xs ∧ vs.all flatV = true
  | _, _, .nil, _ => ⟨rfl, rfl⟩
  | _, _, .cons r rs, f => by
    simp only [List.all_cons, Bool.and_eq_true] at f
    obtain ⟨e1, e2⟩ := r.flat f.1
    obtain ⟨e3, e4⟩ := inV_of h rs f.2
    refine ⟨?_, by simp only [List.all_cons, e2, e4, Bool.and_self]⟩
    unfold inV inD at *
    simp only [List.any_cons]
    rw [e3]
    unfold eqF
    rw [e1, h]
/-- in a text: one sign; in a list or tuple: flat data -/
def dIn (neg : Bool) : D2
  | .str x, .str z, M, k, _ => ∃ c : Nat, x = ⟨#[c]⟩ ∧ k (.bl (if neg then !decide (c ∈ z.cps.toList) else decide (c ∈ z.cps.toList))) M
  | x, .lst xs, M, k, _ => flatD x = true ∧ xs.all flatD = true ∧ k (.bl (if neg then !inD x xs else inD x xs)) M
  | x, .tup xs, M, k, _ => flatD x = true ∧ xs.all flatD = true ∧ k (.bl (if neg then !inD x xs else inD x xs)) M
  | _, _, _, _, _ => False
theorem o_in : OpR X (compareOp .In) (r2 X.K E (dIn false)) := by
  intro pins s σ H x y u v Q I rx ry h
  obtain ⟨s0, dx, dy, k, xx, rfl, ok, hx, hy, q, p, px⟩ := h
  unfold dIn at q
  split at q
  · obtain ⟨c, rfl, q⟩ := q
    cases hx; cases hy
    exact op_in_sign pins s σ _ _ _ u v Q I rx ry ⟨c, _, rfl, rfl, p.now q ok .bl⟩
  · obtain ⟨l, vs, rfl, hl, r1⟩ := hy.lst_of
    obtain ⟨e1, e2⟩ := hx.flat q.1
    obtain ⟨e3, e4⟩ := inV_of e1 r1 q.2.1
    refine op_in_seq pins s σ _ _ _ u v Q I rx ry ⟨l, vs, rfl, .inl (SqL.of (ok.sub _ _ hl)), e2, e4, ?_⟩
    rw [e3]
    exact p.now q.2.2 ok .bl
  · obtain ⟨l, vs, rfl, hl, r1⟩ := hy.tup_of
    obtain ⟨e1, e2⟩ := hx.flat q.1
    obtain ⟨e3, e4⟩ := inV_of e1 r1 q.2.1
    refine op_in_seq pins s σ _ _ _ u v Q I rx ry ⟨l, vs, rfl, .inr (SqT.of (ok.sub _ _ hl)), e2, e4, ?_⟩
    rw [e3]
    exact p.now q.2.2 ok .bl
  · exact q.elim
theorem o_notIn : OpR X (compareOp .NotIn) (r2 X.K E (dIn true)) := by
  intro pins s σ H x y u v Q I rx ry h
  obtain ⟨s0, dx, dy, k, xx, rfl, ok, hx, hy, q, p, px⟩ := h
  unfold dIn at q
  split at q
  · obtain ⟨c, rfl, q⟩ := q
    cases hx; cases hy
    exact op_notIn_sign pins s σ _ _ _ u v Q I rx ry ⟨c, _, rfl, rfl, p.now q ok .bl⟩
  · obtain ⟨l, vs, rfl, hl, r1⟩ := hy.lst_of
    obtain ⟨e1, e2⟩ := hx.flat q.1
    obtain ⟨e3, e4⟩ := inV_of e1 r1 q.2.1
    refine op_notIn_seq pins s σ _ _ _ u v Q I rx ry ⟨l, vs, rfl, .inl (SqL.of (ok.sub _ _ hl)), e2, e4, ?_⟩
    rw [e3]
    exact p.now q.2.2 ok .bl
  · obtain ⟨l, vs, rfl, hl, r1⟩ := hy.tup_of
    obtain ⟨e1, e2⟩ := hx.flat q.1
    obtain ⟨e3, e4⟩ := inV_of e1 r1 q.2.1
    refine op_notIn_seq pins s σ _ _ _ u v Q I rx ry ⟨l, vs, rfl, .inr (SqT.of (ok.sub _ _ hl)), e2, e4, ?_⟩
    rw [e3]
    exact p.now q.2.2 ok .bl
  · exact q.elim
def isNon : D → Bool
  | .non => true
  | _ => false
theorem Rep.isNon {K : PySem.W.Frag} {G : Hp} {v : V} {d : D} (h : Rep K G v d) : decide (v = .non) = DL.isNon d := by
  cases h <;> first | rfl | exact decide_eq_false (fun z => nomatch z)
def dIsN (neg : Bool) : D2 := fun x y M k _ => y = .non ∧ k (.bl (if neg then !isNon x else isNon x)) M
theorem o_isN : OpR X (compareOp .Is) (r2 X.K E (dIsN false)) := by
  intro pins s σ H x y u v Q I rx ry h
  obtain ⟨s0, dx, dy, k, xx, rfl, ok, hx, hy, ⟨rfl, q⟩, p, px⟩ := h
  refine op_isN pins s σ _ _ _ u v Q I rx ry ⟨hy.non_of, ?_⟩
  rw [hx.isNon]
  exact p.now q ok .bl
theorem o_isNotN : OpR X (compareOp .IsNot) (r2 X.K E (dIsN true)) := by
  intro pins s σ H x y u v Q I rx ry h
  obtain ⟨s0, dx, dy, k, xx, rfl, ok, hx, hy, ⟨rfl, q⟩, p, px⟩ := h
  refine op_notN pins s σ _ _ _ u v Q I rx ry ⟨hy.non_of, ?_⟩
  rw [hx.isNon]
  exact p.now q ok .bl

/-! ### items, slices, stores -/
theorem atI_reps {K : PySem.W.Frag} {G : Hp} {vs : List V} {ds : List D} {i : Int} {d : D} (r : Reps K G vs ds) (h : atI ds i = some d) : ∃ v, atI vs i = some v ∧ Rep K G v d := by
  unfold atI at h ⊢
  rw [r.length]
  cases e : ixN ds.length i with
  | none => rw [e] at h; cases h
  | some j =>
    rw [e] at h
    exact r.get h
def dIx : D2
  | .lst ds, .int i, M, k, _ => ∃ d, atI ds i = some d ∧ k d M
  | .tup ds, .int i, M, k, _ => ∃ d, atI ds i = some d ∧ k d M
  | .str z, .int i, M, k, _ => z.length ≤ sizeLine ∧ ∃ c, atI z.cps.toList i = some c ∧ k (.str ⟨#[c]⟩) M
  | .cel a, .int i, M, k, _ => ∃ ds, M a = some (.lst ds) ∧ ∃ d, atI ds i = some d ∧ k d M
  | _, _, _, _, _ => False
theorem x_ix : IxR X (r2 X.K E dIx) := by
  intro value slice pins s σ H x y u v Q I rx ry h hsub
  obtain ⟨s0, dx, dy, k, xx, rfl, ok, hx, hy, q, p, px⟩ := h
  unfold dIx at q
  split at q
  · cases hy
    obtain ⟨l, vs, rfl, hl, r1⟩ := hx.lst_of
    obtain ⟨d, hd, q⟩ := q
    obtain ⟨w, hw, rw'⟩ := atI_reps r1 hd
    exact ix_list value slice pins s σ _ _ _ u v Q I rx ry ⟨l, vs, _, w, rfl, rfl, SqL.of (ok.sub _ _ hl), hw, p.now q ok rw'⟩ hsub
  · cases hy
    obtain ⟨l, vs, rfl, hl, r1⟩ := hx.tup_of
    obtain ⟨d, hd, q⟩ := q
    obtain ⟨w, hw, rw'⟩ := atI_reps r1 hd
    exact ix_tup value slice pins s σ _ _ _ u v Q I rx ry ⟨l, vs, _, w, rfl, rfl, SqT.of (ok.sub _ _ hl), hw, p.now q ok rw'⟩ hsub
  · cases hy; cases hx
    obtain ⟨hz, c, hc, q⟩ := q
    exact ix_str value slice pins s σ _ _ _ u v Q I rx ry ⟨_, _, c, rfl, rfl, hz, hc, p.now q ok .str⟩ hsub
  · cases hy; cases hx
    obtain ⟨ds, hm, d, hd, q⟩ := q
    obtain ⟨vs, e, r1⟩ := ok.cells _ _ hm
    obtain ⟨w, hw, rw'⟩ := atI_reps r1 hd
    exact ix_list value slice pins s σ _ _ _ u v Q I rx ry ⟨_, vs, _, w, rfl, rfl, SqL.of e, hw, p.now q ok rw'⟩ hsub
  · exact q.elim
theorem d_ix {f : D2} (hr : IxR X (r2 X.K E f)) (ha : DP X E a τa) (hb : DP X E b τb) (hs : PlainIx b) : DP X E (.Subscript a b pos) (dOp f τa τb) := pe_mono (pe_ix hr ha hb hs) fun _ _ _ h => up_op h
abbrev DO := DEnv → Mm → (Option Int → Mm → Prop) → DX → Prop
def upO (K : PySem.W.Frag) (E : XK) (τ : DO) : TO := fun σ H Q => ∃ ρ s k x, s.H = H ∧ ER K s σ ρ ∧ τ ρ s.M k x ∧ (∀ o (t : Sta), k o t.M → Step s t → Ok K t → Q o t.H) ∧ PostX K E s x
def DPO (X : Cx) (E : XK) (e : Option Expr) (τ : DO) : Prop := PO X e (upO X.K E τ)
theorem po_mono {e : Option Expr} {t t' : TO} (h : PO X e t) (m : ∀ σ H Q, t' σ H Q → t σ H Q) : PO X e t' := ⟨fun pins s σ H Q I q => h.run pins s σ H Q I (m σ H Q q)⟩
def dNoPart : DO := fun _ M k _ => k none M
def dPart (τ : DE) : DO := fun ρ M k x => τ ρ M (fun u M1 => ∃ i, u = .int i ∧ k (some i) M1) x
theorem o_none : DPO X E none dNoPart := po_mono po_none fun σ H Q h => by
  obtain ⟨ρ, s, k, x, rfl, er, q, p, px⟩ := h
  exact p none s q (Step.refl s) er.ok
theorem o_some (h : DP X E e τa) : DPO X E (some e) (dPart τa) := po_mono (po_some h) fun σ H Q h => by
  obtain ⟨ρ, s, k, x, rfl, er, q, p, px⟩ := h
  refine ⟨ρ, s, _, x, rfl, er, q, fun u s1 q1 st1 ok1 v1 r1 => ?_, px⟩
  obtain ⟨i, rfl, q1⟩ := q1
  exact ⟨i, r1.int_of, p _ s1 q1 st1 ok1⟩
abbrev DSl := D → Option Int → Option Int → Mm → DK → Prop
def rSlD (K : PySem.W.Frag) (E : XK) (f : DSl) : V → Option Int → Option Int → Hp → VK → Prop := fun x lo hi H Q => ∃ s dx k, s.H = H ∧ Ok K s ∧ Rep K s.G x dx ∧ f dx lo hi s.M k ∧ Post K s k Q
def dSl (f : DSl) (τ : DE) (τl τh : DO) : DE := fun ρ M k x => τ ρ M (fun u M1 => τl ρ M1 (fun lo M2 => τh ρ M2 (fun hi M3 => f u lo hi M3 k) x) x) x
theorem d_slice {f : DSl} {τl τh : DO} {lo hi : Option Expr} {p2 : Pos} (hr : SlR X (rSlD X.K E f)) (he : DP X E e τa) (hl : DPO X E lo τl) (hu : DPO X E hi τh) : DP X E (.Subscript e (.Slice lo hi none p2) pos) (dSl f τa τl τh) := pe_mono (pe_slice hr he hl hu) fun σ H Q h => by
  obtain ⟨ρ, s, k, x, rfl, er, q, p, px⟩ := h
  refine ⟨ρ, s, _, x, rfl, er, q, fun u s1 q1 st1 ok1 v1 r1 => ?_, px⟩
  refine ⟨ρ, s1, _, x, rfl, er.step st1 ok1, q1, fun lo s2 q2 st2 ok2 => ?_, px.step st1⟩
  refine ⟨ρ, s2, _, x, rfl, er.step (st1.trans st2) ok2, q2, fun hi s3 q3 st3 ok3 => ?_, px.step (st1.trans st2)⟩
  exact ⟨s3, u, k, rfl, ok3, r1.same (st2.trans st3).same, q3, p.step ((st1.trans st2).trans st3)⟩
def cutD {α : Type} (xs : List α) (lo hi : Option Int) : List α := (xs.drop (HT.sIx xs.length 0 lo)).take (HT.sIx xs.length xs.length hi - HT.sIx xs.length 0 lo)
theorem cut_reps {K : PySem.W.Frag} {G : Hp} {vs : List V} {ds : List D} (r : Reps K G vs ds) (lo hi : Option Int) : Reps K G (cutV vs lo hi) (cutD ds lo hi) := by
  unfold cutV cutD
  rw [r.length]
  exact (r.drop _).take _
def dCut : DSl
  | .lst ds, lo, hi, M, k => k (.lst (cutD ds lo hi)) M
  | .tup ds, lo, hi, M, k => k (.tup (cutD ds lo hi)) M
  | .str z, lo, hi, M, k => z.length ≤ sizeLine ∧ k (.str (cutS z lo hi)) M
  | .scr ns, lo, hi, M, k => k (.lst ((cutD ns lo hi).map .int)) M
  | _, _, _, _, _ => False
theorem cutD_map {α β : Type} (f : α → β) (xs : List α) (lo hi : Option Int) : cutD (xs.map f) lo hi = (cutD xs lo hi).map f := by
  unfold cutD
  rw [List.length_map, List.map_take, List.map_drop]
theorem cutV_map {α : Type} (f : α → V) (xs : List α) (lo hi : Option Int) : cutV (xs.map f) lo hi = (cutD xs lo hi).map f := by
  unfold cutV cutD
  rw [List.length_map, List.map_take, List.map_drop]
theorem cutD_whole {α : Type} {xs : List α} {lo hi : Option Int} (h : HT.sIx xs.length 0 lo = 0 ∧ HT.sIx xs.length xs.length hi = xs.length) : cutD xs lo hi = xs := by
  unfold cutD
  rw [h.1, h.2]
  simp
theorem sl_D : SlR X (rSlD X.K E dCut) := by
  intro pins s σ H x v vl vu lo hi sl Q I rx hs pl pu h
  obtain ⟨s0, dx, k, rfl, ok, hx, q, p⟩ := h
  unfold dCut at q
  split at q
  · obtain ⟨l, vs, rfl, hl, r1⟩ := hx.lst_of
    exact sl_list pins s σ _ _ v vl vu _ _ sl Q I rx hs pl pu ⟨l, vs, rfl, SqL.of (ok.sub _ _ hl), fun t ht => p.lst q ok (cut_reps r1 _ _) ht⟩
  · obtain ⟨l, vs, rfl, hl, r1⟩ := hx.tup_of
    refine sl_tupA pins s σ _ _ v vl vu _ _ sl Q I rx hs pl pu ⟨l, vs, rfl, SqT.of (ok.sub _ _ hl), fun hw => ?_, fun _ t ht => p.tup q ok (cut_reps r1 _ _) ht⟩
    rw [r1.length] at hw
    rw [cutD_whole hw] at q
    exact p.now q ok (.tup hl r1)
  · cases hx
    exact sl_str pins s σ _ _ v vl vu _ _ sl Q I rx hs pl pu ⟨_, rfl, q.1, p.now q.2 ok .str⟩
  · cases hx with
    | scr hl =>
      refine sl_list pins s σ _ _ v vl vu _ _ sl Q I rx hs pl pu ⟨_, _, rfl, Same.seqL ok.sub hl, fun t ht => ?_⟩
      rw [cutV_map]
      exact p.lst q ok (Reps.ints _) ht
  · exact q.elim
/-- o[i] = v of a changing list -/
def dSetIx (τo τi τv : DE) : DS := fun k x ρ M => τv ρ M (fun v M1 => τo ρ M1 (fun o M2 => τi ρ M2 (fun i M3 => ∃ a ds n j, o = .cel a ∧ i = .int n ∧ M3 a = some (.lst ds) ∧ ixN ds.length n = some j ∧ k.nx ρ (mup M3 a (.lst (ds.set j v)))) x) x) x
theorem s_setIx {o i v : Expr} {τo τi τv : DE} {pos' : Pos} (hv : DP X E v τv) (ho : DP X E o τo) (hi : DP X E i τi) (hs : swapsWithSole [.Subscript o i pos'] v pos.line X.env = pure false := by rfl) (hw : swappedStores [.Subscript o i pos'] v X.env = pure none := by rfl)
    (h1 : (assignEach [.Subscript o i pos'] X.env).map (·.2) = [assign (.Subscript o i pos') X.env] := by rfl)
    (hasg : ∀ v, assign (.Subscript o i pos') X.env v = (do
      let ov ← holding [v] (eval o X.env)
      let iv ← holding [v, ov] (eval i X.env)
      standAt pos'
      holding [v, ov, iv] (setItem ov iv v)
      release [v, ov, iv] []) := by intro _; rfl) :
    DPS X E (.Assign [.Subscript o i pos'] v pos) (dSetIx τo τi τv) := ps_mono (ps_asg hv (pg_sub ho hi set_list hasg) hs hw h1) fun D σ H h => by
  obtain ⟨ρ, s, k, x, rfl, er, q, p, px⟩ := h
  refine ⟨ρ, s, _, x, rfl, er, q, fun u s1 q1 st1 ok1 v1 r1 => ?_, px⟩
  refine ⟨ρ, s1, _, x, rfl, er.step st1 ok1, q1, fun w s2 q2 st2 ok2 v2 r2 => ?_, px.step st1⟩
  refine ⟨ρ, s2, _, x, rfl, er.step (st1.trans st2) ok2, q2, fun z s3 q3 st3 ok3 v3 r3 => ?_, px.step (st1.trans st2)⟩
  obtain ⟨a, ds, n, j, rfl, rfl, hm, hj, q3⟩ := q3
  obtain ⟨vs, e, rs⟩ := ok3.cells _ _ hm
  have st : Step s s3 := (st1.trans st2).trans st3
  obtain ⟨k4, st4⟩ := ok3.put (p := a) (o := .lst (vs.set j v1)) (mo := .lst (ds.set j u)) (by rw [hm]; rfl) ⟨_, rfl, Reps.set (r1.same (st2.trans st3).same) j rs⟩
  exact ⟨a, vs, n, j, r2.cel_of, r3.int_of, e, by rw [rs.length]; exact hj, p.nx ρ ⟨_, _, _⟩ q3 (st.trans st4) σ (er.step (st.trans st4) k4)⟩

/-! ### built-ins -/
def dLen : DN
  | [.str z], M, k, _ => z.length ≤ sizeLine ∧ k (.int z.length) M
  | [.lst ds], M, k, _ => k (.int ds.length) M
  | [.tup ds], M, k, _ => k (.int ds.length) M
  | [.scr ns], M, k, _ => k (.int ns.length) M
  | [.cel a], M, k, _ => ∃ ds, M a = some (.lst ds) ∧ k (.int ds.length) M
  | _, _, _, _ => False
theorem c_len : CallR X (.builtin "len") (rA X.K E dLen) := by
  intro pins s σ H xs us Q I r h
  obtain ⟨s0, ds, k, xx, rfl, ok, hx, q, p, px⟩ := h
  unfold dLen at q
  split at q
  · obtain ⟨v, rfl, rv⟩ := hx.one
    cases rv
    exact call_len pins s σ _ _ us Q I r ⟨_, _, rfl, ⟨q.1, rfl⟩, p.now q.2 ok .int⟩
  · obtain ⟨v, rfl, rv⟩ := hx.one
    obtain ⟨l, vs, rfl, hl, r1⟩ := rv.lst_of
    refine call_len pins s σ _ _ us Q I r ⟨_, vs.length, rfl, .inl ⟨vs, SqL.of (ok.sub _ _ hl), rfl⟩, ?_⟩
    rw [r1.length]
    exact p.now q ok .int
  · obtain ⟨v, rfl, rv⟩ := hx.one
    obtain ⟨l, vs, rfl, hl, r1⟩ := rv.tup_of
    refine call_len pins s σ _ _ us Q I r ⟨_, vs.length, rfl, .inr ⟨vs, SqT.of (ok.sub _ _ hl), rfl⟩, ?_⟩
    rw [r1.length]
    exact p.now q ok .int
  · obtain ⟨v, rfl, rv⟩ := hx.one
    cases rv with
    | scr hl =>
      refine call_len pins s σ _ _ us Q I r ⟨_, _, rfl, .inl ⟨_, Same.seqL ok.sub hl, rfl⟩, ?_⟩
      rw [List.length_map]
      exact p.now q ok .int
  · obtain ⟨v, rfl, rv⟩ := hx.one
    cases rv
    obtain ⟨ds, hm, q⟩ := q
    obtain ⟨vs, e, r1⟩ := ok.cells _ _ hm
    refine call_len pins s σ _ _ us Q I r ⟨_, vs.length, rfl, .inl ⟨vs, SqL.of e, rfl⟩, ?_⟩
    rw [r1.length]
    exact p.now q ok .int
  · exact q.elim
def dAbs : DN
  | [.int i], M, k, _ => k (.int (if i < 0 then -i else i)) M
  | _, _, _, _ => False
theorem c_abs : CallR X (.builtin "abs") (rA X.K E dAbs) := by
  intro pins s σ H xs us Q I r h
  obtain ⟨s0, ds, k, xx, rfl, ok, hx, q, p, px⟩ := h
  unfold dAbs at q
  split at q
  · obtain ⟨v, rfl, rv⟩ := hx.one
    cases rv
    exact call_abs pins s σ _ _ us Q I r ⟨_, rfl, p.now q ok .int⟩
  · exact q.elim
def dMin2 : DN
  | [.int i, .int j], M, k, _ => k (.int (if j < i then j else i)) M
  | _, _, _, _ => False
theorem c_min2 (hc : X.calm = true) : CallR X (.builtin "min") (rA X.K E dMin2) := by
  intro pins s σ H xs us Q I r h
  obtain ⟨s0, ds, k, xx, rfl, ok, hx, q, p, px⟩ := h
  unfold dMin2 at q
  split at q
  · obtain ⟨v, w, rfl, rv, rw'⟩ := hx.two
    cases rv; cases rw'
    exact call_min2 hc pins s σ _ _ us Q I r ⟨_, _, rfl, p.now q ok .int⟩
  · exact q.elim
def dInt : DN
  | [.int i], M, k, _ => k (.int i) M
  | [.bl b], M, k, _ => k (.int (if b then 1 else 0)) M
  | _, _, _, _ => False
theorem c_int : CallR X (.type "int") (rA X.K E dInt) := by
  intro pins s σ H xs us Q I r h
  obtain ⟨s0, ds, k, xx, rfl, ok, hx, q, p, px⟩ := h
  unfold dInt at q
  split at q
  · obtain ⟨v, rfl, rv⟩ := hx.one
    cases rv
    exact call_int1 pins s σ _ _ us Q I r (.inl ⟨_, rfl, p.now q ok .int⟩)
  · obtain ⟨v, rfl, rv⟩ := hx.one
    cases rv
    exact call_int1 pins s σ _ _ us Q I r (.inr ⟨_, rfl, p.now q ok .int⟩)
  · exact q.elim
def dStrI : DN
  | [.int i], M, k, _ => i.natAbs.log2 < 1920 ∧ k (.str (toString i)) M
  | _, _, _, _ => False
theorem c_str : CallR X (.type "str") (rA X.K E dStrI) := by
  intro pins s σ H xs us Q I r h
  obtain ⟨s0, ds, k, xx, rfl, ok, hx, q, p, px⟩ := h
  unfold dStrI at q
  split at q
  · obtain ⟨v, rfl, rv⟩ := hx.one
    cases rv
    exact call_str_int pins s σ _ _ us Q I r ⟨_, rfl, q.1, p.now q.2 ok .str⟩
  · exact q.elim
theorem Reps.bls {K : PySem.W.Frag} {G : Hp} : ∀ {bs : List Bool} {vs : List V}, Reps K G vs (bs.map D.bl) → vs = bs.map V.bl
  | [], _, h => by cases h; rfl
  | b :: bs, _, h => by
    cases h with
    | cons h1 h2 =>
      cases h1
      rw [Reps.bls h2]
      rfl
theorem Reps.strs {K : PySem.W.Frag} {G : Hp} : ∀ {bs : List Str} {vs : List V}, Reps K G vs (bs.map D.str) → vs = bs.map V.str
  | [], _, h => by cases h; rfl
  | b :: bs, _, h => by
    cases h with
    | cons h1 h2 =>
      cases h1
      rw [Reps.strs h2]
      rfl
/-- all, any of a list of bools -/
def dAll : DN := fun ds M k _ => ∃ bs : List Bool, ds = [.lst (bs.map .bl)] ∧ k (.bl (bs.all id)) M
def dAny : DN := fun ds M k _ => ∃ bs : List Bool, ds = [.lst (bs.map .bl)] ∧ k (.bl (bs.any id)) M
theorem c_all (hc : X.calm = true) : CallR X (.builtin "all") (rA X.K E dAll) := by
  intro pins s σ H xs us Q I r h
  obtain ⟨s0, ds, k, xx, rfl, ok, hx, ⟨bs, rfl, q⟩, p, px⟩ := h
  obtain ⟨v, rfl, rv⟩ := hx.one
  obtain ⟨l, vs, rfl, hl, r1⟩ := rv.lst_of
  have e := Reps.bls r1
  subst e
  exact cr_all hc pins s σ _ _ us Q I r ⟨l, bs, rfl, SqL.of (ok.sub _ _ hl), p.now q ok .bl⟩
theorem c_any (hc : X.calm = true) : CallR X (.builtin "any") (rA X.K E dAny) := by
  intro pins s σ H xs us Q I r h
  obtain ⟨s0, ds, k, xx, rfl, ok, hx, ⟨bs, rfl, q⟩, p, px⟩ := h
  obtain ⟨v, rfl, rv⟩ := hx.one
  obtain ⟨l, vs, rfl, hl, r1⟩ := rv.lst_of
  have e := Reps.bls r1
  subst e
  exact cr_any hc pins s σ _ _ us Q I r ⟨l, bs, rfl, SqL.of (ok.sub _ _ hl), p.now q ok .bl⟩
/-- list(x) of a list or a tuple -/
def dList : DN
  | [.lst ds], M, k, _ => k (.lst ds) M
  | [.tup ds], M, k, _ => k (.lst ds) M
  | _, _, _, _ => False
theorem c_list : CallR X (.type "list") (rA X.K E dList) := by
  intro pins s σ H xs us Q I r h
  obtain ⟨s0, ds, k, xx, rfl, ok, hx, q, p, px⟩ := h
  unfold dList at q
  split at q
  · obtain ⟨v, rfl, rv⟩ := hx.one
    obtain ⟨l, vs, rfl, hl, r1⟩ := rv.lst_of
    exact call_list_of pins s σ _ _ us Q I r ⟨l, vs, rfl, .inl (SqL.of (ok.sub _ _ hl)), fun t ht => p.lst q ok r1 ht⟩
  · obtain ⟨v, rfl, rv⟩ := hx.one
    obtain ⟨l, vs, rfl, hl, r1⟩ := rv.tup_of
    exact call_list_of pins s σ _ _ us Q I r ⟨l, vs, rfl, .inr (SqT.of (ok.sub _ _ hl)), fun t ht => p.lst q ok r1 ht⟩
  · exact q.elim
/-- tuple(x) -/
def dTuple : DN
  | [.lst ds], M, k, _ => k (.tup ds) M
  | [.tup ds], M, k, _ => k (.tup ds) M
  | _, _, _, _ => False
theorem c_tuple : CallR X (.type "tuple") (rA X.K E dTuple) := by
  intro pins s σ H xs us Q I r h
  obtain ⟨s0, ds, k, xx, rfl, ok, hx, q, p, px⟩ := h
  unfold dTuple at q
  split at q
  · obtain ⟨v, rfl, rv⟩ := hx.one
    obtain ⟨l, vs, rfl, hl, r1⟩ := rv.lst_of
    exact call_tuple_of pins s σ _ _ us Q I r ⟨l, vs, rfl, .inl ⟨SqL.of (ok.sub _ _ hl), fun t ht => p.tup q ok r1 ht⟩⟩
  · obtain ⟨v, rfl, rv⟩ := hx.one
    obtain ⟨l, vs, rfl, hl, r1⟩ := rv.tup_of
    exact call_tuple_of pins s σ _ _ us Q I r ⟨l, vs, rfl, .inr ⟨SqT.of (ok.sub _ _ hl), p.now q ok (.tup hl r1)⟩⟩
  · exact q.elim

/-! ### methods of built-in types -/
def dBM (f : D → List D → Mm → DK → DX → Prop) (τ : DE) (α : DA) : DE := fun ρ M k x => τ ρ M (fun u M1 => α ρ M1 (fun ds M2 => f u ds M2 k x) x) x
def rM (K : PySem.W.Frag) (E : XK) (f : D → List D → Mm → DK → DX → Prop) : V → List V → Hp → VK → Prop := fun x xs H Q => ∃ s dx ds k xx, s.H = H ∧ Ok K s ∧ Rep K s.G x dx ∧ Reps K s.G xs ds ∧ f dx ds s.M k xx ∧ Post K s k Q ∧ PostX K E s xx
/-- the receiver is of the type T: told by a test of the datum -/
def tyD (T : String) : D → Mm → Prop
  | .str _, _ => T = "str"
  | .int _, _ => T = "int"
  | .lst _, _ => T = "list"
  | .cel a, M => T = "list" ∧ ∃ ds, M a = some (.lst ds)
  | _, _ => False
theorem tyV_of {K : PySem.W.Frag} {s : Sta} {T : String} {v : V} {d : D} (ok : Ok K s) (r : Rep K s.G v d) (h : tyD T d s.M) : tyV K T v s.H := by
  cases r with
  | str => exact h
  | int => exact h
  | lst hl r => exact .inl ⟨h, _, SqL.of (ok.sub _ _ hl)⟩
  | cel =>
    obtain ⟨h1, ds, h2⟩ := h
    obtain ⟨vs, e, r1⟩ := ok.cells _ _ h2
    exact .inl ⟨h1, _, SqL.of e⟩
  | _ => exact h.elim
def dBMt (T : String) (f : D → List D → Mm → DK → DX → Prop) (τ : DE) (α : DA) : DE := fun ρ M k x => τ ρ M (fun u M1 => tyD T u M1 ∧ α ρ M1 (fun ds M2 => f u ds M2 k x) x) x
theorem d_bm {T id : String} {name : Str} {apos cpos : Pos} {o : Expr} {τo : DE} {f : D → List D → Mm → DK → DX → Prop} (pa : PlainAttrs T) (slot : Slot T name id) (hty : typeOf (.builtin id) = pure (.type "method_descriptor")) (hm : MtR X id (rM X.K E f)) (ho : DP X E o τo) (ha : DPA X E (e :: es) αa)
    (hbase : attributeBase o name X.env (eval o X.env) = eval o X.env := by rfl)
    (hfew : ((backTo cpos (starEach (e :: es) X.env)).all (fun x => !x.1) && (backToKw cpos (keywordEach [] X.env)).all (fun x => x.1.isSome)
      && decide ((e :: es).length + ([] : List Keyword).length + (if ([] : List Keyword).isEmpty then 0 else 1) < 30)) = true := by rfl)
    (hline : (apos.endLine == cpos.line) = true := by rfl) (hs : starEach (e :: es) X.env = (false, eval e X.env) :: starEach es X.env := by rfl) (hplain : (backTo cpos (starEach es X.env)).any (·.1) = false := by rfl) :
    DP X E (.Call (.Attribute o name apos) (e :: es) [] cpos) (dBMt T f τo αa) := pe_mono (pe_bm pa slot hty hm ho ha hbase hfew hline hs hplain) fun σ H Q h => by
  obtain ⟨ρ, s, k, x, rfl, er, q, p, px⟩ := h
  refine ⟨ρ, s, _, x, rfl, er, q, fun u s1 q1 st1 ok1 v1 r1 => ⟨tyV_of ok1 r1 q1.1, ?_⟩, px⟩
  refine ⟨ρ, s1, _, x, rfl, er.step st1 ok1, q1.2, fun us s2 q2 st2 ok2 vs r2 => ?_, px.step st1⟩
  exact ⟨s2, u, us, k, x, rfl, ok2, r1.same st2.same, r2, q2, p.step (st1.trans st2), px.step (st1.trans st2)⟩
/-- xs.append(y) of a changing list -/
def dAppend : D → List D → Mm → DK → DX → Prop
  | .cel a, [y], M, k, _ => ∃ ds, M a = some (.lst ds) ∧ ds.length < sizeLine ∧ k .non (mup M a (.lst (ds ++ [y])))
  | _, _, _, _, _ => False
theorem m_append : MtR X "list.append" (rM X.K E dAppend) := by
  intro pins s σ H x xs v us Q I rx rs h
  obtain ⟨s0, dx, ds, k, xx, rfl, ok, hx, hxs, q, p, px⟩ := h
  unfold dAppend at q
  split at q
  · cases hx
    obtain ⟨ds, hm, hz, q⟩ := q
    obtain ⟨y, rfl, ry⟩ := hxs.one
    obtain ⟨vs, e, r1⟩ := ok.cells _ _ hm
    obtain ⟨k4, st4⟩ := ok.put (o := .lst (vs ++ [y])) (mo := .lst (ds ++ [_])) (by rw [hm]; rfl) ⟨_, rfl, r1.append (.cons ry .nil)⟩
    exact mt_append pins s σ _ _ _ v us Q I rx rs ⟨_, vs, y, rfl, rfl, e, by rw [r1.length]; exact hz, p _ ⟨_, _, _⟩ q st4 k4 _ .non⟩
  · exact q.elim
/-- xs.insert(i, y) -/
def dInsert : D → List D → Mm → DK → DX → Prop
  | .cel a, [.int i, y], M, k, _ => ∃ ds, M a = some (.lst ds) ∧ ds.length < sizeLine ∧ 0 ≤ i ∧ i < 2 ^ 63 ∧ k .non (mup M a (.lst (ds.take i.toNat ++ [y] ++ ds.drop i.toNat)))
  | _, _, _, _, _ => False
theorem m_insert : MtR X "list.insert" (rM X.K E dInsert) := by
  intro pins s σ H x xs v us Q I rx rs h
  obtain ⟨s0, dx, ds, k, xx, rfl, ok, hx, hxs, q, p, px⟩ := h
  unfold dInsert at q
  split at q
  · cases hx
    obtain ⟨ds, hm, hz, h0, h1, q⟩ := q
    obtain ⟨iv, y, rfl, ri, ry⟩ := hxs.two
    cases ri
    obtain ⟨vs, e, r1⟩ := ok.cells _ _ hm
    obtain ⟨k4, st4⟩ := ok.put (o := .lst (vs.take _ ++ [y] ++ vs.drop _)) (mo := .lst (ds.take _ ++ [_] ++ ds.drop _)) (by rw [hm]; rfl) ⟨_, rfl, ((r1.take _).append (.cons ry .nil)).append (r1.drop _)⟩
    exact mt_insert pins s σ _ _ _ v us Q I rx rs ⟨_, vs, _, y, rfl, rfl, e, by rw [r1.length]; exact hz, h0, h1, p _ ⟨_, _, _⟩ q st4 k4 _ .non⟩
  · exact q.elim
/-- xs.index(y), flat, the first place -/
def firstIx (y : D) : List D → Option Nat
  | [] => none
  | x :: xs => if eqF x y = true then some 0 else (firstIx y xs).map (· + 1)
theorem firstIx_spec {y : D} : ∀ {xs : List D} {j : Nat}, firstIx y xs = some j → (∃ z, xs[j]? = some z ∧ eqF z y = true) ∧ ∀ (m : Nat) z, m < j → xs[m]? = some z → eqF z y = false
  | [], _, h => by cases h
  | x :: xs, j, h => by
    unfold firstIx at h
    split at h
    · rename_i hx
      cases h
      exact ⟨⟨x, rfl, hx⟩, fun m z hm => by omega⟩
    · rename_i hx
      cases e : firstIx y xs with
      | none => rw [e] at h; cases h
      | some i =>
        rw [e] at h
        have hj : j = i + 1 := (Option.some.inj h).symm
        subst hj
        obtain ⟨⟨z, h1, h2⟩, h3⟩ := firstIx_spec e
        refine ⟨⟨z, by simpa using h1, h2⟩, fun m z hm hz => ?_⟩
        cases m with
        | zero =>
          have : x = z := by simpa using hz
          subst this
          simpa using hx
        | succ m => exact h3 m z (by omega) (by simpa using hz)
def dIndex : D → List D → Mm → DK → DX → Prop
  | .lst ds, [y], M, k, _ => flatD y = true ∧ ds.all flatD = true ∧ ∃ j : Nat, firstIx y ds = some j ∧ k (.int j) M
  | _, _, _, _, _ => False
theorem m_index : MtR X "list.index" (rM X.K E dIndex) := by
  intro pins s σ H x xs v us Q I rx rs h
  obtain ⟨s0, dx, ds, k, xx, rfl, ok, hx, hxs, q, p, px⟩ := h
  unfold dIndex at q
  split at q
  · obtain ⟨l, vs, rfl, hl, r1⟩ := hx.lst_of
    obtain ⟨fy, fd, j, hj, q⟩ := q
    obtain ⟨y, rfl, ry⟩ := hxs.one
    obtain ⟨e1, e2⟩ := ry.flat fy
    obtain ⟨_, e4⟩ := inV_of (x := _) e1 r1 fd
    obtain ⟨⟨z, h1, h2⟩, h3⟩ := firstIx_spec hj
    obtain ⟨zv, h4, rz⟩ := r1.get h1
    have fz : flatD z = true := List.all_eq_true.mp fd z (List.mem_of_getElem? h1)
    obtain ⟨e5, e6⟩ := rz.flat fz
    refine mt_index pins s σ _ _ _ v us Q I rx rs ⟨l, vs, y, j, zv, rfl, rfl, SqL.of (ok.sub _ _ hl), e2, e4, h4, ?_, fun m z' hm hz' => ?_, p.now q ok .int⟩
    · rw [e5, e1]; exact h2
    · obtain ⟨d', g1, g2⟩ := r1.getV hz'
      have fz' : flatD d' = true := List.all_eq_true.mp fd d' (List.mem_of_getElem? g1)
      obtain ⟨e7, _⟩ := g2.flat fz'
      rw [e7, e1]
      exact h3 m d' hm g1
  · exact q.elim
/-- sep.join(xs) -/
def dJoin : D → List D → Mm → DK → DX → Prop := fun x ds M k _ => ∃ (a : Str) (ys : List Str), x = .str a ∧ ds = [.lst (ys.map .str)] ∧ (ys.map (·.length)).sum + ys.length * a.length ≤ 16777216 ∧ k (.str (Txt.join a ys)) M
theorem m_join : MtR X "str.join" (rM X.K E dJoin) := by
  intro pins s σ H x xs v us Q I rx rs h
  obtain ⟨s0, dx, ds, k, xx, rfl, ok, hx, hxs, ⟨a, ys, rfl, rfl, hz, q⟩, p, px⟩ := h
  cases hx
  obtain ⟨y, rfl, ry⟩ := hxs.one
  obtain ⟨l, vs, rfl, hl, r1⟩ := ry.lst_of
  have e := Reps.strs r1
  subst e
  exact mt_join pins s σ _ _ _ v us Q I rx rs ⟨a, l, ys, rfl, rfl, .inl (SqL.of (ok.sub _ _ hl)), hz, p.now q ok .str⟩
end
end DL
set_option Elab.async false
set_option linter.all false
set_option maxRecDepth 100000
set_option maxHeartbeats 2000000
namespace DL
open PySem PySem.Spec PyProof.Rows L2

/-! ### kinds of data -/
inductive Kd where
  | non | bl | int | str | lst | tup
  deriving DecidableEq
def Kd.nm : Kd → String
  | .non => "NoneType" | .bl => "bool" | .int => "int" | .str => "str" | .lst => "list" | .tup => "tuple"
def isK (T u : Kd) : Bool := T == u || (T == .int && u == .bl)
theorem kit_K : ∀ (T u : Kd), T ≠ .non → kitB u.nm T.nm = some (isK T u)
  | .non, _, h => absurd rfl h
  | .bl, .non, _ => by decide +kernel
  | .bl, .bl, _ => by decide +kernel
  | .bl, .int, _ => by decide +kernel
  | .bl, .str, _ => by decide +kernel
  | .bl, .lst, _ => by decide +kernel
  | .bl, .tup, _ => by decide +kernel
  | .int, .non, _ => by decide +kernel
  | .int, .bl, _ => by decide +kernel
  | .int, .int, _ => by decide +kernel
  | .int, .str, _ => by decide +kernel
  | .int, .lst, _ => by decide +kernel
  | .int, .tup, _ => by decide +kernel
  | .str, .non, _ => by decide +kernel
  | .str, .bl, _ => by decide +kernel
  | .str, .int, _ => by decide +kernel
  | .str, .str, _ => by decide +kernel
  | .str, .lst, _ => by decide +kernel
  | .str, .tup, _ => by decide +kernel
  | .lst, .non, _ => by decide +kernel
  | .lst, .bl, _ => by decide +kernel
  | .lst, .int, _ => by decide +kernel
  | .lst, .str, _ => by decide +kernel
  | .lst, .lst, _ => by decide +kernel
  | .lst, .tup, _ => by decide +kernel
  | .tup, .non, _ => by decide +kernel
  | .tup, .bl, _ => by decide +kernel
  | .tup, .int, _ => by decide +kernel
  | .tup, .str, _ => by decide +kernel
  | .tup, .lst, _ => by decide +kernel
  | .tup, .tup, _ => by decide +kernel
/-- a kind, or an own class -/
def kdD : D → Mm → Option (Sum Kd Addr)
  | .non, _ => some (.inl .non)
  | .bl _, _ => some (.inl .bl)
  | .int _, _ => some (.inl .int)
  | .str _, _ => some (.inl .str)
  | .lst _, _ => some (.inl .lst)
  | .tup _, _ => some (.inl .tup)
  | .scr _, _ => none
  | .obj C _, _ => some (.inr C)
  | .cel a, M => match M a with
    | some (.lst _) => some (.inl .lst)
    | some (.ins C _) => some (.inr C)
    | none => none
/-- what a class must have for isinstance -/
structure ClsI (K : PySem.W.Frag) (C : Addr) : Prop where
  cl : Cls K C
  ha : PySem.W.findIn K (.ref C) "__class__" = some (some (.builtin "object.__class__"))
  hn : PySem.W.specialIn K (.builtin "object.__class__") "__get__" = some (some (.builtin "getset_descriptor.__get__"))
  htk : PySem.W.takesIn K (.builtin "object.__class__") = some true
  hm : PySem.W.mroIn K C (.type "object") = some true
theorem tyX_of {K : PySem.W.Frag} {s : Sta} {v : V} {d : D} (ok : Ok K s) (r : Rep K s.G v d) : (∀ u, kdD d s.M = some (.inl u) → TyX K s.H v (.type u.nm)) ∧ ∀ C, kdD d s.M = some (.inr C) → ClsI K C → TyX K s.H v (.ref C) := by
  refine ⟨fun u e => ?_, fun C e c => ?_⟩
  · cases r with
    | non => cases e; exact .base .non
    | bl => cases e; exact .base (.bl _)
    | int => cases e; exact .base (.int _)
    | str => cases e; exact .base (.str _)
    | lst h _ => cases e; exact .base (.lst (ok.sub _ _ h))
    | tup h _ => cases e; exact .base (.tup (ok.sub _ _ h))
    | obj h _ => cases e
    | scr h => cases e
    | @cel a =>
      simp only [kdD] at e
      split at e
      · rename_i ds hm
        cases e
        obtain ⟨vs, e, _⟩ := ok.cells _ _ hm
        exact .base (.lst e)
      · cases e
      · cases e
  · cases r with
    | non => cases e
    | bl => cases e
    | int => cases e
    | str => cases e
    | lst h _ => cases e
    | tup h _ => cases e
    | obj h _ => cases e; exact .base (.ins (ok.sub _ _ h) c.cl c.ha c.hn c.htk c.hm)
    | scr h => cases e
    | @cel a =>
      simp only [kdD] at e
      split at e
      · cases e
      · rename_i C' fs hm
        cases e
        obtain ⟨dx, fvs, e, _⟩ := ok.cells _ _ hm
        exact .base (.ins e c.cl c.ha c.hn c.htk c.hm)
      · cases e
def dIsiB (T : Kd) (CS : List Addr) : D1 := fun u M k _ => match kdD u M with
  | some (.inl u') => k (.bl (isK T u')) M
  | some (.inr C) => C ∈ CS ∧ k (.bl false) M
  | none => False
def dIsiC (C0 : Addr) (CS : List Addr) : D1 := fun u M k _ => match kdD u M with
  | some (.inl _) => k (.bl false) M
  | some (.inr C) => C ∈ CS ∧ k (.bl (decide (C = C0))) M
  | none => False
section
variable {X : Cx} {E : XK} {e a b c : Expr} {p pos : Pos} {τa τb τc : DE} {αa : DA} {es : List Expr}
/-- isinstance(e, T), T a built-in class -/
theorem d_isi {q : Pos} {x : Str} (T : Kd) (CS : List Addr) (hT : T ≠ .non) (hC : ∀ C ∈ CS, ClsI X.K C ∧ PySem.W.kitOne X.K (.ref C) (.type T.nm) = some false) (hg : Gl X "isinstance") (hm : X.mg "isinstance" = none) (hgT : Gl X x) (hmT : X.mg x = none) (hvT : bootBuiltins x = some (.type T.nm)) (he : DP X E e τa)
    (hn : x ≠ "__name__" := by decide) (hd : (x == ("__debug__" : Str)) = false := by decide) (hs : starEach [e, .Name x q] X.env = (false, eval e X.env) :: starEach [.Name x q] X.env := by rfl) (hs2 : starEach [.Name x q] X.env = (false, eval (.Name x q) X.env) :: starEach [] X.env := by rfl) (hpl : (backTo pos (starEach [.Name x q] X.env)).any (·.1) = false := by rfl) :
    DP X E (.Call (.Name "isinstance" p) [e, .Name x q] [] pos) (dUn (dIsiB T CS) τa) :=
  pe_mono (pe_callB call_isi hg hm (by decide +kernel) (pa_cons he (pa_cons (pe_bltn (v := .ty T.nm) hgT hmT hvT rfl hn hd) pa_nil hs2) hs) (by decide) (by decide) hs hpl) fun σ H Q h => by
    obtain ⟨ρ, s, k, xx, rfl, er, q, pp, px⟩ := h
    refine ⟨ρ, s, _, xx, rfl, er, q, fun u s1 q1 st1 ok1 v1 r1 => ?_, px⟩
    obtain ⟨t1, t2⟩ := tyX_of ok1 r1
    change dIsiB T CS u s1.M k xx at q1
    unfold dIsiB at q1
    split at q1
    · rename_i u' hu
      exact ⟨v1, .ty T.nm, .type u'.nm, .type T.nm, isK T u', rfl, .ty _, t1 u' hu, kit_ty (kit_K T u' hT), pp _ s1 q1 st1 ok1 _ .bl⟩
    · rename_i C hu
      obtain ⟨c1, c2⟩ := hC C q1.1
      exact ⟨v1, .ty T.nm, .ref C, .type T.nm, false, rfl, .ty _, t2 C hu c1, c2, pp _ s1 q1.2 st1 ok1 _ .bl⟩
    · exact q1.elim
/-- isinstance(e, C0), C0 an own class -/
theorem d_isiC {q : Pos} {x : Str} (C0 : Addr) (CS : List Addr) (hC : ∀ C ∈ CS, ClsI X.K C ∧ PySem.W.kitOne X.K (.ref C) (.ref C0) = some (decide (C = C0))) (hB : ∀ u : Kd, PySem.W.kitOne X.K (.type u.nm) (.ref C0) = some false) (hg : Gl X "isinstance") (hm : X.mg "isinstance" = none) (hgT : Gl X x) (hmT : X.mg x = some (.ref C0)) (he : DP X E e τa)
    (hd : (x == ("__debug__" : Str)) = false := by decide) (hs : starEach [e, .Name x q] X.env = (false, eval e X.env) :: starEach [.Name x q] X.env := by rfl) (hs2 : starEach [.Name x q] X.env = (false, eval (.Name x q) X.env) :: starEach [] X.env := by rfl) (hpl : (backTo pos (starEach [.Name x q] X.env)).any (·.1) = false := by rfl) :
    DP X E (.Call (.Name "isinstance" p) [e, .Name x q] [] pos) (dUn (dIsiC C0 CS) τa) :=
  pe_mono (pe_callB call_isi hg hm (by decide +kernel) (pa_cons he (pa_cons (pe_glob (v := .ref C0) hgT hmT rfl hd) pa_nil hs2) hs) (by decide) (by decide) hs hpl) fun σ H Q h => by
    obtain ⟨ρ, s, k, xx, rfl, er, q, pp, px⟩ := h
    refine ⟨ρ, s, _, xx, rfl, er, q, fun u s1 q1 st1 ok1 v1 r1 => ?_, px⟩
    obtain ⟨t1, t2⟩ := tyX_of ok1 r1
    change dIsiC C0 CS u s1.M k xx at q1
    unfold dIsiC at q1
    split at q1
    · rename_i u' hu
      exact ⟨v1, .ref C0, .type u'.nm, .ref C0, false, rfl, .own _, t1 u' hu, hB u', pp _ s1 q1 st1 ok1 _ .bl⟩
    · rename_i C hu
      obtain ⟨c1, c2⟩ := hC C q1.1
      exact ⟨v1, .ref C0, .ref C, .ref C0, _, rfl, .own _, t2 C hu c1, c2, pp _ s1 q1.2 st1 ok1 _ .bl⟩
    · exact q1.elim

end

/-! ### small facts for printed terms -/
theorem d_globE {X : Cx} {E : XK} {x : Str} {d : D} {pos : Pos} (hg : Gl X x) (hm : ∃ u, X.mg x = some u ∧ KC d u) (hd : (x == ("__debug__" : Str)) = false := by decide) : DP X E (.Name x pos) (dC d) := by
  obtain ⟨u, h1, h2⟩ := hm
  exact d_glob hg h1 h2 hd
theorem boot_len' : bootBuiltins "len" = some (.builtin "len") := by decide +kernel
theorem boot_abs' : bootBuiltins "abs" = some (.builtin "abs") := by decide +kernel
theorem boot_all' : bootBuiltins "all" = some (.builtin "all") := by decide +kernel
theorem boot_any' : bootBuiltins "any" = some (.builtin "any") := by decide +kernel
theorem boot_min' : bootBuiltins "min" = some (.builtin "min") := by decide +kernel
theorem boot_int' : bootBuiltins "int" = some (.type "int") := by decide +kernel
theorem boot_list' : bootBuiltins "list" = some (.type "list") := by decide +kernel
theorem boot_tuple' : bootBuiltins "tuple" = some (.type "tuple") := by decide +kernel
theorem boot_str' : bootBuiltins "str" = some (.type "str") := by decide +kernel
theorem boot_bool' : bootBuiltins "bool" = some (.type "bool") := by decide +kernel
theorem fund_mk {K : PySem.W.Frag} {x qual : Str} {params : Arguments} {body : List Stmt} {scope : Scope} {f : Addr} {oc : Value} {od an : Option Addr} {osl : Array (Option Value)} {kV doc pm cdv ct : Value} (l : K.lookup f = some ⟨oc, od, .func (PySem.W.fnOf x qual params body scope .none kV doc pm an cdv ct), osl⟩)
    (c : PySem.W.codeIn K cdv qual = true) (k : PySem.W.keepIn K (.ref f) = true) : FunD K x qual params body scope [] [] f (PySem.W.fnOf x qual params body scope .none kV doc pm an cdv ct) :=
  ⟨⟨oc, od, .none, kV, doc, pm, an, cdv, ct, osl, rfl, l, c, .inl ⟨rfl, rfl⟩, .inl rfl⟩, k⟩
theorem kbd_of {K : PySem.W.Frag} {x qual : Str} {params : Arguments} {body : List Stmt} {scope : Scope} {f : Addr} {fd : FuncData} {ps : List Str} {n : Nat} (F : FunD K x qual params body scope [] [] f fd) (hn : n = ps.length)
    (h : ∀ (kV doc pm : Value) (an : Option Addr) (cdv ct : Value) (us : List Value), us.length = ps.length → bindArgs (PySem.W.fnOf x qual params body scope .none kV doc pm an cdv ct) ⟨us, []⟩ = pure (ps.zip us)) : KBd K fd ps n [] (fun us _ => us) := by
  obtain ⟨oc, od, dV, kV, doc, pm, an, cdv, ct, osl, rfl, lk, hcd, hD, hK⟩ := F.ex
  rcases hD with ⟨_, rfl⟩ | ⟨e, _⟩
  · exact kbd_plain hn (h kV doc pm an cdv ct)
  · exact absurd rfl e
theorem kbdk_of {K : PySem.W.Frag} {x qual : Str} {params : Arguments} {body : List Stmt} {scope : Scope} {f : Addr} {fd : FuncData} {ps ks : List Str} {n : Nat} (F : FunD K x qual params body scope [] [] f fd) (l : List (Sum Nat Nat))
    (h : ∀ (kV doc pm : Value) (an : Option Addr) (cdv ct : Value) (us ws : List Value), us.length = n → ws.length = ks.length → bindArgs (PySem.W.fnOf x qual params body scope .none kV doc pm an cdv ct) ⟨us, ks.zip ws⟩ = pure (ps.zip (pickA us ws l))) : KBd K fd ps n ks (fun us ws => pickA us ws l) := by
  obtain ⟨oc, od, dV, kV, doc, pm, an, cdv, ct, osl, rfl, lk, hcd, hD, hK⟩ := F.ex
  rcases hD with ⟨_, rfl⟩ | ⟨e, _⟩
  · exact kbd_kw l (h kV doc pm an cdv ct)
  · exact absurd rfl e
theorem isiB_inl {T v : Kd} {CS : List Addr} {u : D} {M : Mm} {k : DK} {x : DX} (h : kdD u M = some (.inl v)) (q : k (.bl (isK T v)) M) : dIsiB T CS u M k x := by
  unfold dIsiB
  rw [h]
  exact q
theorem isiB_inr {T : Kd} {C : Addr} {CS : List Addr} {u : D} {M : Mm} {k : DK} {x : DX} (h : kdD u M = some (.inr C)) (hc : C ∈ CS) (q : k (.bl false) M) : dIsiB T CS u M k x := by
  unfold dIsiB
  rw [h]
  exact ⟨hc, q⟩
theorem isiC_inl {C0 : Addr} {v : Kd} {CS : List Addr} {u : D} {M : Mm} {k : DK} {x : DX} (h : kdD u M = some (.inl v)) (q : k (.bl false) M) : dIsiC C0 CS u M k x := by
  unfold dIsiC
  rw [h]
  exact q
theorem isiC_inr {C0 C : Addr} {CS : List Addr} {u : D} {M : Mm} {k : DK} {x : DX} (h : kdD u M = some (.inr C)) (hc : C ∈ CS) (q : k (.bl (decide (C = C0))) M) : dIsiC C0 CS u M k x := by
  unfold dIsiC
  rw [h]
  exact ⟨hc, q⟩
theorem ite_of {c : Prop} [Decidable c] {A B : Prop} (h1 : c → A) (h2 : ¬ c → B) : if decide c = true then A else B := by
  by_cases h : c
  · rw [if_pos (decide_eq_true h)]
    exact h1 h
  · rw [if_neg (fun z => h (of_decide_eq_true z))]
    exact h2 h
theorem ite_b {c : Bool} {A B : Prop} (h1 : c = true → A) (h2 : c = false → B) : if c = true then A else B := by
  cases c with
  | true => rw [if_pos rfl]; exact h1 rfl
  | false => rw [if_neg Bool.false_ne_true]; exact h2 rfl
/-- a comprehension's turns: no test, the element is told for each item and changes nothing -/
theorem lc_map {γ : DG} {ε : DE} {vs : List Nat} {ρ : DEnv} {M : Mm} {k : DK} {ds : List D} (f : D → D) (hl : ds.length < sizeLine)
    (he : ∀ d ∈ ds, ∀ K : DK, K (f d) M → γ d (wipeD ρ vs) M fun ρ1 M2 => ε ρ1 M2 K (fun _ _ _ => False))
    (gm : ∀ d (K K' : DEnv → Mm → Prop), (∀ ρ M, K ρ M → K' ρ M) → γ d (wipeD ρ vs) M K → γ d (wipeD ρ vs) M K') (hk : k (.lst (ds.map f)) M) : LcK γ dYes ε vs ρ ds M k := by
  refine .of hl (fun j acc M' => M' = M ∧ acc = (ds.take j).map f) ⟨rfl, rfl⟩ (fun j d acc M' hd ⟨e1, e2⟩ => ?_) (fun acc M' ⟨e1, e2⟩ => ?_)
  · subst e1 e2
    have hn : List.map f (List.take j ds) ++ [f d] = List.map f (List.take (j + 1) ds) := by
      rw [List.take_succ, hd]
      simp
    refine gm d _ _ (fun ρ1 M2 hh => ?_) (he d (List.mem_of_getElem? hd) (fun y M4 => M4 = M' ∧ List.map f (List.take j ds) ++ [y] = List.map f (List.take (j + 1) ds)) ⟨rfl, hn⟩)
    unfold dYes
    dsimp only
    rw [if_pos rfl]
    exact hh
  · subst e1 e2
    rw [List.take_length]
    exact hk
theorem gN_mono {i : Nat} {d : D} {ρ : DEnv} {M : Mm} (K K' : DEnv → Mm → Prop) (h : ∀ ρ M, K ρ M → K' ρ M) (q : gN i d ρ M K) : gN i d ρ M K' := h _ _ q
theorem eqD_int (i j : Int) : EqD (.int i) (.int j) (decide (i = j)) := by
  have h : EqD (.int i) (.int j) (decide (toV (.int i) = toV (.int j))) := .sc rfl rfl rfl
  have e : decide (toV (.int i) = toV (.int j)) = decide (i = j) := by
    by_cases c : i = j
    · subst c; simp
    · rw [decide_eq_false c]
      exact decide_eq_false fun z => c (by injection z)
  rw [← e]
  exact h
theorem eqD_str (i j : Str) : EqD (.str i) (.str j) (decide (i = j)) := by
  have h : EqD (.str i) (.str j) (decide (toV (.str i) = toV (.str j))) := .sc rfl rfl rfl
  have e : decide (toV (.str i) = toV (.str j)) = decide (i = j) := by
    by_cases c : i = j
    · subst c; simp
    · rw [decide_eq_false c]
      exact decide_eq_false fun z => c (by injection z)
  rw [← e]
  exact h
theorem eqD_bl (i j : Bool) : EqD (.bl i) (.bl j) (decide (i = j)) := by
  have h : EqD (.bl i) (.bl j) (decide (toV (.bl i) = toV (.bl j))) := .sc rfl rfl rfl
  have e : decide (toV (.bl i) = toV (.bl j)) = decide (i = j) := by
    by_cases c : i = j
    · subst c; simp
    · rw [decide_eq_false c]
      exact decide_eq_false fun z => c (by injection z)
  rw [← e]
  exact h
theorem eqD_non : EqD .non .non true := by
  have h : EqD .non .non (decide (toV .non = toV .non)) := .sc rfl rfl rfl
  exact h
theorem eqI {i j : Int} {M : Mm} {k : DK} (q : k (.bl (decide (i = j))) M) : EqK (.int i) (.int j) M k := .of (eqD_int i j) q
theorem neI {i j : Int} {M : Mm} {k : DK} (q : k (.bl (!decide (i = j))) M) : NeK (.int i) (.int j) M k := .of (eqD_int i j) q
theorem eqP {a b : D} {p r : PyData} {M : Mm} {k : DK} (h1 : toP a = some p) (h2 : toP b = some r) (h3 : SeqAt.shaped p = true) (h4 : SeqAt.shaped r = true) (q : k (.bl (PyData.eqv p r)) M) : EqK a b M k := .of (.py h1 h2 h3 h4) q
theorem neP {a b : D} {p r : PyData} {M : Mm} {k : DK} (h1 : toP a = some p) (h2 : toP b = some r) (h3 : SeqAt.shaped p = true) (h4 : SeqAt.shaped r = true) (q : k (.bl (!PyData.eqv p r)) M) : NeK a b M k := .of (.py h1 h2 h3 h4) q
/-- the kind of plain data -/
def kd : D → Option Kd
  | .non => some .non
  | .bl _ => some .bl
  | .int _ => some .int
  | .str _ => some .str
  | .lst _ => some .lst
  | .tup _ => some .tup
  | _ => none
theorem kdD_of {u : D} {v : Kd} (h : kd u = some v) (M : Mm) : kdD u M = some (.inl v) := by
  cases u <;> first | (cases h; rfl) | cases h
theorem kd_str {u : D} (h : kd u = some .str) : ∃ z, u = .str z := by
  cases u <;> first | exact ⟨_, rfl⟩ | cases h
theorem kd_tup {u : D} (h : kd u = some .tup) : ∃ z, u = .tup z := by
  cases u <;> first | exact ⟨_, rfl⟩ | cases h
theorem kd_int {u : D} (h : kd u = some .int) : ∃ z, u = .int z := by
  cases u <;> first | exact ⟨_, rfl⟩ | cases h
/-- a block cut behind its first statement: R is what holds there -/
def dCutS (t u : DS) : DS := fun k x ρ M => ∃ R : DEnv → Mm → Prop, t { k with nx := R } x ρ M ∧ ∀ ρ M, R ρ M → u k x ρ M
theorem b_cut {X : Cx} {E : XK} {st : Stmt} {sts : List Stmt} {τs τt : DS} (h1 : DPS X E st τs) (h2 : DPB X E sts τt) : DPB X E (st :: sts) (dCutS τs τt) := pss_mono (pss_cons h1 h2) fun D σ H h => by
  obtain ⟨ρ, s, k, x, rfl, er, ⟨R, q, qr⟩, p, px⟩ := h
  refine ⟨ρ, s, _, x, rfl, er, q, ⟨fun ρ1 s1 q1 st1 σ1 er1 => ?_, p.rt, p.bk, p.ct⟩, px⟩
  exact ⟨ρ1, s1, k, x, rfl, er1, qr ρ1 s1.M q1, p.step st1, px.step st1⟩
end DL
set_option Elab.async false
set_option linter.all false
set_option maxRecDepth 100000
namespace DL
open PySem PySem.Spec PyProof.Rows L2
/-- the end: a law's promise in data gives the walk -/
theorem walk_D {l : PySem.W.OpenLaw} {k : Nat} {q : Program} {loose : List Str} {XP : (Str → Option Value) → Heap → Prop} {YP : World → Heap → Prop} {d : DefRec} {K : Params → PySem.W.Frag} {φ : Ct} {x : Str}
    (hn : l.most = some 63) (hdf : d.params.defaults = []) (hr : Room k callerA)
    (hφ : ∀ (ns : List Int) (M : Mm) (kk : DK) (xx : DX), ns.length ≤ 63 → (∀ z ∈ ns, Builtin.Int.intBits z ≤ 1048576) → (∀ a, M a = none) → (∀ M', kk (.bl true) M') → φ [.scr ns] M kk xx)
    (hY : ∀ (w : World) (h : Heap), YP w h → (K w.params).In h)
    (F : ∀ (w : World) (mg : Str → Option Value) (fa : Addr) (h : Heap), (K w.params).In h → h.Ns mainGlobals mg → mg d.name = some (.ref fa) →
      ∃ fd : FuncData, (∀ (s : Shared) (u : Value), BindsTo s fd ⟨[u], []⟩ [(x, u)]) ∧
        ∀ base : Heap, (K w.params).In base → base.Ns mainGlobals mg → FnOk l.prog w (K w.params) mg base (L2.CX l.prog w) k fa fd [x] (spD (K w.params) 1 φ)) :
    PySem.W.WalkO q loose XP YP l.row.toRowW d [] (fun f vs => PySem.call f vs) :=
  L2.walk_ofB (n := 63) (k := k) (x := x) (CX := fun w => L2.CX l.prog w) (sp := fun w => spD (K w.params) 1 φ) hn (by decide) hdf hr hY F
    (fun w H a ns hl hb _ hS => ⟨⟨H, H, fun _ => none⟩, [.scr ns], fun d _ => d = .bl true, fun _ _ _ => False, rfl, ⟨Same.refl _, nofun, nofun⟩, .cons (.scr hS) .nil, rfl,
      hφ ns _ _ _ hl hb (fun _ => rfl) (fun _ => rfl), fun d t e _ _ v r => by subst e; cases r; rfl, fun C fs t h => h.elim⟩)
    fun w H s e s' h => by
      obtain ⟨_, _, _, _, _, _, _, _, _, _, _, _, z⟩ := h
      exact z
end DL
set_option Elab.async false
set_option linter.all false
set_option maxRecDepth 100000
set_option maxHeartbeats 4000000
namespace W10
open PySem PySem.Spec PyProof.Rows L2 DL
abbrev CS : List Addr := []
def topS (i : Nat) : Stmt := PySem.Challenge.pw_gustfloor_k10_names_points_and_winds.main.body.getD i (.Pass ⟨0, 0, 0, 0⟩)
abbrev st_is_number : Stmt := topS 1
theorem sc_is_number : FnScope ["value"] ["value"] (defScope st_is_number) := ⟨rfl, rfl, rfl, by decide +kernel, rfl, by decide +kernel, by decide +kernel⟩
abbrev st_is_name : Stmt := topS 6
theorem sc_is_name : FnScope ["value", "letter"] ["value"] (defScope st_is_name) := ⟨rfl, rfl, rfl, by decide +kernel, rfl, by decide +kernel, by decide +kernel⟩
abbrev st_is_point : Stmt := topS 7
theorem sc_is_point : FnScope ["value", "part"] ["value"] (defScope st_is_point) := ⟨rfl, rfl, rfl, by decide +kernel, rfl, by decide +kernel, by decide +kernel⟩
abbrev st_is_wind : Stmt := topS 8
theorem sc_is_wind : FnScope ["value"] ["value"] (defScope st_is_wind) := ⟨rfl, rfl, rfl, by decide +kernel, rfl, by decide +kernel, by decide +kernel⟩
abbrev st_cross : Stmt := topS 9
theorem sc_cross : FnScope ["one", "other"] ["one", "other"] (defScope st_cross) := ⟨rfl, rfl, rfl, by decide +kernel, rfl, by decide +kernel, by decide +kernel⟩
abbrev st__law_start : Stmt := topS 11
theorem sc__law_start : FnScope ["_law_script"] ["_law_script"] (defScope st__law_start) := ⟨rfl, rfl, rfl, by decide +kernel, rfl, by decide +kernel, by decide +kernel⟩
abbrev st__law_pull : Stmt := topS 12
theorem sc__law_pull : FnScope ["_law_bag", "_law_many", "_law_cell", "_law_digit", "_law_seed"] ["_law_bag", "_law_many"] (defScope st__law_pull) := ⟨rfl, rfl, rfl, by decide +kernel, rfl, by decide +kernel, by decide +kernel⟩
abbrev st__law_pick : Stmt := topS 13
theorem sc__law_pick : FnScope ["_law_bag", "_law_some"] ["_law_bag", "_law_some"] (defScope st__law_pick) := ⟨rfl, rfl, rfl, by decide +kernel, rfl, by decide +kernel, by decide +kernel⟩
abbrev st__law_sort : Stmt := topS 14
theorem sc__law_sort : FnScope ["_law_thing", "_law_marks"] ["_law_thing"] (defScope st__law_sort) := ⟨rfl, rfl, rfl, by decide +kernel, rfl, by decide +kernel, by decide +kernel⟩
abbrev st__law_same : Stmt := topS 15
theorem sc__law_same : FnScope ["_law_found", "_law_due", "_law_a", "_law_b"] ["_law_found", "_law_due"] (defScope st__law_same) := ⟨rfl, rfl, rfl, by decide +kernel, rfl, by decide +kernel, by decide +kernel⟩
abbrev st__law_stray : Stmt := topS 16
theorem sc__law_stray : FnScope ["_law_bag"] ["_law_bag"] (defScope st__law_stray) := ⟨rfl, rfl, rfl, by decide +kernel, rfl, by decide +kernel, by decide +kernel⟩
abbrev st_law : Stmt := topS 17
theorem sc_law : FnScope ["_law_script", "_law_bag", "_law_letters", "_law_turn_k", "_law_word", "_law_k", "_law_at", "_law_sign", "_law_bent", "_law_told", "_law_a", "_law_b", "_law_good", "_law_odd", "_law_number", "_law_c", "_law_d"] ["_law_script"] (defScope st_law) := ⟨rfl, rfl, rfl, by decide +kernel, rfl, by decide +kernel, by decide +kernel⟩
structure Txt (K : PySem.W.Frag) (mg : Str → Option Value) (ad : Nat → Addr) (fd : Nat → FuncData) : Prop where
  m_is_number : mg "is_number" = some (.ref (ad 0))
  k_is_number : PySem.W.keepIn K (.ref (ad 0)) = true
  F_is_number : FunD K "is_number" "is_number" (defArgs st_is_number) (defBody st_is_number) (defScope st_is_number) [] [] (ad 0) (fd 0)
  kb_is_number_1 : KBd K (fd 0) ["value"] 1 [] (fun us _ => us)
  m_is_name : mg "is_name" = some (.ref (ad 1))
  k_is_name : PySem.W.keepIn K (.ref (ad 1)) = true
  F_is_name : FunD K "is_name" "is_name" (defArgs st_is_name) (defBody st_is_name) (defScope st_is_name) [] [] (ad 1) (fd 1)
  kb_is_name_0_value : KBd K (fd 1) ["value"] 0 ["value"] (fun us ws => pickA us ws [.inr 0])
  kb_is_name_1 : KBd K (fd 1) ["value"] 1 [] (fun us _ => us)
  m_is_point : mg "is_point" = some (.ref (ad 2))
  k_is_point : PySem.W.keepIn K (.ref (ad 2)) = true
  F_is_point : FunD K "is_point" "is_point" (defArgs st_is_point) (defBody st_is_point) (defScope st_is_point) [] [] (ad 2) (fd 2)
  kb_is_point_0_value : KBd K (fd 2) ["value"] 0 ["value"] (fun us ws => pickA us ws [.inr 0])
  kb_is_point_1 : KBd K (fd 2) ["value"] 1 [] (fun us _ => us)
  m_is_wind : mg "is_wind" = some (.ref (ad 3))
  k_is_wind : PySem.W.keepIn K (.ref (ad 3)) = true
  F_is_wind : FunD K "is_wind" "is_wind" (defArgs st_is_wind) (defBody st_is_wind) (defScope st_is_wind) [] [] (ad 3) (fd 3)
  kb_is_wind_0_value : KBd K (fd 3) ["value"] 0 ["value"] (fun us ws => pickA us ws [.inr 0])
  kb_is_wind_1 : KBd K (fd 3) ["value"] 1 [] (fun us _ => us)
  m_cross : mg "cross" = some (.ref (ad 4))
  k_cross : PySem.W.keepIn K (.ref (ad 4)) = true
  F_cross : FunD K "cross" "cross" (defArgs st_cross) (defBody st_cross) (defScope st_cross) [] [] (ad 4) (fd 4)
  kb_cross_0_other_one : KBd K (fd 4) ["one", "other"] 0 ["other", "one"] (fun us ws => pickA us ws [.inr 1, .inr 0])
  kb_cross_2 : KBd K (fd 4) ["one", "other"] 2 [] (fun us _ => us)
  m__law_start : mg "_law_start" = some (.ref (ad 5))
  k__law_start : PySem.W.keepIn K (.ref (ad 5)) = true
  F__law_start : FunD K "_law_start" "_law_start" (defArgs st__law_start) (defBody st__law_start) (defScope st__law_start) [] [] (ad 5) (fd 5)
  kb__law_start_1 : KBd K (fd 5) ["_law_script"] 1 [] (fun us _ => us)
  m__law_pull : mg "_law_pull" = some (.ref (ad 6))
  k__law_pull : PySem.W.keepIn K (.ref (ad 6)) = true
  F__law_pull : FunD K "_law_pull" "_law_pull" (defArgs st__law_pull) (defBody st__law_pull) (defScope st__law_pull) [] [] (ad 6) (fd 6)
  kb__law_pull_2 : KBd K (fd 6) ["_law_bag", "_law_many"] 2 [] (fun us _ => us)
  m__law_pick : mg "_law_pick" = some (.ref (ad 7))
  k__law_pick : PySem.W.keepIn K (.ref (ad 7)) = true
  F__law_pick : FunD K "_law_pick" "_law_pick" (defArgs st__law_pick) (defBody st__law_pick) (defScope st__law_pick) [] [] (ad 7) (fd 7)
  kb__law_pick_2 : KBd K (fd 7) ["_law_bag", "_law_some"] 2 [] (fun us _ => us)
  m__law_sort : mg "_law_sort" = some (.ref (ad 8))
  k__law_sort : PySem.W.keepIn K (.ref (ad 8)) = true
  F__law_sort : FunD K "_law_sort" "_law_sort" (defArgs st__law_sort) (defBody st__law_sort) (defScope st__law_sort) [] [] (ad 8) (fd 8)
  kb__law_sort_1 : KBd K (fd 8) ["_law_thing"] 1 [] (fun us _ => us)
  m__law_same : mg "_law_same" = some (.ref (ad 9))
  k__law_same : PySem.W.keepIn K (.ref (ad 9)) = true
  F__law_same : FunD K "_law_same" "_law_same" (defArgs st__law_same) (defBody st__law_same) (defScope st__law_same) [] [] (ad 9) (fd 9)
  kb__law_same_2 : KBd K (fd 9) ["_law_found", "_law_due"] 2 [] (fun us _ => us)
  m__law_stray : mg "_law_stray" = some (.ref (ad 10))
  k__law_stray : PySem.W.keepIn K (.ref (ad 10)) = true
  F__law_stray : FunD K "_law_stray" "_law_stray" (defArgs st__law_stray) (defBody st__law_stray) (defScope st__law_stray) [] [] (ad 10) (fd 10)
  kb__law_stray_1 : KBd K (fd 10) ["_law_bag"] 1 [] (fun us _ => us)
  m_law : mg "law" = some (.ref (ad 11))
  k_law : PySem.W.keepIn K (.ref (ad 11)) = true
  F_law : FunD K "law" "law" (defArgs st_law) (defBody st_law) (defScope st_law) [] [] (ad 11) (fd 11)
  b_abs : mg "abs" = none
  b_all : mg "all" = none
  b_bool : mg "bool" = none
  b_int : mg "int" = none
  b_isinstance : mg "isinstance" = none
  b_len : mg "len" = none
  b_list : mg "list" = none
  b_range : mg "range" = none
  b_str : mg "str" = none
  b_tuple : mg "tuple" = none
  b_zip : mg "zip" = none
  c_FARTHEST : ∃ u, mg "FARTHEST" = some u ∧ KC (.int 1000000) u
  c_LETTERS : ∃ u, mg "LETTERS" = some u ∧ KC (.str "abcdefghijklmnopqrstuvwxyz") u
  c_LONGEST_NAME : ∃ u, mg "LONGEST_NAME" = some u ∧ KC (.int 8) u
theorem isi_int {K : PySem.W.Frag} : ∀ C ∈ CS, ClsI K C ∧ PySem.W.kitOne K (.ref C) (.type (Kd.nm .int)) = some false := fun _ h => nomatch h
theorem isi_bool {K : PySem.W.Frag} : ∀ C ∈ CS, ClsI K C ∧ PySem.W.kitOne K (.ref C) (.type (Kd.nm .bl)) = some false := fun _ h => nomatch h
theorem isi_str {K : PySem.W.Frag} : ∀ C ∈ CS, ClsI K C ∧ PySem.W.kitOne K (.ref C) (.type (Kd.nm .str)) = some false := fun _ h => nomatch h
theorem isi_list {K : PySem.W.Frag} : ∀ C ∈ CS, ClsI K C ∧ PySem.W.kitOne K (.ref C) (.type (Kd.nm .lst)) = some false := fun _ h => nomatch h
theorem isi_tuple {K : PySem.W.Frag} : ∀ C ∈ CS, ClsI K C ∧ PySem.W.kitOne K (.ref C) (.type (Kd.nm .tup)) = some false := fun _ h => nomatch h

end W10
set_option Elab.async false
set_option linter.all false
set_option maxRecDepth 100000
set_option maxHeartbeats 4000000
namespace W10
open PySem PySem.Spec PyProof.Rows L2 DL

/-- the law's bag: cells, place, rest of a great cell, seed, count -/
structure Bag where
  cells : List Int
  pos : Nat
  great : Int
  seed : Int
  cnt : Int
def Bag.mo (b : Bag) : MO := .lst [.lst (b.cells.map .int), .int b.pos, .int b.great, .int b.seed, .int b.cnt]
structure Bag.Ok (b : Bag) : Prop where
  s0 : 0 ≤ b.seed
  s1 : b.seed < 4294967296
theorem mul_small {i j : Int} (h0 : 0 ≤ i) (h1 : i < 18446744073709551616) : MulOk i j := .inl (.inl ⟨by omega, by omega⟩)
theorem mul_smallR {i j : Int} (h0 : -18446744073709551616 < j) (h1 : j < 18446744073709551616) : MulOk i j := .inl (.inr ⟨by omega, by omega⟩)
theorem fmod_lt' {i j : Int} (h : 0 < j) : 0 ≤ i.fmod j ∧ i.fmod j < j := by
  rw [Int.fmod_eq_emod_of_nonneg _ (Int.le_of_lt h)]
  exact ⟨Int.emod_nonneg _ (by omega), Int.emod_lt_of_pos _ h⟩
theorem log2_small {j : Int} (h0 : 0 < j) (h1 : j < 18446744073709551616) : j.natAbs.log2 < 9000 := by
  have : j.natAbs < 2 ^ 64 := by omega
  exact Nat.lt_of_lt_of_le (PySem.Flt.log2_lt_of (by decide) this) (by decide)
local macro_rules | `(tactic| walk_at "sc") => `(tactic| first | assumption | rfl | exact Nat.le_of_ble_eq_true rfl | decide | omega | exact mul_small (by omega) (by omega) | exact mul_smallR (by omega) (by omega) | exact ⟨by decide, by decide, by decide⟩ | exact ⟨by omega, by assumption⟩ | exact ⟨by decide, log2_small (by decide) (by decide)⟩)
local macro_rules | `(tactic| walk_at "go1") => `(tactic| first | refine ⟨_, rfl, ?_⟩ | refine ⟨rfl, ?_⟩ | refine ⟨_, by assumption, ?_⟩ | refine ⟨_, mup_same, ?_⟩ | refine eqI ?_ | refine neI ?_ | refine iteT ?_ | refine iteF ?_ | refine ⟨(by walk_at "sc"), ?_⟩)
local macro_rules | `(tactic| walk_at "go") => `(tactic| repeat walk_at "go1")

def ph__law_start : Ct := fun ds M k _ => ∃ ns : List Int, ds = [.scr ns] ∧ ns.length ≤ 63 ∧ ∀ p b, M p = none → Bag.Ok b → k (.cel p) (mup M p b.mo)
theorem ok__law_start {K : PySem.W.Frag} {mg : Str → Option Value} {ad : Nat → Addr} {fd : Nat → FuncData} {P : Program} {w : World} {base : Heap} (T : Txt K mg ad fd) : FnOk P w K mg base (L2.CX P w) 1 (ad 5) (fd 5) ["_law_script"] (spD K 1 ph__law_start) := by
  refine fn_D T.F__law_start sc__law_start rfl fun cdv A outer s H E hr hp ho => ⟨_, (b_one (s_ret (d_lstM (a_cons (d_callTy c_list rfl T.b_list boot_list' (a_cons (d_slice sl_D (dv 0) o_none (o_some d_int)) a_nil)) (a_cons d_int (a_cons d_int (a_cons (d_op o_add d_int (d_callB c_len rfl T.b_len boot_len' (a_cons (dv 0) a_nil))) (a_cons d_int a_nil)))))))), ?_⟩
  rintro ds M k x hl ⟨ns, rfl, hn, q⟩
  refine ⟨_, rfl, _, rfl, _, rfl, ?_⟩
  refine ⟨by show 5 ≤ sizeLine; decide, fun p hp => ?_⟩
  exact q p ⟨cutD ns none (some 63), 0, 0, 49290 + ns.length, 0⟩ hp ⟨by show 0 ≤ (49290 : Int) + _; omega, by show (49290 : Int) + _ < _; omega⟩

def ph__law_pull : Ct := fun ds M k _ => ∃ (p : Addr) (b : Bag) (many : Int), ds = [.cel p, .int many] ∧ M p = some b.mo ∧ b.Ok ∧ 0 < many ∧ many.natAbs.log2 < 9000 ∧ ∀ (d : Int) (b' : Bag), 0 ≤ d → d < many → b'.Ok → k (.int d) (mup M p b'.mo)
theorem ok__law_pull {K : PySem.W.Frag} {mg : Str → Option Value} {ad : Nat → Addr} {fd : Nat → FuncData} {P : Program} {w : World} {base : Heap} (T : Txt K mg ad fd) : FnOk P w K mg base (L2.CX P w) 1 (ad 6) (fd 6) ["_law_bag", "_law_many"] (spD K 2 ph__law_pull) := by
  refine fn_D T.F__law_pull sc__law_pull rfl fun cdv A outer s H E hr hp ho => ⟨_, (b_cut (s_if (DPW.t (w_and (t_cmp (o_eq hr.units) (d_ix x_ix (dv 0) d_int (fun _ _ => rfl)) d_int (nomark _)) (w_and1 (t_cmp o_lt (d_ix x_ix (dv 0) d_int (fun _ _ => rfl)) (d_callB c_len rfl T.b_len boot_len' (a_cons (d_ix x_ix (dv 0) d_int (fun _ _ => rfl)) a_nil)) (nomark _))))) (b_cons (s_set (i := 2) sc__law_pull.nd rfl (Or.inl rfl) (d_ix x_ix (d_ix x_ix (dv 0) d_int (fun _ _ => rfl)) (d_ix x_ix (dv 0) d_int (fun _ _ => rfl)) (fun _ _ => rfl)))
  (b_cons (s_setIx (d_op o_add (d_ix x_ix (dv 0) d_int (fun _ _ => rfl)) d_int) (dv 0) d_int)
  (b_one (s_if (t_cmp o_ge (dv 2) (d_op o_pow d_int d_int) (nomark _)) (b_one (s_setIx (dv 2) (dv 0) d_int)) (b_one (s_setIx (d_op o_mod (d_callTy c_int rfl T.b_int boot_int' (a_cons (d_op o_add (d_op o_add (d_op o_mul (d_ix x_ix (dv 0) d_int (fun _ _ => rfl)) d_int) (d_op o_mul (d_op o_mod (d_callTy c_int rfl T.b_int boot_int' (a_cons (dv 2) a_nil)) d_int) d_int)) d_int) a_nil)) d_int) (dv 0) d_int)))))) b_nil)
  (b_cut (s_if (t_cmp o_gt (d_ix x_ix (dv 0) d_int (fun _ _ => rfl)) d_int (nomark _)) (b_cons (s_set (i := 3) sc__law_pull.nd rfl (Or.inl rfl) (d_op o_mod (d_callTy c_int rfl T.b_int boot_int' (a_cons (d_ix x_ix (dv 0) d_int (fun _ _ => rfl)) a_nil)) (dv 1)))
  (b_cons (s_setIx (d_op o_fdiv (d_ix x_ix (dv 0) d_int (fun _ _ => rfl)) (dv 1)) (dv 0) d_int)
  (b_one (s_ret (dv 3))))) b_nil)
  (b_cons (s_setIx (d_op o_add (d_ix x_ix (dv 0) d_int (fun _ _ => rfl)) d_int) (dv 0) d_int)
  (b_cons (s_set (i := 4) sc__law_pull.nd rfl (Or.inl rfl) (d_ix x_ix (dv 0) d_int (fun _ _ => rfl)))
  (b_cons (s_setIx (d_op o_mod (d_callTy c_int rfl T.b_int boot_int' (a_cons (d_op o_add (d_op o_add (d_op o_add (d_op o_mul (dv 4) (dv 4)) (d_op o_mul (dv 4) d_int)) (d_op o_mul (d_ix x_ix (dv 0) d_int (fun _ _ => rfl)) d_int)) d_int) a_nil)) d_int) (dv 0) d_int)
  (b_one (s_ret (d_op o_mod (d_callTy c_int rfl T.b_int boot_int' (a_cons (d_op o_add (d_op o_fdiv (d_ix x_ix (dv 0) d_int (fun _ _ => rfl)) d_int) (d_op o_mul (d_op o_mod (d_callTy c_int rfl T.b_int boot_int' (a_cons (d_ix x_ix (dv 0) d_int (fun _ _ => rfl)) a_nil)) d_int) d_int)) a_nil)) (dv 1))))))))), ?_⟩
  rintro ds M k x hl ⟨p, b, many, rfl, hm, hb, h0, hz, q⟩
  obtain ⟨cells, pos, great, seed, cnt⟩ := b
  obtain ⟨s0, s1⟩ := hb
  simp only at s0 s1
  refine ⟨fun ρ1 M1 => ∃ (b1 : Bag) (r : Option D), b1.Ok ∧ M1 = mup M p b1.mo ∧ ρ1 = [some (.cel p), some (.int many), r, none, none], ?_, ?_⟩
  · walk_at "go"
    refine ite_b (fun e1 => ?_) (fun e1 => ?_)
    · walk_at "go"
      refine ite_b (fun e2 => ?_) (fun e2 => ?_)
      · have e2 := of_decide_eq_true e2
        simp only [List.length_map] at e2
        obtain ⟨c, hc⟩ : ∃ c, cells[pos]? = some c := ⟨cells[pos]'(by omega), by simp⟩
        refine ⟨_, rfl, _, hm, _, rfl, _, rfl, _, hm, _, rfl, .int c, atI_nat (by simp [hc]), ?_⟩
        refine ⟨_, rfl, _, hm, _, rfl, ⟨_, rfl, p, _, _, _, rfl, rfl, hm, rfl, ?_⟩⟩
        refine ⟨_, rfl, ⟨by decide, by decide, by decide⟩, ⟨_, rfl, ?_⟩⟩
        refine ite_b (fun e3 => ?_) (fun e3 => ?_)
        · refine ⟨_, rfl, _, rfl, p, _, _, _, rfl, rfl, mup_same, rfl, ?_⟩
          refine ⟨⟨cells, pos + 1, c, seed, cnt⟩, some (.int c), ⟨s0, s1⟩, ?_, rfl⟩
          rw [mup_mup]
          rfl
        · refine ⟨_, rfl, _, mup_same, _, rfl, mul_small s0 (by show seed < _; omega), _, rfl, (show (2147483489 : Int) ≠ 0 by decide), mul_smallR (by decide) (by decide), (show (2147483629 : Int) ≠ 0 by decide), ?_⟩
          refine ⟨_, rfl, p, _, _, _, rfl, rfl, mup_same, rfl, ?_⟩
          refine ⟨⟨cells, pos + 1, great, (seed * 40237 + c.fmod 2147483489 * 6581 + 37).fmod 2147483629, cnt⟩, some (.int c), ⟨(fmod_lt' (show (0 : Int) < 2147483629 by decide)).1, Int.lt_trans (fmod_lt' (show (0 : Int) < 2147483629 by decide)).2 (by decide)⟩, ?_, rfl⟩
          rw [mup_mup]
          rfl
      · refine ⟨⟨cells, pos, great, seed, cnt⟩, none, ⟨s0, s1⟩, ?_, rfl⟩
        funext a
        unfold mup
        split
        · rename_i e; rw [e]; exact hm
        · rfl
    · refine iteF ⟨⟨cells, pos, great, seed, cnt⟩, none, ⟨s0, s1⟩, ?_, rfl⟩
      funext a
      unfold mup
      split
      · rename_i e; rw [e]; exact hm
      · rfl
  · rintro ρ1 M1 ⟨⟨cells, pos, great, seed, cnt⟩, r, ⟨s0, s1⟩, rfl, rfl⟩
    simp only at s0 s1
    refine ⟨fun ρ2 M2 => M2 = mup M p (Bag.mo ⟨cells, pos, great, seed, cnt⟩) ∧ ρ2 = [some (.cel p), some (.int many), r, none, none], ?_, ?_⟩
    · refine ⟨_, rfl, _, mup_same, _, rfl, ⟨_, rfl, ?_⟩⟩
      refine ite_b (fun e => ?_) (fun e => ?_)
      · refine ⟨_, rfl, _, mup_same, _, rfl, _, rfl, by show many ≠ 0; omega, ?_⟩
        refine ⟨_, rfl, _, mup_same, _, rfl, _, rfl, ⟨by omega, hz⟩, _, rfl, p, _, _, _, rfl, rfl, mup_same, rfl, ?_⟩
        refine ⟨_, rfl, ?_⟩
        have q2 := q (great.fmod many) ⟨cells, pos, great.fdiv many, seed, cnt⟩ (fmod_lt' h0).1 (fmod_lt' h0).2 ⟨s0, s1⟩
        rw [mup_mup]
        exact q2
      · exact ⟨rfl, rfl⟩
    · rintro ρ2 M2 ⟨rfl, rfl⟩
      refine ⟨_, rfl, _, mup_same, _, rfl, ⟨_, rfl, p, _, _, _, rfl, rfl, mup_same, rfl, ?_⟩⟩
      refine ⟨_, rfl, _, mup_same, _, rfl, ?_⟩
      refine ⟨_, rfl, _, rfl, mul_small s0 (by show seed < _; omega), _, rfl, mul_small s0 (by show seed < _; omega), _, rfl, _, mup_same, _, rfl, mul_smallR (by decide) (by decide), (show (2147483579 : Int) ≠ 0 by decide), ?_⟩
      refine ⟨_, rfl, p, _, _, _, rfl, rfl, mup_same, rfl, ?_⟩
      refine ⟨_, rfl, _, mup_same, _, rfl, ⟨by decide, log2_small (by decide) (by decide)⟩, ?_⟩
      refine ⟨_, rfl, _, mup_same, _, rfl, (show (8059 : Int) ≠ 0 by decide), mul_smallR (by decide) (by decide), ?_⟩
      refine ⟨_, rfl, by show many ≠ 0; omega, ?_⟩
      rw [mup_mup, mup_mup]
      exact q _ ⟨cells, pos, great, (seed * seed + seed * 28657 + (cnt + 1) * 1300367 + 70001).fmod 2147483579, cnt + 1⟩ (fmod_lt' h0).1 (fmod_lt' h0).2 ⟨(fmod_lt' (show (0 : Int) < 2147483579 by decide)).1, Int.lt_trans (fmod_lt' (show (0 : Int) < 2147483579 by decide)).2 (by decide)⟩

end W10
set_option Elab.async false
set_option linter.all false
set_option maxRecDepth 100000
set_option maxHeartbeats 4000000
namespace W10
open PySem PySem.Spec PyProof.Rows L2 DL
local macro_rules | `(tactic| walk_at "sc") => `(tactic| first | assumption | rfl | exact Nat.le_of_ble_eq_true rfl | decide | omega | exact mul_small (by omega) (by omega) | exact mul_smallR (by omega) (by omega) | exact ⟨by decide, by decide, by decide⟩ | exact ⟨by omega, by assumption⟩ | exact ⟨by decide, log2_small (by decide) (by decide)⟩)
local macro_rules | `(tactic| walk_at "go1") => `(tactic| first | refine ⟨_, rfl, ?_⟩ | refine ⟨rfl, ?_⟩ | refine ⟨_, by assumption, ?_⟩ | refine ⟨_, mup_same, ?_⟩ | refine eqI ?_ | refine neI ?_ | refine iteT ?_ | refine iteF ?_ | refine ⟨(by walk_at "sc"), ?_⟩)
local macro_rules | `(tactic| walk_at "go") => `(tactic| repeat walk_at "go1")

def ph__law_pick : Ct := fun ds M k _ => ∃ (p : Addr) (b : Bag) (s : D), ds = [.cel p, s] ∧ M p = some b.mo ∧ b.Ok ∧ ((∃ es, s = .lst es ∧ 0 < es.length ∧ es.length ≤ 1000 ∧ ∀ d ∈ es, ∀ b' : Bag, b'.Ok → k d (mup M p b'.mo)) ∨
  ∃ z : Str, s = .str z ∧ 0 < z.length ∧ z.length ≤ 1000 ∧ ∀ c ∈ z.cps.toList, ∀ b' : Bag, b'.Ok → k (.str ⟨#[c]⟩) (mup M p b'.mo))
theorem atI_some {α : Type} {xs : List α} {d : Int} (h0 : 0 ≤ d) (h1 : d < xs.length) : ∃ v, atI xs d = some v ∧ v ∈ xs := by
  have h : d.toNat < xs.length := by omega
  refine ⟨xs[d.toNat], ?_, List.getElem_mem h⟩
  have e : d = (d.toNat : Int) := by omega
  exact (congrArg (atI xs) e).trans (atI_nat (xs := xs) (j := d.toNat) (v := xs[d.toNat]) (by simp))
theorem ok__law_pick {K : PySem.W.Frag} {mg : Str → Option Value} {ad : Nat → Addr} {fd : Nat → FuncData} {P : Program} {w : World} {base : Heap} (T : Txt K mg ad fd) : FnOk P w K mg base (L2.CX P w) 2 (ad 7) (fd 7) ["_law_bag", "_law_some"] (spD K 2 ph__law_pick) := by
  have G__law_pull := ok__law_pull (P := P) (w := w) (base := base) T
  refine fn_D T.F__law_pick sc__law_pick rfl fun cdv A outer s H E hr hp ho => ⟨_, (b_one (s_ret (d_ix x_ix (dv 1) (d_call G__law_pull (hr.mono (by decide)) rfl T.m__law_pull T.k__law_pull T.kb__law_pull_2 (by intro _ _ h _; exact h) hp (a_cons (dv 0) (a_cons (d_callB c_len rfl T.b_len boot_len' (a_cons (dv 1) a_nil)) a_nil))) (fun _ _ => rfl)))), ?_⟩
  rintro ds M k x hl ⟨p, b, s, rfl, hm, hb, q⟩
  rcases q with ⟨es, rfl, l0, l1, q⟩ | ⟨z, rfl, l0, l1, q⟩
  · refine ⟨_, rfl, _, rfl, _, rfl, rfl, p, b, _, rfl, hm, hb, by show (0 : Int) < es.length; omega, log2_small (by show (0 : Int) < es.length; omega) (by show (es.length : Int) < _; omega), fun d b' h0 h1 hb' => ?_⟩
    obtain ⟨v, hv, mv⟩ := atI_some h0 h1
    exact ⟨v, hv, q v mv b' hb'⟩
  · refine ⟨_, rfl, _, rfl, _, rfl, ⟨Nat.le_trans l1 (by decide), ?_⟩⟩
    refine ⟨rfl, p, b, _, rfl, hm, hb, by show (0 : Int) < z.length; omega, log2_small (by show (0 : Int) < z.length; omega) (by show (z.length : Int) < _; omega), fun d b' h0 h1 hb' => ?_⟩
    have hz : z.cps.toList.length = z.length := by simp [Str.length]
    obtain ⟨v, hv, mv⟩ := atI_some (xs := z.cps.toList) h0 (by rw [hz]; exact h1)
    exact ⟨Nat.le_trans l1 (by decide), v, hv, q v mv b' hb'⟩

def srt : Kd → Int
  | .non => 0 | .bl => 1 | .int => 2 | .str => 3 | .lst => 4 | .tup => 5
def ph__law_sort : Ct := fun ds M k _ => ∃ u v, ds = [u] ∧ kd u = some v ∧ k (.int (srt v)) M
theorem ok__law_sort {K : PySem.W.Frag} {mg : Str → Option Value} {ad : Nat → Addr} {fd : Nat → FuncData} {P : Program} {w : World} {base : Heap} (T : Txt K mg ad fd) : FnOk P w K mg base (L2.CX P w) 1 (ad 8) (fd 8) ["_law_thing"] (spD K 1 ph__law_sort) := by
  refine fn_D T.F__law_sort sc__law_sort rfl fun cdv A outer s H E hr hp ho => ⟨_, (b_cons (s_set (i := 1) sc__law_sort.nd rfl (Or.inl rfl) (d_lst (a_cons (d_cmp o_isN (dv 0) d_non (nomark _)) (a_cons (d_isi .bl CS (by decide) isi_bool rfl T.b_isinstance rfl T.b_bool (by decide +kernel) (dv 0)) (a_cons (d_isi .int CS (by decide) isi_int rfl T.b_isinstance rfl T.b_int (by decide +kernel) (dv 0)) (a_cons (d_isi .str CS (by decide) isi_str rfl T.b_isinstance rfl T.b_str (by decide +kernel) (dv 0)) a_nil))))))
  (b_cons (s_set (i := 1) sc__law_sort.nd rfl (Or.inl rfl) (d_op o_add (dv 1) (d_lst (a_cons (d_isi .lst CS (by decide) isi_list rfl T.b_isinstance rfl T.b_list (by decide +kernel) (dv 0)) (a_cons (d_isi .tup CS (by decide) isi_tuple rfl T.b_isinstance rfl T.b_tuple (by decide +kernel) (dv 0)) (a_cons d_bl a_nil))))))
  (b_one (s_ret (d_bm PySem.F.plainAttrs_list PySem.F.slot_list_index PySem.F.type_list_index m_index (dv 1) (a_cons d_bl a_nil)))))), ?_⟩
  rintro ds M k x hl ⟨u, v, rfl, hv, q⟩
  cases u <;> cases hv <;> (walk_at "go"; exact q)

end W10
set_option Elab.async false
set_option linter.all false
set_option maxRecDepth 100000
set_option maxHeartbeats 4000000
namespace W10
open PySem PySem.Spec PyProof.Rows L2 DL
local macro_rules | `(tactic| walk_at "sc") => `(tactic| first | assumption | rfl | exact Nat.le_of_ble_eq_true rfl | decide | omega | exact mul_small (by omega) (by omega) | exact mul_smallR (by omega) (by omega) | exact ⟨by decide, by decide, by decide⟩ | exact ⟨by omega, by assumption⟩ | exact ⟨by decide, log2_small (by decide) (by decide)⟩)
local macro_rules | `(tactic| walk_at "go1") => `(tactic| first | refine ⟨_, rfl, ?_⟩ | refine ⟨rfl, ?_⟩ | refine ⟨_, by assumption, ?_⟩ | refine ⟨_, mup_same, ?_⟩ | refine eqI ?_ | refine neI ?_ | refine iteT ?_ | refine iteF ?_ | refine ⟨(by walk_at "sc"), ?_⟩)
local macro_rules | `(tactic| walk_at "go") => `(tactic| repeat walk_at "go1")

mutual
/-- pure data at most n deep, its lists and tuples short -/
def pureD : Nat → D → Bool
  | _, .non => true
  | _, .bl _ => true
  | _, .int _ => true
  | _, .str _ => true
  | n + 1, .lst ds => pureDs n ds && decide (ds.length ≤ 100000)
  | n + 1, .tup ds => pureDs n ds && decide (ds.length ≤ 100000)
  | _, _ => false
def pureDs : Nat → List D → Bool
  | _, [] => true
  | n, d :: ds => pureD n d && pureDs n ds
end
theorem pureDs_mem {n : Nat} : ∀ {ds : List D} {d : D}, pureDs n ds = true → d ∈ ds → pureD n d = true
  | [], _, _, h => by cases h
  | e :: ds, d, h, hm => by
    simp only [pureDs, Bool.and_eq_true] at h
    rcases List.mem_cons.mp hm with z | z
    · rw [z]; exact h.1
    · exact pureDs_mem h.2 z
def ph__law_same (n : Nat) : Ct := fun ds M k _ => ∃ u, ds = [u, u] ∧ pureD n u = true ∧ k (.bl true) M
theorem zips_same : ∀ ds : List D, zips ds ds = ds.map fun d => .tup [d, d]
  | [] => rfl
  | d :: ds => by simp [zips, zips_same ds]
theorem all_true : ∀ n : Nat, (List.replicate n true).all id = true
  | 0 => rfl
  | n + 1 => by simp [List.replicate_succ]
theorem map_const (ds : List D) : ds.map (fun _ => D.bl true) = (List.replicate ds.length true).map D.bl := by
  induction ds with
  | nil => rfl
  | cons d ds ih => simp [List.replicate_succ, ih]
theorem gT2_mono {i j : Nat} {d : D} {ρ : DEnv} {M : Mm} (K K' : DEnv → Mm → Prop) (h : ∀ ρ M, K ρ M → K' ρ M) (q : gTupD 2 (gsCons (gN i) (gsCons (gN j) gsNil)) d ρ M K) : gTupD 2 (gsCons (gN i) (gsCons (gN j) gsNil)) d ρ M K' := by
  obtain ⟨ds, e, l, d1, r1, e1, d2, r2, e2, e3, q⟩ := q
  exact ⟨ds, e, l, d1, r1, e1, d2, r2, e2, e3, h _ _ q⟩

def phPrev : Nat → Ct
  | 0 => fun _ _ _ _ => False
  | n + 1 => ph__law_same n
theorem fn_false {P : Program} {w : World} {K : PySem.W.Frag} {mg : Str → Option Value} {base : Heap} {CX : CXT} {k n : Nat} {f : Addr} {fd : FuncData} {ps : List Str} : FnOk P w K mg base CX k f fd ps (spD K n fun _ _ _ _ => False) :=
  ⟨fun _ _ _ _ h => by obtain ⟨_, _, _, _, _, _, _, _, z, _⟩ := h; exact z.elim, fun _ _ _ _ _ _ _ _ _ _ _ _ _ h => by obtain ⟨_, _, _, _, _, _, _, _, z, _⟩ := h; exact z.elim⟩
theorem iteRefl {α : Type} {a : α} [DecidableEq α] {A B : Prop} (h : A) : if decide (a = a) = true then A else B := by
  rw [if_pos (by simp)]
  exact h
theorem eqk_refl_int {i : Int} {M : Mm} {k : DK} (q : k (.bl true) M) : EqK (.int i) (.int i) M k := eqI (by simpa using q)
theorem eqk_refl_str {i : Str} {M : Mm} {k : DK} (q : k (.bl true) M) : EqK (.str i) (.str i) M k := .of (eqD_str i i) (by simpa using q)
theorem eqk_refl_bl {i : Bool} {M : Mm} {k : DK} (q : k (.bl true) M) : EqK (.bl i) (.bl i) M k := .of (eqD_bl i i) (by simpa using q)
theorem eqk_refl_non {M : Mm} {k : DK} (q : k (.bl true) M) : EqK .non .non M k := .of eqD_non q
theorem step_same {K : PySem.W.Frag} {mg : Str → Option Value} {ad : Nat → Addr} {fd : Nat → FuncData} {P : Program} {w : World} {base : Heap} (T : Txt K mg ad fd) (n : Nat) (G__law_same : FnOk P w K mg base (L2.CX P w) (n + 1) (ad 9) (fd 9) ["_law_found", "_law_due"] (spD K 2 (phPrev n))) : FnOk P w K mg base (L2.CX P w) (n + 2) (ad 9) (fd 9) ["_law_found", "_law_due"] (spD K 2 (ph__law_same n)) := by
  have G__law_sort := ok__law_sort (P := P) (w := w) (base := base) T
  refine fn_D T.F__law_same sc__law_same rfl fun cdv A outer s H E hr hp ho => ⟨_, (b_cons (s_if (t_cmp (o_ne hr.units) (d_call G__law_sort (hr.mono (by omega)) rfl T.m__law_sort T.k__law_sort T.kb__law_sort_1 (by intro _ _ h _; exact h) hp (a_cons (dv 0) a_nil)) (d_call G__law_sort (hr.mono (by omega)) rfl T.m__law_sort T.k__law_sort T.kb__law_sort_1 (by intro _ _ h _; exact h) hp (a_cons (dv 1) a_nil)) (nomark _)) (b_one (s_ret d_bl)) b_nil)
  (b_cons (s_if (t_cmp o_in (d_call G__law_sort (hr.mono (by omega)) rfl T.m__law_sort T.k__law_sort T.kb__law_sort_1 (by intro _ _ h _; exact h) hp (a_cons (dv 1) a_nil)) (d_tup (a_cons d_int (a_cons d_int a_nil))) rfl) (b_one (s_ret (d_and (d_cmp (o_eq hr.units) (d_callB c_len rfl T.b_len boot_len' (a_cons (dv 0) a_nil)) (d_callB c_len rfl T.b_len boot_len' (a_cons (dv 1) a_nil)) (nomark _)) (d_one (d_callB (c_all rfl) rfl T.b_all boot_all' (a_cons (d_lc (own := [("_law_a", 2), ("_law_b", 3)]) rfl sc__law_same.nd (i_zip rfl T.b_zip (a_cons (dv 0) (a_cons (dv 1) a_nil))) (blkOk_by (own := [("_law_a", 2), ("_law_b", 3)]) (N := ["_law_found", "_law_due", "_law_a", "_law_b"]) (sc := (defScope st__law_same)) (by decide +kernel)) (gp_tup (n := 2) (gps_cons (gp_name (by decide)) (gps_cons (gp_name (by decide)) gps_nil))) (fun _ _ _ _ _ => (pg_tup (n := 2) rfl (pgs_cons (pg_name (i := 2) sc__law_same.nd rfl (Or.inl rfl)) (pgs_cons (pg_name (i := 3) sc__law_same.nd rfl (Or.inl rfl)) pgs_nil)))) (fun _ _ _ _ _ => ts_nil) (fun _ _ _ _ _ => (d_call G__law_same (hr.mono (by omega)) rfl T.m__law_same T.k__law_same T.kb__law_same_2 (by intro _ _ h _; exact h) passL (a_cons (dv 2) (a_cons (dv 3) a_nil))))) a_nil)))))) b_nil)
  (b_one (s_ret (d_cmp (o_eq hr.units) (dv 0) (dv 1) (nomark _)))))), ?_⟩
  rintro ds M k x hl ⟨u, rfl, hu, q⟩
  have seq : ∀ ds : List D, pureDs (n - 1) ds = true → 0 < n → ds.length ≤ 100000 → ∀ d ∈ zips ds ds, ∀ K' : DK, K' (.bl true) M → gTupD 2 (gsCons (gN 2) (gsCons (gN 3) gsNil)) d (wipeD (startD ["_law_found", "_law_due", "_law_a", "_law_b"] [u, u]) [2, 3]) M fun ρ1 M2 => dCall 2 (phPrev n) (fun us _ => us) (dCons (dVar 2) (dCons (dVar 3) dNil)) ρ1 M2 K' (fun _ _ _ => False) := by
    intro ds hp hn hl d hd K' hK
    rw [zips_same] at hd
    obtain ⟨e, he, rfl⟩ := List.mem_map.mp hd
    refine ⟨[e, e], rfl, rfl, e, [e], rfl, e, [], rfl, rfl, _, rfl, _, rfl, rfl, ?_⟩
    cases n with
    | zero => omega
    | succ n => exact ⟨e, rfl, pureDs_mem hp he, hK⟩
  cases u with
  | non => walk_at "go"; refine ⟨_, _, rfl, rfl, ?_⟩; walk_at "go"; refine ⟨_, _, rfl, rfl, ?_⟩; walk_at "go"; refine ⟨_, _, rfl, rfl, ?_⟩; walk_at "go"; exact eqk_refl_non q
  | bl b => walk_at "go"; refine ⟨_, _, rfl, rfl, ?_⟩; walk_at "go"; refine ⟨_, _, rfl, rfl, ?_⟩; walk_at "go"; refine ⟨_, _, rfl, rfl, ?_⟩; walk_at "go"; exact eqk_refl_bl q
  | int b => walk_at "go"; refine ⟨_, _, rfl, rfl, ?_⟩; walk_at "go"; refine ⟨_, _, rfl, rfl, ?_⟩; walk_at "go"; refine ⟨_, _, rfl, rfl, ?_⟩; walk_at "go"; (show k _ M); simpa using q
  | str b => walk_at "go"; refine ⟨_, _, rfl, rfl, ?_⟩; walk_at "go"; refine ⟨_, _, rfl, rfl, ?_⟩; walk_at "go"; refine ⟨_, _, rfl, rfl, ?_⟩; walk_at "go"; exact eqk_refl_str q
  | lst ds =>
    cases n with
    | zero => cases hu
    | succ n =>
      simp only [pureD, Bool.and_eq_true, decide_eq_true_eq] at hu
      walk_at "go"; refine ⟨_, _, rfl, rfl, ?_⟩; walk_at "go"; refine ⟨_, _, rfl, rfl, ?_⟩; walk_at "go"; refine ⟨_, _, rfl, rfl, ?_⟩; walk_at "go"
      refine iteRefl ?_
      refine ⟨_, rfl, _, rfl, ?_⟩
      have hz : (zips ds ds).length < sizeLine := by
        rw [zips_same, List.length_map]
        exact Nat.lt_of_le_of_lt hu.2 (by decide)
      refine lc_map (fun _ => .bl true) hz (seq ds hu.1 (Nat.succ_pos n) hu.2) (fun d K K' => gT2_mono K K') ?_
      refine ⟨List.replicate (zips ds ds).length true, by rw [map_const], ?_⟩
      rw [all_true]
      exact q
  | tup ds =>
    cases n with
    | zero => cases hu
    | succ n =>
      simp only [pureD, Bool.and_eq_true, decide_eq_true_eq] at hu
      walk_at "go"; refine ⟨_, _, rfl, rfl, ?_⟩; walk_at "go"; refine ⟨_, _, rfl, rfl, ?_⟩; walk_at "go"; refine ⟨_, _, rfl, rfl, ?_⟩; walk_at "go"
      refine iteRefl ?_
      refine ⟨_, rfl, _, rfl, ?_⟩
      have hz : (zips ds ds).length < sizeLine := by
        rw [zips_same, List.length_map]
        exact Nat.lt_of_le_of_lt hu.2 (by decide)
      refine lc_map (fun _ => .bl true) hz (seq ds hu.1 (Nat.succ_pos n) hu.2) (fun d K K' => gT2_mono K K') ?_
      refine ⟨List.replicate (zips ds ds).length true, by rw [map_const], ?_⟩
      rw [all_true]
      exact q
  | _ => (cases n <;> simp [pureD] at hu)

end W10
set_option Elab.async false
set_option linter.all false
set_option maxRecDepth 100000
set_option maxHeartbeats 4000000
namespace W10
open PySem PySem.Spec PyProof.Rows L2 DL
local macro_rules | `(tactic| walk_at "sc") => `(tactic| first | assumption | rfl | exact Nat.le_of_ble_eq_true rfl | decide | omega | exact mul_small (by omega) (by omega) | exact mul_smallR (by omega) (by omega) | exact ⟨by decide, by decide, by decide⟩ | exact ⟨by omega, by assumption⟩ | exact ⟨by decide, log2_small (by decide) (by decide)⟩)
local macro_rules | `(tactic| walk_at "go1") => `(tactic| first | refine ⟨_, rfl, ?_⟩ | refine ⟨rfl, ?_⟩ | refine ⟨_, by assumption, ?_⟩ | refine ⟨_, mup_same, ?_⟩ | refine eqI ?_ | refine neI ?_ | refine iteT ?_ | refine iteF ?_ | refine ⟨(by walk_at "sc"), ?_⟩)
local macro_rules | `(tactic| walk_at "go") => `(tactic| repeat walk_at "go1")

theorem ok__law_same {K : PySem.W.Frag} {mg : Str → Option Value} {ad : Nat → Addr} {fd : Nat → FuncData} {P : Program} {w : World} {base : Heap} (T : Txt K mg ad fd) : ∀ n : Nat, FnOk P w K mg base (L2.CX P w) (n + 2) (ad 9) (fd 9) ["_law_found", "_law_due"] (spD K 2 (ph__law_same n))
  | 0 => step_same T 0 fn_false
  | n + 1 => step_same T (n + 1) (ok__law_same T n)
def strays : List D := [.non, .bl true, .str "x", .str "1/2", .int 1, .tup [], .lst [], .tup [.int 1, .int 2], .lst [.non]]
def ph__law_stray : Ct := fun ds M k _ => ∃ (p : Addr) (b : Bag), ds = [.cel p] ∧ M p = some b.mo ∧ b.Ok ∧ ∀ u ∈ strays, ∀ b' : Bag, b'.Ok → k u (mup M p b'.mo)
theorem ok__law_stray {K : PySem.W.Frag} {mg : Str → Option Value} {ad : Nat → Addr} {fd : Nat → FuncData} {P : Program} {w : World} {base : Heap} (T : Txt K mg ad fd) : FnOk P w K mg base (L2.CX P w) 3 (ad 10) (fd 10) ["_law_bag"] (spD K 1 ph__law_stray) := by
  have G__law_pick := ok__law_pick (P := P) (w := w) (base := base) T
  refine fn_D T.F__law_stray sc__law_stray rfl fun cdv A outer s H E hr hp ho => ⟨_, (b_one (s_ret (d_call G__law_pick (hr.mono (by decide)) rfl T.m__law_pick T.k__law_pick T.kb__law_pick_2 (by intro _ _ h _; exact h) hp (a_cons (dv 0) (a_cons (d_lst (a_cons d_non (a_cons d_bl (a_cons d_str (a_cons d_str (a_cons d_int (a_cons (d_tup a_nil) (a_cons (d_lst a_nil) (a_cons (d_tup (a_cons d_int (a_cons d_int a_nil))) (a_cons (d_lst (a_cons d_non a_nil)) a_nil)))))))))) a_nil))))), ?_⟩
  rintro ds M k x hl ⟨p, b, rfl, hm, hb, q⟩
  walk_at "go"
  exact .inl ⟨_, rfl, by show 0 < 9; decide, by show 9 ≤ 1000; decide, q⟩

def ph_is_number : Ct := fun ds M k _ => ∃ u v, ds = [u] ∧ kd u = some v ∧ k (.bl (decide (v = .int))) M
theorem ok_is_number {K : PySem.W.Frag} {mg : Str → Option Value} {ad : Nat → Addr} {fd : Nat → FuncData} {P : Program} {w : World} {base : Heap} (T : Txt K mg ad fd) : FnOk P w K mg base (L2.CX P w) 1 (ad 0) (fd 0) ["value"] (spD K 1 ph_is_number) := by
  refine fn_D T.F_is_number sc_is_number rfl fun cdv A outer s H E hr hp ho => ⟨_, (b_one (s_ret (d_and (d_isi .int CS (by decide) isi_int rfl T.b_isinstance rfl T.b_int (by decide +kernel) (dv 0)) (d_one (d_not (d_isi .bl CS (by decide) isi_bool rfl T.b_isinstance rfl T.b_bool (by decide +kernel) (dv 0))))))), ?_⟩
  rintro ds M k x hl ⟨u, v, rfl, hv, q⟩
  cases u <;> cases hv <;> (walk_at "go"; exact q)

def ph_cross : Ct := fun ds M k _ => ∃ a b c d, ds = [.tup [.int a, .int b], .tup [.int c, .int d]] ∧ MulOk a d ∧ MulOk b c ∧ k (.int (a * d - b * c)) M
theorem ok_cross {K : PySem.W.Frag} {mg : Str → Option Value} {ad : Nat → Addr} {fd : Nat → FuncData} {P : Program} {w : World} {base : Heap} (T : Txt K mg ad fd) : FnOk P w K mg base (L2.CX P w) 1 (ad 4) (fd 4) ["one", "other"] (spD K 2 ph_cross) := by
  refine fn_D T.F_cross sc_cross rfl fun cdv A outer s H E hr hp ho => ⟨_, (b_one (s_ret (d_op o_sub (d_op o_mul (d_ix x_ix (dv 0) d_int (fun _ _ => rfl)) (d_ix x_ix (dv 1) d_int (fun _ _ => rfl))) (d_op o_mul (d_ix x_ix (dv 0) d_int (fun _ _ => rfl)) (d_ix x_ix (dv 1) d_int (fun _ _ => rfl)))))), ?_⟩
  rintro ds M k x hl ⟨a, b, c, d, rfl, h1, h2, q⟩
  walk_at "go"
  exact q

/-- is_name as a function -/
def isLetter (c : Nat) : Bool := decide (c ∈ ("abcdefghijklmnopqrstuvwxyz" : Str).cps.toList)
def isName (u : D) : Bool := match u with
  | .str z => decide (1 ≤ (z.length : Int)) && (decide ((z.length : Int) ≤ 8) && z.cps.toList.all isLetter)
  | _ => false
def ph_is_name : Ct := fun ds M k _ => ∃ u v, ds = [u] ∧ kd u = some v ∧ (∀ z, u = .str z → z.length ≤ 100) ∧ k (.bl (isName u)) M
def letD : D → D
  | .str z => .bl (isLetter (z.cps.toList.headD 0))
  | _ => .non
theorem ok_is_name {K : PySem.W.Frag} {mg : Str → Option Value} {ad : Nat → Addr} {fd : Nat → FuncData} {P : Program} {w : World} {base : Heap} (T : Txt K mg ad fd) : FnOk P w K mg base (L2.CX P w) 1 (ad 1) (fd 1) ["value"] (spD K 1 ph_is_name) := by
  refine fn_D T.F_is_name sc_is_name rfl fun cdv A outer s H E hr hp ho => ⟨_, (b_cons (s_if (DPW.t (w_or (t_not (t_val (d_isi .str CS (by decide) isi_str rfl T.b_isinstance rfl T.b_str (by decide +kernel) (dv 0)))) (w_or1 (t_not (t_chain o_le o_le d_int (d_callB c_len rfl T.b_len boot_len' (a_cons (dv 0) a_nil)) (d_globE rfl T.c_LONGEST_NAME)))))) (b_one (s_ret d_bl)) b_nil)
  (b_one (s_ret (d_callB (c_all rfl) rfl T.b_all boot_all' (a_cons (d_lc (own := [("letter", 1)]) rfl sc_is_name.nd (i_seq (dv 0)) (blkOk_by (own := [("letter", 1)]) (N := ["value", "letter"]) (sc := (defScope st_is_name)) (by decide +kernel)) (gp_name (by decide)) (fun _ _ _ _ _ => (pg_name (i := 1) sc_is_name.nd rfl (Or.inl rfl))) (fun _ _ _ _ _ => ts_nil) (fun _ _ _ _ _ => (d_cmp o_in (dv 1) (d_globE rfl T.c_LETTERS) rfl))) a_nil))))), ?_⟩
  rintro ds M k x hl ⟨u, v, rfl, hv, hz, q⟩
  cases u with
  | str z =>
    have hz := hz z rfl
    have hz2 : z.length ≤ sizeLine := Nat.le_trans hz (by decide)
    refine ⟨_, rfl, ⟨_, rfl, iteF ⟨_, rfl, hz2, ⟨_, rfl, ?_⟩⟩⟩⟩
    have out : ∀ r : Bool, isName (.str z) = r → k (.bl r) M := fun r e => by rw [← e]; exact q
    refine ite_b (fun e1 => ?_) (fun e1 => ?_)
    · refine ⟨_, rfl, ?_⟩
      refine ite_b (fun e2 => ?_) (fun e2 => ?_)
      · refine out false ?_
        have e2 : decide ((z.length : Int) ≤ 8) = false := by simpa using e2
        show (decide (1 ≤ (z.length : Int)) && (decide ((z.length : Int) ≤ 8) && _)) = false
        rw [e2, Bool.false_and, Bool.and_false]
      · have e2 : decide ((z.length : Int) ≤ 8) = true := by simpa using e2
        refine ⟨_, rfl, ?_⟩
        have hs : (DL.signs z).length < sizeLine := by
          unfold DL.signs
          rw [List.length_map]
          exact Nat.lt_of_le_of_lt (Nat.le_trans (by simp [Str.length]) hz) (by decide)
        refine lc_map letD hs (fun d hd K hK => ?_) (fun d K K' => gN_mono K K') ?_
        · unfold DL.signs at hd
          obtain ⟨c, _, rfl⟩ := List.mem_map.mp hd
          exact ⟨_, rfl, c, rfl, hK⟩
        · refine ⟨z.cps.toList.map isLetter, ?_, out _ ?_⟩
          · unfold DL.signs
            rw [List.map_map, List.map_map]
            rfl
          · show (decide (1 ≤ (z.length : Int)) && (decide ((z.length : Int) ≤ 8) && _)) = _
            rw [e1, e2, Bool.true_and, Bool.true_and, List.all_map]
            rfl
    · refine ⟨_, rfl, iteT (out false ?_)⟩
      show (decide (1 ≤ (z.length : Int)) && _) = false
      rw [e1, Bool.false_and]
  | _ => cases hv <;> (walk_at "go"; exact q)

def numOk : D → Bool
  | .int i => decide (-1000000 ≤ i) && decide (i ≤ 1000000)
  | _ => false
def isPt : D → Bool
  | .tup [a, b] => numOk a && numOk b
  | _ => false
def ph_is_point : Ct := fun ds M k _ => ∃ u v, ds = [u] ∧ kd u = some v ∧ (∀ es, u = .tup es → es.length ≤ 100 ∧ ∀ e ∈ es, (kd e).isSome = true) ∧ k (.bl (isPt u)) M
theorem ok_is_point {K : PySem.W.Frag} {mg : Str → Option Value} {ad : Nat → Addr} {fd : Nat → FuncData} {P : Program} {w : World} {base : Heap} (T : Txt K mg ad fd) : FnOk P w K mg base (L2.CX P w) 2 (ad 2) (fd 2) ["value"] (spD K 1 ph_is_point) := by
  have G_is_number := ok_is_number (P := P) (w := w) (base := base) T
  refine fn_D T.F_is_point sc_is_point rfl fun cdv A outer s H E hr hp ho => ⟨_, (b_cons (s_if (DPW.t (w_or (t_not (t_val (d_isi .tup CS (by decide) isi_tuple rfl T.b_isinstance rfl T.b_tuple (by decide +kernel) (dv 0)))) (w_or1 (t_cmp (o_ne hr.units) (d_callB c_len rfl T.b_len boot_len' (a_cons (dv 0) a_nil)) d_int (nomark _))))) (b_one (s_ret d_bl)) b_nil)
  (b_one (s_ret (d_callB (c_all rfl) rfl T.b_all boot_all' (a_cons (d_lc (own := [("part", 1)]) rfl sc_is_point.nd (i_seq (dv 0)) (blkOk_by (own := [("part", 1)]) (N := ["value", "part"]) (sc := (defScope st_is_point)) (by decide +kernel)) (gp_name (by decide)) (fun _ _ _ _ _ => (pg_name (i := 1) sc_is_point.nd rfl (Or.inl rfl))) (fun _ _ _ _ _ => ts_nil) (fun _ _ _ _ _ => (d_and (d_call G_is_number (hr.mono (by decide)) rfl T.m_is_number T.k_is_number T.kb_is_number_1 (by intro _ _ h _; exact h) passL (a_cons (dv 1) a_nil)) (d_one (d_chain o_le o_le (d_un o_neg (d_globE rfl T.c_FARTHEST)) (dv 1) (d_globE rfl T.c_FARTHEST)))))) a_nil))))), ?_⟩
  rintro ds M k x hl ⟨u, v, rfl, hv, hz, q⟩
  cases u with
  | tup es =>
    obtain ⟨hz, hk⟩ := hz es rfl
    refine ⟨_, rfl, ⟨_, rfl, iteF ⟨_, rfl, neI ⟨_, rfl, ?_⟩⟩⟩⟩
    refine ite_b (fun e1 => ?_) (fun e1 => ?_)
    · have e1 : ¬ es.length = 2 := by
        have e1 : ¬ (es.length : Int) = 2 := by simpa using e1
        omega
      have e : isPt (.tup es) = false := by
        match es, e1 with
        | [], _ => rfl
        | [_], _ => rfl
        | [_, _], h => exact absurd rfl h
        | _ :: _ :: _ :: _, _ => rfl
      rw [e] at q
      exact q
    · have e1 : es.length = 2 := by
        have e1 : (es.length : Int) = 2 := by simpa using e1
        omega
      refine ⟨_, rfl, ?_⟩
      refine lc_map (fun d => .bl (numOk d)) (Nat.lt_of_le_of_lt hz (by decide)) (fun d hd K hK => ?_) (fun d K K' => gN_mono K K') ?_
      · have hd2 := hk d hd
        obtain ⟨v2, hv2⟩ := Option.isSome_iff_exists.mp hd2
        refine ⟨_, rfl, rfl, d, v2, rfl, hv2, ⟨_, rfl, ?_⟩⟩
        cases d with
        | int i =>
          cases hv2
          refine iteT ⟨_, rfl, ⟨_, rfl, ?_⟩⟩
          have hK : K (.bl (decide (-1000000 ≤ i) && decide (i ≤ 1000000))) M := hK
          refine ite_b (fun e2 => ?_) (fun e2 => ?_)
          · have e2 : decide (-1000000 ≤ i) = true := e2
            rw [e2, Bool.true_and] at hK
            exact hK
          · have e2 : decide (-1000000 ≤ i) = false := e2
            rw [e2, Bool.false_and] at hK
            exact hK
        | _ => cases hv2 <;> exact iteF hK
      · match es, e1 with
        | [a, b], _ =>
          refine ⟨[numOk a, numOk b], rfl, ?_⟩
          have e : ([numOk a, numOk b].all id) = isPt (.tup [a, b]) := by simp [isPt]
          rw [e]
          exact q
  | _ => cases hv <;> (walk_at "go"; exact q)

def isWd : D → Bool
  | .tup [.int a, .int b] => numOk (.int a) && numOk (.int b) && !(a == 0 && (b == 0 && true))
  | _ => false
def ph_is_wind : Ct := fun ds M k _ => ∃ u v, ds = [u] ∧ kd u = some v ∧ (∀ es, u = .tup es → es.length ≤ 100 ∧ ∀ e ∈ es, (kd e).isSome = true) ∧ k (.bl (isWd u)) M
theorem numOk_int {d : D} (h : numOk d = true) : ∃ i, d = .int i := by
  cases d <;> first | exact ⟨_, rfl⟩ | cases h
theorem isPt_ints {u : D} (h : isPt u = true) : ∃ a b, u = .tup [.int a, .int b] := by
  unfold isPt at h
  split at h
  · rename_i a b
    rw [Bool.and_eq_true] at h
    obtain ⟨i, rfl⟩ := numOk_int h.1
    obtain ⟨j, rfl⟩ := numOk_int h.2
    exact ⟨i, j, rfl⟩
  · cases h
theorem isWd_no {u : D} (h : isPt u = false) : isWd u = false := by
  unfold isWd
  split
  · rename_i a b
    have h : (numOk (.int a) && numOk (.int b)) = false := h
    rw [h, Bool.false_and]
  · rfl
theorem ok_is_wind {K : PySem.W.Frag} {mg : Str → Option Value} {ad : Nat → Addr} {fd : Nat → FuncData} {P : Program} {w : World} {base : Heap} (T : Txt K mg ad fd) : FnOk P w K mg base (L2.CX P w) 3 (ad 3) (fd 3) ["value"] (spD K 1 ph_is_wind) := by
  have G_is_point := ok_is_point (P := P) (w := w) (base := base) T
  refine fn_D T.F_is_wind sc_is_wind rfl fun cdv A outer s H E hr hp ho => ⟨_, (b_one (s_ret (d_and (d_call G_is_point (hr.mono (by decide)) rfl T.m_is_point T.k_is_point T.kb_is_point_1 (by intro _ _ h _; exact h) hp (a_cons (dv 0) a_nil)) (d_one (d_cmp (o_ne hr.units) (dv 0) (d_tup (a_cons d_int (a_cons d_int a_nil))) (nomark _)))))), ?_⟩
  rintro ds M k x hl ⟨u, v, rfl, hv, hz, q⟩
  refine ⟨_, rfl, rfl, u, v, rfl, hv, hz, ⟨_, rfl, ?_⟩⟩
  refine ite_b (fun e1 => ?_) (fun e1 => ?_)
  · obtain ⟨a, b, rfl⟩ := isPt_ints e1
    refine ⟨_, rfl, Nat.le_of_ble_eq_true rfl, neP rfl rfl rfl rfl ?_⟩
    have e : isWd (.tup [.int a, .int b]) = !(a == 0 && (b == 0 && true)) := by
      show (numOk (.int a) && numOk (.int b) && !(a == 0 && (b == 0 && true))) = _
      have e1 : (numOk (.int a) && numOk (.int b)) = true := e1
      rw [e1, Bool.true_and]
    rw [e] at q
    exact q
  · rw [isWd_no e1] at q
    exact q

end W10
set_option Elab.async false
set_option linter.all false
set_option maxRecDepth 100000
set_option maxHeartbeats 4000000
namespace W10
open PySem PySem.Spec PyProof.Rows L2 DL
local macro_rules | `(tactic| walk_at "sc") => `(tactic| first | assumption | rfl | exact Nat.le_of_ble_eq_true rfl | decide | omega | exact mul_small (by omega) (by omega) | exact mul_smallR (by omega) (by omega) | exact ⟨by decide, by decide, by decide⟩ | exact ⟨by omega, by assumption⟩ | exact ⟨by decide, log2_small (by decide) (by decide)⟩)
local macro_rules | `(tactic| walk_at "go1") => `(tactic| first | refine ⟨_, rfl, ?_⟩ | refine ⟨rfl, ?_⟩ | refine ⟨_, by assumption, ?_⟩ | refine ⟨_, mup_same, ?_⟩ | refine eqI ?_ | refine neI ?_ | refine iteT ?_ | refine iteF ?_ | refine ⟨(by walk_at "sc"), ?_⟩)
local macro_rules | `(tactic| walk_at "go") => `(tactic| repeat walk_at "go1")

local macro_rules | `(tactic| walk_at "cnd") => `(tactic| (intro z e; cases e <;> first | exact Nat.le_of_ble_eq_true rfl | exact ⟨Nat.le_of_ble_eq_true rfl, by decide⟩))
local macro_rules | `(tactic| walk_at "go31") => `(tactic| first | refine ⟨_, _, rfl, rfl, (by walk_at "cnd"), ?_⟩ | walk_at "go1")
local macro_rules | `(tactic| walk_at "go3") => `(tactic| repeat walk_at "go31")
structure Hold (R : Prop) : Prop where
  get : R
section
variable {M0 : Mm} {p : Addr} {b : Bag} {k : DK} {x : DX}
theorem pullK {many : Int} (hb : b.Ok) (h0 : 0 < many) (hz : many.natAbs.log2 < 9000) (h : ∀ (d : Int) (b' : Bag), 0 ≤ d → d < many → b'.Ok → k (.int d) (mup M0 p b'.mo)) : ph__law_pull [.cel p, .int many] (mup M0 p b.mo) k x :=
  ⟨p, b, many, rfl, mup_same, hb, h0, hz, fun d b' h1 h2 h3 => by rw [mup_mup]; exact h d b' h1 h2 h3⟩
theorem pickL {es : List D} (hb : b.Ok) (h0 : 0 < es.length) (h1 : es.length ≤ 1000) (h : ∀ d ∈ es, ∀ b' : Bag, b'.Ok → k d (mup M0 p b'.mo)) : ph__law_pick [.cel p, .lst es] (mup M0 p b.mo) k x :=
  ⟨p, b, _, rfl, mup_same, hb, .inl ⟨es, rfl, h0, h1, fun d hd b' h3 => by rw [mup_mup]; exact h d hd b' h3⟩⟩
theorem pickS {z : Str} (hb : b.Ok) (h0 : 0 < z.length) (h1 : z.length ≤ 1000) (h : ∀ c ∈ z.cps.toList, ∀ b' : Bag, b'.Ok → k (.str ⟨#[c]⟩) (mup M0 p b'.mo)) : ph__law_pick [.cel p, .str z] (mup M0 p b.mo) k x :=
  ⟨p, b, _, rfl, mup_same, hb, .inr ⟨z, rfl, h0, h1, fun d hd b' h3 => by rw [mup_mup]; exact h d hd b' h3⟩⟩
theorem strayK (hb : b.Ok) (h : ∀ u ∈ strays, ∀ b' : Bag, b'.Ok → k u (mup M0 p b'.mo)) : ph__law_stray [.cel p] (mup M0 p b.mo) k x :=
  ⟨p, b, rfl, mup_same, hb, fun d hd b' h3 => by rw [mup_mup]; exact h d hd b' h3⟩
theorem sameK {n : Nat} {M : Mm} {u v : D} (e : u = v) (h : pureD n u = true) (q : k (.bl true) M) : ph__law_same n [u, v] M k x := by
  subst e
  exact ⟨u, rfl, h, q⟩
end
def ph_law : Ct := fun ds M k _ => ∃ ns : List Int, ds = [.scr ns] ∧ ns.length ≤ 63 ∧ ∀ M', k (.bl true) M'
def LET : Str := "abcdefghijklmnopqrstuvwxyz"
theorem join_signs (zs : List Nat) : (Txt.join (Str.ofString "") (zs.map fun c => (⟨#[c]⟩ : Str))).cps.toList = zs := by
  rw [TL.join_eq]
  have h : ∀ l : List Nat, TL.joinL [] (l.map fun c => [c]) = l := by
    intro l
    induction l with
    | nil => rfl
    | cons a l ih =>
      cases l with
      | nil => rfl
      | cons c l => simp only [List.map_cons, TL.joinL, List.nil_append] at ih ⊢; rw [ih]; rfl
  have e := TL.tl_join (Str.ofString "") (zs.map fun c => (⟨#[c]⟩ : Str))
  rw [List.map_map] at e
  refine Eq.trans e ?_
  exact h zs
theorem upto_sz {lo : Int} {n : Nat} (h : n ≤ 100000) : (upto lo n).length < sizeLine := by
  rw [upto_length]
  exact Nat.lt_of_le_of_lt h (by decide)
theorem signs_sum (zs : List Nat) : ((zs.map fun c => (⟨#[c]⟩ : Str)).map fun x => x.length).sum = zs.length := by
  induction zs with
  | nil => rfl
  | cons a l ih =>
    simp only [List.map_cons, List.sum_cons, List.length_cons, ih]
    show 1 + l.length = l.length + 1
    omega
theorem cutS_len (w : Str) (lo hi : Option Int) : (cutS w lo hi).length ≤ w.length := by
  show (((w.cps.toList.drop _).take _).toArray).size ≤ _
  rw [List.size_toArray]
  refine Nat.le_trans (List.length_take_le' _ _) ?_
  rw [List.length_drop]
  show w.cps.toList.length - _ ≤ w.cps.size
  rw [Array.length_toList]
  omega
theorem cat_len (a b : Str) : (a ++ b).length = a.length + b.length := by
  show (a.cps ++ b.cps).size = _
  rw [Array.size_append]
  rfl
theorem cat_toList (a b : Str) : (a ++ b).cps.toList = a.cps.toList ++ b.cps.toList := by
  show (a.cps ++ b.cps).toList = _
  rw [Array.toList_append]
theorem bent_no {u v : Str} {c : Nat} (h : isLetter c = false) : isName (.str (u ++ (⟨#[c]⟩ : Str) ++ v)) = false := by
  show (decide _ && (decide _ && List.all _ isLetter)) = false
  have e : List.all (u ++ (⟨#[c]⟩ : Str) ++ v).cps.toList isLetter = false := by
    rw [cat_toList, cat_toList, List.all_append, List.all_append]
    show (_ && List.all [c] isLetter && _) = false
    simp [h]
  rw [e, Bool.and_false, Bool.and_false]
theorem signs_bad : ∀ c ∈ (Str.ofString "A0_ -.").cps.toList, isLetter c = false := by decide +kernel
def Inv (M : Mm) (p : Addr) (ns : List Int) (ρ : DEnv) (M' : Mm) : Prop := ∃ (b : Bag) (r3 r4 r5 r6 r7 r8 r9 r10 r11 r12 r13 r14 r15 r16 : Option D), b.Ok ∧ M' = mup M p b.mo ∧ ρ = [some (.scr ns), some (.cel p), some (.str LET), r3, r4, r5, r6, r7, r8, r9, r10, r11, r12, r13, r14, r15, r16]
theorem cp6 : CPow 10 6 := ⟨by decide, by decide, by decide⟩
theorem cp30 : CPow 10 30 := ⟨by decide, by decide, by decide⟩
theorem abs_ok (a : Int) : decide ((if a < 0 then -a else a) ≤ 10 ^ Int.toNat 6) = numOk (.int a) := by
  have e : (10 : Int) ^ Int.toNat 6 = 1000000 := by decide
  rw [e]
  show _ = (decide (-1000000 ≤ a) && decide (a ≤ 1000000))
  rw [← Bool.decide_and]
  apply decide_eq_decide.mpr
  split <;> omega
def Inv3 (M : Mm) (p : Addr) (ns : List Int) (ρ : DEnv) (M' : Mm) : Prop := ∃ (b : Bag) (u v : Int) (r3 r4 r5 r6 r7 r8 r9 r13 r14 r15 r16 : Option D), b.Ok ∧ M' = mup M p b.mo ∧ ρ = [some (.scr ns), some (.cel p), some (.str LET), r3, r4, r5, r6, r7, r8, r9, some (.int u), some (.int v), some (.bl (numOk (.int u) && numOk (.int v))), r13, r14, r15, r16]
def Inv2 (M : Mm) (p : Addr) (ns : List Int) (ρ : DEnv) (M' : Mm) : Prop := ∃ (b : Bag) (u v : Int) (r3 r4 r5 r6 r7 r8 r9 r12 r13 r14 r15 r16 : Option D), b.Ok ∧ M' = mup M p b.mo ∧ ρ = [some (.scr ns), some (.cel p), some (.str LET), r3, r4, r5, r6, r7, r8, r9, some (.int u), some (.int v), r12, r13, r14, r15, r16]
theorem ok_law {K : PySem.W.Frag} {mg : Str → Option Value} {ad : Nat → Addr} {fd : Nat → FuncData} {P : Program} {w : World} {base : Heap} (T : Txt K mg ad fd) : FnOk P w K mg base (L2.CX P w) 6 (ad 11) (fd 11) ["_law_script"] (spD K 1 ph_law) := by
  have G_is_name := ok_is_name (P := P) (w := w) (base := base) T
  have G_is_point := ok_is_point (P := P) (w := w) (base := base) T
  have G_is_wind := ok_is_wind (P := P) (w := w) (base := base) T
  have G_cross := ok_cross (P := P) (w := w) (base := base) T
  have G__law_start := ok__law_start (P := P) (w := w) (base := base) T
  have G__law_pull := ok__law_pull (P := P) (w := w) (base := base) T
  have G__law_pick := ok__law_pick (P := P) (w := w) (base := base) T
  have G__law_stray := ok__law_stray (P := P) (w := w) (base := base) T
  have G__law_same := ok__law_same (P := P) (w := w) (base := base) T 3
  refine fn_D T.F_law sc_law rfl fun cdv A outer s H E hr hp ho => ⟨_, (b_cons (s_set (i := 1) sc_law.nd rfl (Or.inr rfl) (d_call G__law_start (hr.mono (by decide)) rfl T.m__law_start T.k__law_start T.kb__law_start_1 (by intro _ _ h _; exact h) hp (a_cons (dv 0) a_nil)))
  (b_cons (s_set (i := 2) sc_law.nd rfl (Or.inr rfl) d_str)
  (b_cons (s_for ho rfl (i_range1 rfl T.b_range (a_cons d_int a_nil)) (g_name (i := 3) sc_law.nd rfl (Or.inl rfl))
  (b_cons (s_set (i := 4) sc_law.nd rfl (Or.inl rfl) (d_bm PySem.F.plainAttrs_str PySem.F.slot_str_join PySem.F.type_str_join m_join d_str (a_cons (d_lc (own := [("_law_k", 5)]) rfl sc_law.nd (i_range1 rfl T.b_range (a_cons (d_call G__law_pull (hr.mono (by decide)) rfl T.m__law_pull T.k__law_pull T.kb__law_pull_2 (by intro _ _ h _; exact h) hp (a_cons (dv 1) (a_cons d_int a_nil))) a_nil)) (blkOk_by (own := [("_law_k", 5)]) (N := ["_law_script", "_law_bag", "_law_letters", "_law_turn_k", "_law_word", "_law_k", "_law_at", "_law_sign", "_law_bent", "_law_told", "_law_a", "_law_b", "_law_good", "_law_odd", "_law_number", "_law_c", "_law_d"]) (sc := (defScope st_law)) (by decide +kernel)) (gp_name (by decide)) (fun _ _ _ _ _ => (pg_name (i := 5) sc_law.nd rfl (Or.inl rfl))) (fun _ _ _ _ _ => ts_nil) (fun _ _ _ _ _ => (d_call G__law_pick (hr.mono (by decide)) rfl T.m__law_pick T.k__law_pick T.kb__law_pick_2 (by intro _ _ h _; exact h) passL (a_cons (dv 1) (a_cons (dv 2) a_nil))))) a_nil)))
  (b_cons (s_par (i := 6) (j := 7) rfl sc_law.nd rfl rfl (by decide) rfl rfl (a_cons (d_call G__law_pull (hr.mono (by decide)) rfl T.m__law_pull T.k__law_pull T.kb__law_pull_2 (by intro _ _ h _; exact h) hp (a_cons (dv 1) (a_cons (d_op o_add (d_callB c_len rfl T.b_len boot_len' (a_cons (dv 4) a_nil)) d_int) a_nil))) (a_cons (d_call G__law_pick (hr.mono (by decide)) rfl T.m__law_pick T.k__law_pick T.kb__law_pick_2 (by intro _ _ h _; exact h) hp (a_cons (dv 1) (a_cons d_str a_nil))) a_nil)) rfl)
  (b_cons (s_set (i := 8) sc_law.nd rfl (Or.inl rfl) (d_op o_add (d_op o_add (d_slice sl_D (dv 4) o_none (o_some (dv 6))) (dv 7)) (d_slice sl_D (dv 4) (o_some (dv 6)) o_none)))
  (b_cons (s_set (i := 9) sc_law.nd rfl (Or.inl rfl) (d_lst (a_cons (d_call G_is_name (hr.mono (by decide)) rfl T.m_is_name T.k_is_name T.kb_is_name_1 (by intro _ _ h _; exact h) hp (a_cons (dv 4) a_nil)) (a_cons (d_callK0 G_is_name (hr.mono (by decide)) rfl T.m_is_name T.k_is_name T.kb_is_name_0_value (fun ws h => match ws, h with | [_], _ => rfl) hp (k_cons (dv 8) k_nil)) (a_cons (d_call G_is_point (hr.mono (by decide)) rfl T.m_is_point T.k_is_point T.kb_is_point_1 (by intro _ _ h _; exact h) hp (a_cons (dv 4) a_nil)) (a_cons (d_call G_is_wind (hr.mono (by decide)) rfl T.m_is_wind T.k_is_wind T.kb_is_wind_1 (by intro _ _ h _; exact h) hp (a_cons (dv 4) a_nil)) a_nil))))))
  (b_cut (s_if (t_not (t_val (d_call G__law_same (hr.mono (by decide)) rfl T.m__law_same T.k__law_same T.kb__law_same_2 (by intro _ _ h _; exact h) hp (a_cons (dv 9) (a_cons (d_lst (a_cons (d_chain o_le o_le d_int (d_callB c_len rfl T.b_len boot_len' (a_cons (dv 4) a_nil)) d_int) (a_cons d_bl (a_cons d_bl (a_cons d_bl a_nil))))) a_nil))))) (b_one (s_ret d_bl)) b_nil)
  (b_cons (s_set (i := 10) sc_law.nd rfl (Or.inl rfl) (d_call G__law_pick (hr.mono (by decide)) rfl T.m__law_pick T.k__law_pick T.kb__law_pick_2 (by intro _ _ h _; exact h) hp (a_cons (dv 1) (a_cons (d_lst (a_cons d_int (a_cons (d_op o_pow d_int d_int) (a_cons (d_un o_neg (d_op o_pow d_int d_int)) (a_cons (d_op o_add (d_op o_pow d_int d_int) d_int) (a_cons (d_call G__law_pull (hr.mono (by decide)) rfl T.m__law_pull T.k__law_pull T.kb__law_pull_2 (by intro _ _ h _; exact h) hp (a_cons (dv 1) (a_cons (d_op o_pow d_int d_int) a_nil))) (a_cons (d_op o_sub (d_un o_neg d_int) (d_op o_pow d_int d_int)) a_nil))))))) a_nil))))
  (b_cons (s_set (i := 11) sc_law.nd rfl (Or.inl rfl) (d_call G__law_pick (hr.mono (by decide)) rfl T.m__law_pick T.k__law_pick T.kb__law_pick_2 (by intro _ _ h _; exact h) hp (a_cons (dv 1) (a_cons (d_lst (a_cons d_int (a_cons (d_op o_pow d_int d_int) (a_cons (d_un o_neg (d_op o_pow d_int d_int)) (a_cons (d_un o_neg (d_op o_pow d_int d_int)) (a_cons (d_op o_sub d_int (d_call G__law_pull (hr.mono (by decide)) rfl T.m__law_pull T.k__law_pull T.kb__law_pull_2 (by intro _ _ h _; exact h) hp (a_cons (dv 1) (a_cons (d_op o_pow d_int d_int) a_nil)))) a_nil)))))) a_nil))))
  (b_cut (s_set (i := 12) sc_law.nd rfl (Or.inl rfl) (d_and (d_cmp o_le (d_callB c_abs rfl T.b_abs boot_abs' (a_cons (dv 10) a_nil)) (d_op o_pow d_int d_int) (nomark _)) (d_one (d_cmp o_le (d_callB c_abs rfl T.b_abs boot_abs' (a_cons (dv 11) a_nil)) (d_op o_pow d_int d_int) (nomark _)))))
  (b_cons (s_set (i := 9) sc_law.nd rfl (Or.inl rfl) (d_lst (a_cons (d_call G_is_point (hr.mono (by decide)) rfl T.m_is_point T.k_is_point T.kb_is_point_1 (by intro _ _ h _; exact h) hp (a_cons (d_tup (a_cons (dv 10) (a_cons (dv 11) a_nil))) a_nil)) (a_cons (d_call G_is_wind (hr.mono (by decide)) rfl T.m_is_wind T.k_is_wind T.kb_is_wind_1 (by intro _ _ h _; exact h) hp (a_cons (d_tup (a_cons (dv 10) (a_cons (dv 11) a_nil))) a_nil)) (a_cons (d_call G_is_point (hr.mono (by decide)) rfl T.m_is_point T.k_is_point T.kb_is_point_1 (by intro _ _ h _; exact h) hp (a_cons (d_lst (a_cons (dv 10) (a_cons (dv 11) a_nil))) a_nil)) (a_cons (d_callK0 G_is_wind (hr.mono (by decide)) rfl T.m_is_wind T.k_is_wind T.kb_is_wind_0_value (fun ws h => match ws, h with | [_], _ => rfl) hp (k_cons (d_lst (a_cons (dv 10) (a_cons (dv 11) a_nil))) k_nil)) (a_cons (d_call G_is_point (hr.mono (by decide)) rfl T.m_is_point T.k_is_point T.kb_is_point_1 (by intro _ _ h _; exact h) hp (a_cons (d_tup (a_cons (dv 10) a_nil)) a_nil)) (a_cons (d_call G_is_point (hr.mono (by decide)) rfl T.m_is_point T.k_is_point T.kb_is_point_1 (by intro _ _ h _; exact h) hp (a_cons (d_tup (a_cons (dv 10) (a_cons (dv 11) (a_cons d_int a_nil)))) a_nil)) a_nil))))))))
  (b_cut (s_if (t_not (t_val (d_call G__law_same (hr.mono (by decide)) rfl T.m__law_same T.k__law_same T.kb__law_same_2 (by intro _ _ h _; exact h) hp (a_cons (dv 9) (a_cons (d_lst (a_cons (dv 12) (a_cons (d_and (dv 12) (d_one (d_cmp (o_ne hr.units) (d_tup (a_cons (dv 10) (a_cons (dv 11) a_nil))) (d_tup (a_cons d_int (a_cons d_int a_nil))) (nomark _)))) (a_cons d_bl (a_cons d_bl (a_cons d_bl (a_cons d_bl a_nil))))))) a_nil))))) (b_one (s_ret d_bl)) b_nil)
  (b_cons (s_set (i := 13) sc_law.nd rfl (Or.inl rfl) (d_call G__law_stray (hr.mono (by decide)) rfl T.m__law_stray T.k__law_stray T.kb__law_stray_1 (by intro _ _ h _; exact h) hp (a_cons (dv 1) a_nil)))
  (b_cons (s_set (i := 14) sc_law.nd rfl (Or.inl rfl) (d_and (d_isi .int CS (by decide) isi_int rfl T.b_isinstance rfl T.b_int (by decide +kernel) (dv 13)) (d_one (d_not (d_isi .bl CS (by decide) isi_bool rfl T.b_isinstance rfl T.b_bool (by decide +kernel) (dv 13))))))
  (b_cons (s_set (i := 9) sc_law.nd rfl (Or.inl rfl) (d_lst (a_cons (d_call G_is_point (hr.mono (by decide)) rfl T.m_is_point T.k_is_point T.kb_is_point_1 (by intro _ _ h _; exact h) hp (a_cons (d_tup (a_cons (dv 13) (a_cons d_int a_nil))) a_nil)) (a_cons (d_call G_is_wind (hr.mono (by decide)) rfl T.m_is_wind T.k_is_wind T.kb_is_wind_1 (by intro _ _ h _; exact h) hp (a_cons (d_tup (a_cons d_int (a_cons (dv 13) a_nil))) a_nil)) (a_cons (d_call G_is_name (hr.mono (by decide)) rfl T.m_is_name T.k_is_name T.kb_is_name_1 (by intro _ _ h _; exact h) hp (a_cons (dv 13) a_nil)) (a_cons (d_callK0 G_is_point (hr.mono (by decide)) rfl T.m_is_point T.k_is_point T.kb_is_point_0_value (fun ws h => match ws, h with | [_], _ => rfl) hp (k_cons (dv 13) k_nil)) (a_cons (d_call G_is_wind (hr.mono (by decide)) rfl T.m_is_wind T.k_is_wind T.kb_is_wind_1 (by intro _ _ h _; exact h) hp (a_cons (dv 13) a_nil)) a_nil)))))))
  (b_cut (s_if (t_not (t_val (d_call G__law_same (hr.mono (by decide)) rfl T.m__law_same T.k__law_same T.kb__law_same_2 (by intro _ _ h _; exact h) hp (a_cons (dv 9) (a_cons (d_lst (a_cons (dv 14) (a_cons (dv 14) (a_cons (d_cmp (o_eq hr.units) (dv 13) d_str (nomark _)) (a_cons (d_cmp (o_eq hr.units) (dv 13) (d_tup (a_cons d_int (a_cons d_int a_nil))) (nomark _)) (a_cons (d_cmp (o_eq hr.units) (dv 13) (d_tup (a_cons d_int (a_cons d_int a_nil))) (nomark _)) a_nil)))))) a_nil))))) (b_one (s_ret d_bl)) b_nil)
  (b_cons (s_par (i := 15) (j := 16) rfl sc_law.nd rfl rfl (by decide) rfl rfl (a_cons (d_op o_sub (d_call G__law_pull (hr.mono (by decide)) rfl T.m__law_pull T.k__law_pull T.kb__law_pull_2 (by intro _ _ h _; exact h) hp (a_cons (dv 1) (a_cons d_int a_nil))) d_int) (a_cons (d_call G__law_pull (hr.mono (by decide)) rfl T.m__law_pull T.k__law_pull T.kb__law_pull_2 (by intro _ _ h _; exact h) hp (a_cons (dv 1) (a_cons (d_op o_pow d_int d_int) a_nil))) a_nil)) rfl)
  (b_one (s_if (t_not (t_val (d_call G__law_same (hr.mono (by decide)) rfl T.m__law_same T.k__law_same T.kb__law_same_2 (by intro _ _ h _; exact h) hp (a_cons (d_lst (a_cons (d_call G_cross (hr.mono (by decide)) rfl T.m_cross T.k_cross T.kb_cross_2 (by intro _ _ h _; exact h) hp (a_cons (d_tup (a_cons (dv 10) (a_cons (dv 11) a_nil))) (a_cons (d_tup (a_cons (dv 15) (a_cons (dv 16) a_nil))) a_nil))) (a_cons (d_callK0 G_cross (hr.mono (by decide)) rfl T.m_cross T.k_cross T.kb_cross_0_other_one (fun ws h => match ws, h with | [_, _], _ => rfl) hp (k_cons (d_tup (a_cons (dv 10) (a_cons (dv 11) a_nil))) (k_cons (d_tup (a_cons (dv 15) (a_cons (dv 16) a_nil))) k_nil))) a_nil))) (a_cons (d_lst (a_cons (d_op o_sub (d_op o_mul (dv 10) (dv 16)) (d_op o_mul (dv 11) (dv 15))) (a_cons (d_op o_sub (d_op o_mul (dv 15) (dv 11)) (d_op o_mul (dv 16) (dv 10))) a_nil))) a_nil))))) (b_one (s_ret d_bl)) b_nil))))))))))))))))))
  (b_one (s_ret (d_and (d_not (d_call G_is_wind (hr.mono (by decide)) rfl T.m_is_wind T.k_is_wind T.kb_is_wind_1 (by intro _ _ h _; exact h) hp (a_cons (d_tup (a_cons d_int (a_cons d_int a_nil))) a_nil))) (d_and (d_call G_is_point (hr.mono (by decide)) rfl T.m_is_point T.k_is_point T.kb_is_point_1 (by intro _ _ h _; exact h) hp (a_cons (d_tup (a_cons d_int (a_cons d_int a_nil))) a_nil)) (d_and (d_not (d_call G_is_point (hr.mono (by decide)) rfl T.m_is_point T.k_is_point T.kb_is_point_1 (by intro _ _ h _; exact h) hp (a_cons (d_tup (a_cons d_bl (a_cons d_int a_nil))) a_nil))) (d_one (d_not (d_call G_is_wind (hr.mono (by decide)) rfl T.m_is_wind T.k_is_wind T.kb_is_wind_1 (by intro _ _ h _; exact h) hp (a_cons (d_tup (a_cons d_int (a_cons d_bl a_nil))) a_nil)))))))))))), ?_⟩
  clear G_is_name G_is_point G_is_wind G_cross G__law_start G__law_pull G__law_pick G__law_stray G__law_same
  clear hp ho hr
  rintro ds M k x hl ⟨ns, rfl, hn, q⟩
  refine ⟨_, rfl, rfl, ns, rfl, hn, fun p b hp hb => ?_⟩
  refine ⟨6, rfl, by decide, by decide, ?_⟩
  refine ForK.of (fun _ ρ M' => Inv M p ns ρ M') ?_ ?_ ?_
  · exact ⟨b, _, _, _, _, _, _, _, _, _, _, _, _, _, _, hb, rfl, rfl⟩
  · rintro j d ρ M' hd ⟨b, r3, r4, r5, r6, r7, r8, r9, r10, r11, r12, r13, r14, r15, r16, hb, rfl, rfl⟩
    refine ⟨rfl, ⟨_, rfl, rfl, pullK hb (by decide) (log2_small (by decide) (by decide)) fun n1 b1 h0 h1 hb1 => ⟨n1, rfl, by omega, by omega, ?_⟩⟩⟩
    refine .of (upto_sz (by omega)) (fun j acc M' => ∃ (b : Bag) (zs : List Nat), b.Ok ∧ M' = mup M p b.mo ∧ acc = zs.map (fun c => D.str ⟨#[c]⟩) ∧ zs.length = j ∧ ∀ c ∈ zs, isLetter c = true) ⟨b1, [], hb1, rfl, rfl, rfl, nofun⟩ ?_ ?_
    · rintro j d acc M' hd ⟨b, zs, hb, rfl, rfl, hl, hz⟩
      refine ⟨_, rfl, _, rfl, rfl, pickS hb (by decide) (by decide) fun c hc b' hb' => ?_⟩
      refine ⟨b', zs ++ [c], hb', rfl, by simp, by simp [hl], fun c' hc' => ?_⟩
      rcases List.mem_append.mp hc' with z | z
      · exact hz c' z
      · rw [List.mem_singleton.mp z]
        exact decide_eq_true hc
    · rintro acc M' ⟨b2, zs, hb2, rfl, rfl, hl, hz⟩
      rw [upto_length] at hl
      refine ⟨Str.ofString "", zs.map (fun c => ⟨#[c]⟩), rfl, by simp, ?_, ?_⟩
      · rw [signs_sum, List.length_map]
        show zs.length + zs.length * 0 ≤ 16777216
        omega
      · generalize hw : Txt.join (Str.ofString "") (zs.map fun c => (⟨#[c]⟩ : Str)) = w
        have hwc : w.cps.toList = zs := by rw [← hw]; exact join_signs zs
        have hwl : w.length ≤ 10 := by
          have e : w.cps.toList.length = w.length := by simp [Str.length]
          rw [hwc] at e
          omega
        have hws : w.length ≤ sizeLine := Nat.le_trans hwl (by decide)
        have hwa : w.cps.toList.all isLetter = true := by
          rw [hwc, List.all_eq_true]
          exact hz
        refine ⟨_, rfl, _, rfl, hws, rfl, pullK hb2 (by omega) (log2_small (by omega) (by omega)) fun at_ b3 h2 h3 hb3 => ?_⟩
        refine ⟨_, rfl, rfl, pickS hb3 (by decide) (by decide) fun c hc b4 hb4 => ?_⟩
        refine ⟨_, _, rfl, ?_⟩
        have hcl := signs_bad c hc
        have l1 := cutS_len w none (some at_)
        have l2 := cutS_len w (some at_) none
        have lc : (⟨#[c]⟩ : Str).length = 1 := rfl
        refine ⟨_, rfl, _, rfl, _, rfl, hws, _, rfl, ?_, _, rfl, _, rfl, _, rfl, hws, ?_, ?_⟩
        · rw [lc]; exact Nat.le_trans (Nat.add_le_add_right (Nat.le_trans l1 hwl) 1) (by decide)
        · rw [cat_len, lc]; exact Nat.le_trans (Nat.add_le_add (Nat.add_le_add_right (Nat.le_trans l1 hwl) 1) (Nat.le_trans l2 hwl)) (by decide)
        generalize hbe : cutS w none (some at_) ++ (⟨#[c]⟩ : Str) ++ cutS w (some at_) none = bent
        have hbl : bent.length ≤ 100 := by
          rw [← hbe, cat_len, cat_len, lc]
          omega
        have hbn : isName (.str bent) = false := by rw [← hbe]; exact bent_no hcl
        refine ⟨_, rfl, rfl, _, _, rfl, rfl, (fun z e => by cases e; omega), ?_⟩
        refine ⟨_, rfl, rfl, rfl, _, _, rfl, rfl, (fun z e => by cases e; exact hbl), ?_⟩
        refine ⟨_, rfl, rfl, _, _, rfl, rfl, (fun z e => nomatch e), ?_⟩
        refine ⟨_, rfl, rfl, _, _, rfl, rfl, (fun z e => nomatch e), ?_⟩
        refine ⟨Nat.le_of_ble_eq_true rfl, ?_⟩
        refine ⟨fun ρ M' => Inv M p ns ρ M', ?_, ?_⟩
        · refine ⟨_, rfl, _, rfl, hws, _, rfl, ?_⟩
          have en : isName (.str w) = (decide (1 ≤ (w.length : Int)) && decide ((w.length : Int) ≤ 8)) := by
            show (decide _ && (decide _ && List.all _ isLetter)) = _
            rw [hwa, Bool.and_true]
          refine ite_b (fun e1 => ?_) (fun e1 => ?_)
          · refine ⟨Nat.le_of_ble_eq_true rfl, rfl, sameK ?_ ?_ ⟨_, rfl, ?_⟩⟩
            · rw [en, hbn, e1]; rfl
            · rfl
            · exact ⟨b4, _, _, _, _, _, _, _, _, _, _, _, _, _, _, hb4, rfl, rfl⟩
          · refine ⟨Nat.le_of_ble_eq_true rfl, rfl, sameK ?_ ?_ ⟨_, rfl, ?_⟩⟩
            · rw [en, hbn, e1]; rfl
            · rfl
            · exact ⟨b4, _, _, _, _, _, _, _, _, _, _, _, _, _, _, hb4, rfl, rfl⟩
        · clear hbn hbl hbe hcl l1 l2 lc hwa hws hwl hwc hw
          rintro ρ M' ⟨b, r3, r4, r5, r6, r7, r8, r9, r10, r11, r12, r13, r14, r15, r16, hb, rfl, rfl⟩
          refine ⟨_, rfl, cp6, cp6, cp6, _, rfl, cp6, rfl, pullK hb (by decide) (log2_small (by decide) (by decide)) fun d1 b1 h0 h1 hb1 => ?_⟩
          refine ⟨cp6, Nat.le_of_ble_eq_true rfl, rfl, pickL hb1 (Nat.le_of_ble_eq_true rfl) (Nat.le_of_ble_eq_true rfl) fun u hu b2 hb2 => ?_⟩
          obtain ⟨u, rfl⟩ : ∃ i, u = .int i := by
            simp only [List.mem_cons, List.not_mem_nil, or_false] at hu
            rcases hu with rfl | rfl | rfl | rfl | rfl | rfl <;> exact ⟨_, rfl⟩
          refine ⟨_, rfl, cp6, cp6, cp30, _, rfl, cp6, rfl, pullK hb2 (by decide) (log2_small (by decide) (by decide)) fun d2 b3 h2 h3 hb3 => ?_⟩
          refine ⟨Nat.le_of_ble_eq_true rfl, rfl, pickL hb3 (Nat.le_of_ble_eq_true rfl) (Nat.le_of_ble_eq_true rfl) fun v hv b4 hb4 => ?_⟩
          obtain ⟨v, rfl⟩ : ∃ i, v = .int i := by
            simp only [List.mem_cons, List.not_mem_nil, or_false] at hv
            rcases hv with rfl | rfl | rfl | rfl | rfl <;> exact ⟨_, rfl⟩
          clear hu hv
          refine ⟨fun ρ M' => Inv3 M p ns ρ M', ?_, ?_⟩
          · refine ⟨_, rfl, cp6, _, rfl, ?_⟩
            refine ite_b (fun e1 => ?_) (fun e1 => ?_)
            · have e1 : numOk (.int u) = true := (abs_ok u).symm.trans e1
              refine ⟨_, rfl, cp6, b4, u, v, r3, r4, r5, r6, r7, r8, r9, r13, r14, r15, r16, hb4, rfl, ?_⟩
              rw [e1, Bool.true_and, ← abs_ok v]
              rfl
            · have e1 : numOk (.int u) = false := (abs_ok u).symm.trans e1
              refine ⟨b4, u, v, r3, r4, r5, r6, r7, r8, r9, r13, r14, r15, r16, hb4, rfl, ?_⟩
              rw [e1, Bool.false_and]
              rfl
          · rintro ρ M' ⟨b, u, v, r3, r4, r5, r6, r7, r8, r9, r13, r14, r15, r16, hb, rfl, rfl⟩
            have kk : ∀ es : List D, (∀ e ∈ es, ∃ i, e = D.int i) → ∀ fs, D.tup es = .tup fs → es.length ≤ 100 → fs.length ≤ 100 ∧ ∀ e ∈ fs, (kd e).isSome = true := by
              intro es h fs e l
              cases e
              refine ⟨l, fun e he => ?_⟩
              obtain ⟨i, rfl⟩ := h e he
              rfl
            have ii : ∀ es : List Int, ∀ e ∈ es.map D.int, ∃ i, e = D.int i := fun es e he => by
              obtain ⟨i, _, rfl⟩ := List.mem_map.mp he
              exact ⟨i, rfl⟩
            refine ⟨_, rfl, _, rfl, Nat.le_of_ble_eq_true rfl, rfl, _, _, rfl, rfl, fun fs e => kk _ (ii [u, v]) fs e (Nat.le_of_ble_eq_true rfl), ?_⟩
            refine ⟨_, rfl, _, rfl, Nat.le_of_ble_eq_true rfl, rfl, _, _, rfl, rfl, fun fs e => kk _ (ii [u, v]) fs e (Nat.le_of_ble_eq_true rfl), ?_⟩
            refine ⟨_, rfl, _, rfl, Nat.le_of_ble_eq_true rfl, rfl, _, _, rfl, rfl, (fun z e => nomatch e), ?_⟩
            refine ⟨_, rfl, _, rfl, Nat.le_of_ble_eq_true rfl, rfl, rfl, _, _, rfl, rfl, (fun z e => nomatch e), ?_⟩
            refine ⟨_, rfl, Nat.le_of_ble_eq_true rfl, rfl, _, _, rfl, rfl, fun fs e => kk _ (ii [u]) fs e (Nat.le_of_ble_eq_true rfl), ?_⟩
            refine ⟨_, rfl, _, rfl, Nat.le_of_ble_eq_true rfl, rfl, _, _, rfl, rfl, fun fs e => kk _ (ii [u, v, 0]) fs e (Nat.le_of_ble_eq_true rfl), ?_⟩
            refine ⟨Nat.le_of_ble_eq_true rfl, ?_⟩
            refine ⟨fun ρ M' => Inv2 M p ns ρ M', ?_, ?_⟩
            · refine ⟨_, rfl, _, rfl, _, rfl, _, rfl, ?_⟩
              have ep : isPt (.tup [.int u, .int v]) = (numOk (.int u) && numOk (.int v)) := rfl
              have ew : isWd (.tup [.int u, .int v]) = (numOk (.int u) && numOk (.int v) && !(u == 0 && (v == 0 && true))) := rfl
              refine ite_b (fun e1 => ?_) (fun e1 => ?_)
              · refine ⟨_, rfl, _, rfl, Nat.le_of_ble_eq_true rfl, Nat.le_of_ble_eq_true rfl, neP rfl rfl rfl rfl ?_⟩
                refine ⟨Nat.le_of_ble_eq_true rfl, rfl, sameK ?_ ?_ ⟨_, rfl, ?_⟩⟩
                · rw [ep, ew, e1, Bool.true_and]; rfl
                · rfl
                · exact ⟨b, u, v, _, _, _, _, _, _, _, _, _, _, _, _, hb, rfl, rfl⟩
              · refine ⟨Nat.le_of_ble_eq_true rfl, rfl, sameK ?_ ?_ ⟨_, rfl, ?_⟩⟩
                · rw [ep, ew, e1, Bool.false_and]; rfl
                · rfl
                · exact ⟨b, u, v, _, _, _, _, _, _, _, _, _, _, _, _, hb, rfl, rfl⟩
            · rintro ρ M' ⟨b, u, v, r3, r4, r5, r6, r7, r8, r9, r12, r13, r14, r15, r16, hb, rfl, rfl⟩
              have gen : ∀ {A R : Prop}, (Hold R → A) → R → A := fun f r => f ⟨r⟩
              apply gen
              · intro rest
                refine ⟨_, rfl, rfl, strayK hb fun o ho b1 hb1 => ?_⟩
                simp only [strays, List.mem_cons, List.not_mem_nil, or_false] at ho
                rcases ho with rfl | rfl | rfl | rfl | rfl | rfl | rfl | rfl | rfl <;>
                · refine ⟨_, rfl, _, rfl, ?_⟩
                  first | refine iteT ⟨_, rfl, _, rfl, ?_⟩ | refine iteF ?_
                  refine ⟨_, rfl, Nat.le_of_ble_eq_true rfl, rfl, _, _, rfl, rfl, (by walk_at "cnd"), ?_⟩
                  refine ⟨_, rfl, Nat.le_of_ble_eq_true rfl, rfl, _, _, rfl, rfl, (by walk_at "cnd"), ?_⟩
                  refine ⟨_, rfl, rfl, _, _, rfl, rfl, (by walk_at "cnd"), ?_⟩
                  refine ⟨_, rfl, rfl, rfl, _, _, rfl, rfl, (by walk_at "cnd"), ?_⟩
                  refine ⟨_, rfl, rfl, _, _, rfl, rfl, (by walk_at "cnd"), ?_⟩
                  refine ⟨Nat.le_of_ble_eq_true rfl, ⟨fun ρ M' => Inv2 M p ns ρ M', ?_, rest.get⟩⟩
                  refine ⟨_, rfl, _, rfl, _, rfl, _, rfl, eqP rfl rfl (by decide +kernel) (by decide +kernel) ?_⟩
                  refine ⟨_, rfl, Nat.le_of_ble_eq_true rfl, eqP rfl rfl (by decide +kernel) (by decide +kernel) ?_⟩
                  refine ⟨_, rfl, Nat.le_of_ble_eq_true rfl, eqP rfl rfl (by decide +kernel) (by decide +kernel) ?_⟩
                  refine ⟨Nat.le_of_ble_eq_true rfl, rfl, sameK rfl rfl ⟨_, rfl, ?_⟩⟩
                  exact ⟨b1, u, v, _, _, _, _, _, _, _, _, _, _, _, _, hb1, rfl, rfl⟩
              · rintro ρ M' ⟨b, u, v, r3, r4, r5, r6, r7, r8, r9, r12, r13, r14, r15, r16, hb, rfl, rfl⟩
                refine ⟨_, rfl, rfl, pullK hb (by decide) (log2_small (by decide) (by decide)) fun c1 b1 h0 h1 hb1 => ?_⟩
                refine ⟨_, rfl, cp6, rfl, pullK hb1 (by decide) (log2_small (by decide) (by decide)) fun d1 b2 h2 h3 hb2 => ?_⟩
                have e6 : (10 : Int) ^ Int.toNat 6 = 1000000 := by decide
                rw [e6] at h3
                have mc : ∀ i : Int, DL.MulOk (c1 - 49) i := fun i => .inl (.inl ⟨by omega, by omega⟩)
                have mc' : ∀ i : Int, DL.MulOk i (c1 - 49) := fun i => .inl (.inr ⟨by omega, by omega⟩)
                have md : ∀ i : Int, DL.MulOk d1 i := fun i => .inl (.inl ⟨by omega, by omega⟩)
                have md' : ∀ i : Int, DL.MulOk i d1 := fun i => .inl (.inr ⟨by omega, by omega⟩)
                refine ⟨_, _, rfl, ?_⟩
                refine ⟨_, rfl, _, rfl, Nat.le_of_ble_eq_true rfl, _, rfl, _, rfl, Nat.le_of_ble_eq_true rfl, rfl, u, v, c1 - 49, d1, rfl, md' u, mc' v, ?_⟩
                refine ⟨_, rfl, _, rfl, Nat.le_of_ble_eq_true rfl, _, rfl, _, rfl, Nat.le_of_ble_eq_true rfl, rfl, rfl, c1 - 49, d1, u, v, rfl, mc v, md u, ?_⟩
                refine ⟨Nat.le_of_ble_eq_true rfl, ?_⟩
                refine ⟨_, rfl, _, rfl, md' _, _, rfl, _, rfl, mc' _, ?_⟩
                refine ⟨_, rfl, _, rfl, mc _, _, rfl, _, rfl, md _, ?_⟩
                refine ⟨Nat.le_of_ble_eq_true rfl, rfl, sameK rfl rfl ⟨_, rfl, ?_⟩⟩
                exact ⟨b2, _, _, _, _, _, _, _, _, _, _, _, _, _, _, hb2, rfl, rfl⟩
  · rintro ρ M' ⟨b, r3, r4, r5, r6, r7, r8, r9, r10, r11, r12, r13, r14, r15, r16, hb, rfl, rfl⟩
    walk_at "go3"
    exact q _

end W10
set_option Elab.async false
set_option linter.all false
set_option maxRecDepth 100000
set_option maxHeartbeats 4000000
namespace W10
open PySem PySem.Spec PyProof.Rows L2 DL

theorem ph_law_of {ns : List Int} {M : Mm} {kk : DK} {xx : DX} (h1 : ns.length ≤ 63) (h2 : ∀ z ∈ ns, Builtin.Int.intBits z ≤ 1048576) (h3 : ∀ a, M a = none) (h4 : ∀ M', kk (.bl true) M') : ph_law [.scr ns] M kk xx := ⟨ns, rfl, h1, h4⟩
theorem all_mk {l : PySem.W.OpenLaw} {w : World} {K : PySem.W.Frag} {h : Heap} {mg : Str → Option Value} {fa f0 f1 f2 f3 f4 f5 f6 f7 f8 f9 f10 f11 : Addr} (X : K.In h) (G : h.Ns mainGlobals mg) (hfa : mg "law" = some (.ref fa))
    {od0 an0 od1 an1 od2 an2 od3 an3 od4 an4 od5 an5 od6 an6 od7 an7 od8 an8 od9 an9 od10 an10 od11 an11 : Option Addr} {sl0 sl1 sl2 sl3 sl4 sl5 sl6 sl7 sl8 sl9 sl10 sl11 : Array (Option Value)} {oc0 kV0 dc0 pm0 cd0 ct0 oc1 kV1 dc1 pm1 cd1 ct1 oc2 kV2 dc2 pm2 cd2 ct2 oc3 kV3 dc3 pm3 cd3 ct3 oc4 kV4 dc4 pm4 cd4 ct4 oc5 kV5 dc5 pm5 cd5 ct5 oc6 kV6 dc6 pm6 cd6 ct6 oc7 kV7 dc7 pm7 cd7 ct7 oc8 kV8 dc8 pm8 cd8 ct8 oc9 kV9 dc9 pm9 cd9 ct9 oc10 kV10 dc10 pm10 cd10 ct10 oc11 kV11 dc11 pm11 cd11 ct11 : Value}
    (a0 : PySem.W.nsIn K mainGlobals "is_number" = some (some (.ref f0))) (l0 : K.lookup f0 = some ⟨oc0, od0, .func (PySem.W.fnOf "is_number" "is_number" (defArgs st_is_number) (defBody st_is_number) (defScope st_is_number) .none kV0 dc0 pm0 an0 cd0 ct0), sl0⟩) (c0 : PySem.W.codeIn K cd0 "is_number" = true) (k0 : PySem.W.keepIn K (.ref f0) = true)
    (a1 : PySem.W.nsIn K mainGlobals "is_name" = some (some (.ref f1))) (l1 : K.lookup f1 = some ⟨oc1, od1, .func (PySem.W.fnOf "is_name" "is_name" (defArgs st_is_name) (defBody st_is_name) (defScope st_is_name) .none kV1 dc1 pm1 an1 cd1 ct1), sl1⟩) (c1 : PySem.W.codeIn K cd1 "is_name" = true) (k1 : PySem.W.keepIn K (.ref f1) = true)
    (a2 : PySem.W.nsIn K mainGlobals "is_point" = some (some (.ref f2))) (l2 : K.lookup f2 = some ⟨oc2, od2, .func (PySem.W.fnOf "is_point" "is_point" (defArgs st_is_point) (defBody st_is_point) (defScope st_is_point) .none kV2 dc2 pm2 an2 cd2 ct2), sl2⟩) (c2 : PySem.W.codeIn K cd2 "is_point" = true) (k2 : PySem.W.keepIn K (.ref f2) = true)
    (a3 : PySem.W.nsIn K mainGlobals "is_wind" = some (some (.ref f3))) (l3 : K.lookup f3 = some ⟨oc3, od3, .func (PySem.W.fnOf "is_wind" "is_wind" (defArgs st_is_wind) (defBody st_is_wind) (defScope st_is_wind) .none kV3 dc3 pm3 an3 cd3 ct3), sl3⟩) (c3 : PySem.W.codeIn K cd3 "is_wind" = true) (k3 : PySem.W.keepIn K (.ref f3) = true)
    (a4 : PySem.W.nsIn K mainGlobals "cross" = some (some (.ref f4))) (l4 : K.lookup f4 = some ⟨oc4, od4, .func (PySem.W.fnOf "cross" "cross" (defArgs st_cross) (defBody st_cross) (defScope st_cross) .none kV4 dc4 pm4 an4 cd4 ct4), sl4⟩) (c4 : PySem.W.codeIn K cd4 "cross" = true) (k4 : PySem.W.keepIn K (.ref f4) = true)
    (a5 : PySem.W.nsIn K mainGlobals "_law_start" = some (some (.ref f5))) (l5 : K.lookup f5 = some ⟨oc5, od5, .func (PySem.W.fnOf "_law_start" "_law_start" (defArgs st__law_start) (defBody st__law_start) (defScope st__law_start) .none kV5 dc5 pm5 an5 cd5 ct5), sl5⟩) (c5 : PySem.W.codeIn K cd5 "_law_start" = true) (k5 : PySem.W.keepIn K (.ref f5) = true)
    (a6 : PySem.W.nsIn K mainGlobals "_law_pull" = some (some (.ref f6))) (l6 : K.lookup f6 = some ⟨oc6, od6, .func (PySem.W.fnOf "_law_pull" "_law_pull" (defArgs st__law_pull) (defBody st__law_pull) (defScope st__law_pull) .none kV6 dc6 pm6 an6 cd6 ct6), sl6⟩) (c6 : PySem.W.codeIn K cd6 "_law_pull" = true) (k6 : PySem.W.keepIn K (.ref f6) = true)
    (a7 : PySem.W.nsIn K mainGlobals "_law_pick" = some (some (.ref f7))) (l7 : K.lookup f7 = some ⟨oc7, od7, .func (PySem.W.fnOf "_law_pick" "_law_pick" (defArgs st__law_pick) (defBody st__law_pick) (defScope st__law_pick) .none kV7 dc7 pm7 an7 cd7 ct7), sl7⟩) (c7 : PySem.W.codeIn K cd7 "_law_pick" = true) (k7 : PySem.W.keepIn K (.ref f7) = true)
    (a8 : PySem.W.nsIn K mainGlobals "_law_sort" = some (some (.ref f8))) (l8 : K.lookup f8 = some ⟨oc8, od8, .func (PySem.W.fnOf "_law_sort" "_law_sort" (defArgs st__law_sort) (defBody st__law_sort) (defScope st__law_sort) .none kV8 dc8 pm8 an8 cd8 ct8), sl8⟩) (c8 : PySem.W.codeIn K cd8 "_law_sort" = true) (k8 : PySem.W.keepIn K (.ref f8) = true)
    (a9 : PySem.W.nsIn K mainGlobals "_law_same" = some (some (.ref f9))) (l9 : K.lookup f9 = some ⟨oc9, od9, .func (PySem.W.fnOf "_law_same" "_law_same" (defArgs st__law_same) (defBody st__law_same) (defScope st__law_same) .none kV9 dc9 pm9 an9 cd9 ct9), sl9⟩) (c9 : PySem.W.codeIn K cd9 "_law_same" = true) (k9 : PySem.W.keepIn K (.ref f9) = true)
    (a10 : PySem.W.nsIn K mainGlobals "_law_stray" = some (some (.ref f10))) (l10 : K.lookup f10 = some ⟨oc10, od10, .func (PySem.W.fnOf "_law_stray" "_law_stray" (defArgs st__law_stray) (defBody st__law_stray) (defScope st__law_stray) .none kV10 dc10 pm10 an10 cd10 ct10), sl10⟩) (c10 : PySem.W.codeIn K cd10 "_law_stray" = true) (k10 : PySem.W.keepIn K (.ref f10) = true)
    (a11 : PySem.W.nsIn K mainGlobals "law" = some (some (.ref f11))) (l11 : K.lookup f11 = some ⟨oc11, od11, .func (PySem.W.fnOf "law" "law" (defArgs st_law) (defBody st_law) (defScope st_law) .none kV11 dc11 pm11 an11 cd11 ct11), sl11⟩) (c11 : PySem.W.codeIn K cd11 "law" = true) (k11 : PySem.W.keepIn K (.ref f11) = true)
    (b_abs : PySem.W.nsIn K mainGlobals "abs" = some none)
    (b_all : PySem.W.nsIn K mainGlobals "all" = some none)
    (b_bool : PySem.W.nsIn K mainGlobals "bool" = some none)
    (b_int : PySem.W.nsIn K mainGlobals "int" = some none)
    (b_isinstance : PySem.W.nsIn K mainGlobals "isinstance" = some none)
    (b_len : PySem.W.nsIn K mainGlobals "len" = some none)
    (b_list : PySem.W.nsIn K mainGlobals "list" = some none)
    (b_range : PySem.W.nsIn K mainGlobals "range" = some none)
    (b_str : PySem.W.nsIn K mainGlobals "str" = some none)
    (b_tuple : PySem.W.nsIn K mainGlobals "tuple" = some none)
    (b_zip : PySem.W.nsIn K mainGlobals "zip" = some none)
    {t_FARTHEST : _} (c_FARTHEST : PySem.W.nsIn K mainGlobals "FARTHEST" = some (some (.int 1000000 t_FARTHEST)))
    {t_LETTERS : _} (c_LETTERS : PySem.W.nsIn K mainGlobals "LETTERS" = some (some (.str "abcdefghijklmnopqrstuvwxyz" t_LETTERS)))
    {t_LONGEST_NAME : _} (c_LONGEST_NAME : PySem.W.nsIn K mainGlobals "LONGEST_NAME" = some (some (.int 8 t_LONGEST_NAME)))
    : ∃ fd : FuncData, (∀ (s : Shared) (v : Value), BindsTo s fd ⟨[v], []⟩ [("_law_script", v)]) ∧ ∀ base : Heap, K.In base → base.Ns mainGlobals mg → FnOk l.prog w K mg base (L2.CX l.prog w) 6 fa fd ["_law_script"] (spD K 1 ph_law) := by
  cases hfa.symm.trans (PySem.W.mg_of X G a11)
  have F0 := fund_mk (params := defArgs st_is_number) l0 c0 k0
  have F1 := fund_mk (params := defArgs st_is_name) l1 c1 k1
  have F2 := fund_mk (params := defArgs st_is_point) l2 c2 k2
  have F3 := fund_mk (params := defArgs st_is_wind) l3 c3 k3
  have F4 := fund_mk (params := defArgs st_cross) l4 c4 k4
  have F5 := fund_mk (params := defArgs st__law_start) l5 c5 k5
  have F6 := fund_mk (params := defArgs st__law_pull) l6 c6 k6
  have F7 := fund_mk (params := defArgs st__law_pick) l7 c7 k7
  have F8 := fund_mk (params := defArgs st__law_sort) l8 c8 k8
  have F9 := fund_mk (params := defArgs st__law_same) l9 c9 k9
  have F10 := fund_mk (params := defArgs st__law_stray) l10 c10 k10
  have F11 := fund_mk (params := defArgs st_law) l11 c11 k11
  have T : Txt K mg (fun n => match n with | 0 => f0 | 1 => f1 | 2 => f2 | 3 => f3 | 4 => f4 | 5 => f5 | 6 => f6 | 7 => f7 | 8 => f8 | 9 => f9 | 10 => f10 | _ => fa) (fun n => match n with | 0 => PySem.W.fnOf "is_number" "is_number" (defArgs st_is_number) (defBody st_is_number) (defScope st_is_number) .none kV0 dc0 pm0 an0 cd0 ct0 | 1 => PySem.W.fnOf "is_name" "is_name" (defArgs st_is_name) (defBody st_is_name) (defScope st_is_name) .none kV1 dc1 pm1 an1 cd1 ct1 | 2 => PySem.W.fnOf "is_point" "is_point" (defArgs st_is_point) (defBody st_is_point) (defScope st_is_point) .none kV2 dc2 pm2 an2 cd2 ct2 | 3 => PySem.W.fnOf "is_wind" "is_wind" (defArgs st_is_wind) (defBody st_is_wind) (defScope st_is_wind) .none kV3 dc3 pm3 an3 cd3 ct3 | 4 => PySem.W.fnOf "cross" "cross" (defArgs st_cross) (defBody st_cross) (defScope st_cross) .none kV4 dc4 pm4 an4 cd4 ct4 | 5 => PySem.W.fnOf "_law_start" "_law_start" (defArgs st__law_start) (defBody st__law_start) (defScope st__law_start) .none kV5 dc5 pm5 an5 cd5 ct5 | 6 => PySem.W.fnOf "_law_pull" "_law_pull" (defArgs st__law_pull) (defBody st__law_pull) (defScope st__law_pull) .none kV6 dc6 pm6 an6 cd6 ct6 | 7 => PySem.W.fnOf "_law_pick" "_law_pick" (defArgs st__law_pick) (defBody st__law_pick) (defScope st__law_pick) .none kV7 dc7 pm7 an7 cd7 ct7 | 8 => PySem.W.fnOf "_law_sort" "_law_sort" (defArgs st__law_sort) (defBody st__law_sort) (defScope st__law_sort) .none kV8 dc8 pm8 an8 cd8 ct8 | 9 => PySem.W.fnOf "_law_same" "_law_same" (defArgs st__law_same) (defBody st__law_same) (defScope st__law_same) .none kV9 dc9 pm9 an9 cd9 ct9 | 10 => PySem.W.fnOf "_law_stray" "_law_stray" (defArgs st__law_stray) (defBody st__law_stray) (defScope st__law_stray) .none kV10 dc10 pm10 an10 cd10 ct10 | _ => PySem.W.fnOf "law" "law" (defArgs st_law) (defBody st_law) (defScope st_law) .none kV11 dc11 pm11 an11 cd11 ct11) :=
    { m_is_number := PySem.W.mg_of X G a0,
      k_is_number := k0,
      F_is_number := F0,
      kb_is_number_1 := kbd_of F0 rfl fun _ _ _ _ _ _ us hl => match us, hl with | [_], _ => rfl,
      m_is_name := PySem.W.mg_of X G a1,
      k_is_name := k1,
      F_is_name := F1,
      kb_is_name_0_value := kbdk_of F1 [.inr 0] fun _ _ _ _ _ _ us ws h1 h2 => match us, ws, h1, h2 with | [], [_], _, _ => rfl,
      kb_is_name_1 := kbd_of F1 rfl fun _ _ _ _ _ _ us hl => match us, hl with | [_], _ => rfl,
      m_is_point := PySem.W.mg_of X G a2,
      k_is_point := k2,
      F_is_point := F2,
      kb_is_point_0_value := kbdk_of F2 [.inr 0] fun _ _ _ _ _ _ us ws h1 h2 => match us, ws, h1, h2 with | [], [_], _, _ => rfl,
      kb_is_point_1 := kbd_of F2 rfl fun _ _ _ _ _ _ us hl => match us, hl with | [_], _ => rfl,
      m_is_wind := PySem.W.mg_of X G a3,
      k_is_wind := k3,
      F_is_wind := F3,
      kb_is_wind_0_value := kbdk_of F3 [.inr 0] fun _ _ _ _ _ _ us ws h1 h2 => match us, ws, h1, h2 with | [], [_], _, _ => rfl,
      kb_is_wind_1 := kbd_of F3 rfl fun _ _ _ _ _ _ us hl => match us, hl with | [_], _ => rfl,
      m_cross := PySem.W.mg_of X G a4,
      k_cross := k4,
      F_cross := F4,
      kb_cross_0_other_one := kbdk_of F4 [.inr 1, .inr 0] fun _ _ _ _ _ _ us ws h1 h2 => match us, ws, h1, h2 with | [], [_, _], _, _ => rfl,
      kb_cross_2 := kbd_of F4 rfl fun _ _ _ _ _ _ us hl => match us, hl with | [_, _], _ => rfl,
      m__law_start := PySem.W.mg_of X G a5,
      k__law_start := k5,
      F__law_start := F5,
      kb__law_start_1 := kbd_of F5 rfl fun _ _ _ _ _ _ us hl => match us, hl with | [_], _ => rfl,
      m__law_pull := PySem.W.mg_of X G a6,
      k__law_pull := k6,
      F__law_pull := F6,
      kb__law_pull_2 := kbd_of F6 rfl fun _ _ _ _ _ _ us hl => match us, hl with | [_, _], _ => rfl,
      m__law_pick := PySem.W.mg_of X G a7,
      k__law_pick := k7,
      F__law_pick := F7,
      kb__law_pick_2 := kbd_of F7 rfl fun _ _ _ _ _ _ us hl => match us, hl with | [_, _], _ => rfl,
      m__law_sort := PySem.W.mg_of X G a8,
      k__law_sort := k8,
      F__law_sort := F8,
      kb__law_sort_1 := kbd_of F8 rfl fun _ _ _ _ _ _ us hl => match us, hl with | [_], _ => rfl,
      m__law_same := PySem.W.mg_of X G a9,
      k__law_same := k9,
      F__law_same := F9,
      kb__law_same_2 := kbd_of F9 rfl fun _ _ _ _ _ _ us hl => match us, hl with | [_, _], _ => rfl,
      m__law_stray := PySem.W.mg_of X G a10,
      k__law_stray := k10,
      F__law_stray := F10,
      kb__law_stray_1 := kbd_of F10 rfl fun _ _ _ _ _ _ us hl => match us, hl with | [_], _ => rfl,
      m_law := PySem.W.mg_of X G a11,
      k_law := k11,
      F_law := F11,
      b_abs := PySem.W.mg_none_of X G b_abs,
      b_all := PySem.W.mg_none_of X G b_all,
      b_bool := PySem.W.mg_none_of X G b_bool,
      b_int := PySem.W.mg_none_of X G b_int,
      b_isinstance := PySem.W.mg_none_of X G b_isinstance,
      b_len := PySem.W.mg_none_of X G b_len,
      b_list := PySem.W.mg_none_of X G b_list,
      b_range := PySem.W.mg_none_of X G b_range,
      b_str := PySem.W.mg_none_of X G b_str,
      b_tuple := PySem.W.mg_none_of X G b_tuple,
      b_zip := PySem.W.mg_none_of X G b_zip,
      c_FARTHEST := ⟨_, PySem.W.mg_of X G c_FARTHEST, .int⟩,
      c_LETTERS := ⟨_, PySem.W.mg_of X G c_LETTERS, .str⟩,
      c_LONGEST_NAME := ⟨_, PySem.W.mg_of X G c_LONGEST_NAME, .int⟩ }
  exact ⟨_, fun s v => .of_eq rfl, fun base _ _ => ok_law T⟩
end W10
open PySem PySem.W PyProof.Rows
set_option maxRecDepth 100000 in
set_option maxHeartbeats 0 in
theorem PySem.Challenge.cw_gustfloor_k10_names_points_and_winds_holds : PySem.Challenge.rw_gustfloor_k10_names_points_and_winds.Holds := by
  w_on; o_law; k_head; (case hw => w_witness2)
  k_fill
  refine DL.walk_D (l := PySem.Challenge.rw_gustfloor_k10_names_points_and_winds) (k := 6) (φ := W10.ph_law) (x := "_law_script") rfl rfl ⟨rfl, by decide, by decide⟩ (fun ns M kk xx h1 h2 h3 h4 => W10.ph_law_of h1 h2 h3 h4) (fun w h Y => PySem.W.kIn_of Y) ?F
  case F =>
    intro w mg fa h KX G hmg
    refine' W10.all_mk KX G hmg ?a0 ?l0 ?c0 ?k0 ?a1 ?l1 ?c1 ?k1 ?a2 ?l2 ?c2 ?k2 ?a3 ?l3 ?c3 ?k3 ?a4 ?l4 ?c4 ?k4 ?a5 ?l5 ?c5 ?k5 ?a6 ?l6 ?c6 ?k6 ?a7 ?l7 ?c7 ?k7 ?a8 ?l8 ?c8 ?k8 ?a9 ?l9 ?c9 ?k9 ?a10 ?l10 ?c10 ?k10 ?a11 ?l11 ?c11 ?k11 ?b_abs ?b_all ?b_bool ?b_int ?b_isinstance ?b_len ?b_list ?b_range ?b_str ?b_tuple ?b_zip ?c_FARTHEST ?c_LETTERS ?c_LONGEST_NAME
    (case a0 => k_is)
    (case l0 => k_is)
    (case c0 => k_is)
    (case k0 => k_is)
    (case a1 => k_is)
    (case l1 => k_is)
    (case c1 => k_is)
    (case k1 => k_is)
    (case a2 => k_is)
    (case l2 => k_is)
    (case c2 => k_is)
    (case k2 => k_is)
    (case a3 => k_is)
    (case l3 => k_is)
    (case c3 => k_is)
    (case k3 => k_is)
    (case a4 => k_is)
    (case l4 => k_is)
    (case c4 => k_is)
    (case k4 => k_is)
    (case a5 => k_is)
    (case l5 => k_is)
    (case c5 => k_is)
    (case k5 => k_is)
    (case a6 => k_is)
    (case l6 => k_is)
    (case c6 => k_is)
    (case k6 => k_is)
    (case a7 => k_is)
    (case l7 => k_is)
    (case c7 => k_is)
    (case k7 => k_is)
    (case a8 => k_is)
    (case l8 => k_is)
    (case c8 => k_is)
    (case k8 => k_is)
    (case a9 => k_is)
    (case l9 => k_is)
    (case c9 => k_is)
    (case k9 => k_is)
    (case a10 => k_is)
    (case l10 => k_is)
    (case c10 => k_is)
    (case k10 => k_is)
    (case a11 => k_is)
    (case l11 => k_is)
    (case c11 => k_is)
    (case k11 => k_is)
    (case b_abs => k_is)
    (case b_all => k_is)
    (case b_bool => k_is)
    (case b_int => k_is)
    (case b_isinstance => k_is)
    (case b_len => k_is)
    (case b_list => k_is)
    (case b_range => k_is)
    (case b_str => k_is)
    (case b_tuple => k_is)
    (case b_zip => k_is)
    (case c_FARTHEST => k_is)
    (case c_LETTERS => k_is)
    (case c_LONGEST_NAME => k_is)
#print axioms PySem.Challenge.cw_gustfloor_k10_names_points_and_winds_holds
