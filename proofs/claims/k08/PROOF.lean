import PyProof.Rows.All
import Wide.All
import OpenK.AllK
import Wide.FinOn
import HandS.ForMost
import HandS.IsInst
import HandS.Zip
import HandS.Wide
import HandS.Defaults
import HandS.OwnEq
import HandS.EndBits
import HandS.Flow
import HandS.Style
import HandS.Lambda
import HandS.MakeKw
import HandS.MakeKwOnly
import HandS.Property
import HandS.ForExc
import HandS.TupAny
import HandS.More
import KE.KOpsOwn
import KE.KCallOwn
import HandS.SlotsOwn
import HandS.ClsMeth
import HandS.Star
import PyProof.NeKinds
import HandS.GenOver
import HandS.GenList
import HandS.NoneIn
import PySem.Challenge.RW_gustfloor_k08_whole_sets_of_ratios
set_option Elab.async false
set_option linter.all false
set_option maxRecDepth 100000
set_option maxHeartbeats 2000000
namespace DL
open PySem PySem.Spec PyProof.Rows L2

/-- data as trees; cel a: the changing object at a -/
inductive D where
  | non | bl (b : Bool) | int (i : Int) | str (x : Str) | lst (ds : List D) | tup (ds : List D) | obj (C : Addr) (fs : List (Str × D)) | cel (a : Addr) | scr (ns : List Int) | exc (a dd : Addr) (fs : List (Str × D)) | lam (f c : Addr) (q : Str) (P : Heap → Prop) (t : Option Addr)

mutual
inductive Rep (K : PySem.W.Frag) (G : Hp) : V → D → Prop where
  | non : Rep K G .non .non
  | bl {b : Bool} : Rep K G (.bl b) (.bl b)
  | int {i : Int} : Rep K G (.int i) (.int i)
  | str {x : Str} : Rep K G (.str x) (.str x)
  | lst {a : Addr} {vs : List V} {ds : List D} (h : G a = some (.lst vs)) (r : Reps K G vs ds) : Rep K G (.ref a) (.lst ds)
  | tup {a : Addr} {vs : List V} {ds : List D} (h : SqT K G a vs) (r : Reps K G vs ds) : Rep K G (.ref a) (.tup ds)
  | obj {a C dx : Addr} {fvs : List (Str × V)} {fs : List (Str × D)} (h : G a = some (.ins C dx fvs)) (r : FRep K G fvs fs) : Rep K G (.ref a) (.obj C fs)
  | cel {a : Addr} : Rep K G (.ref a) (.cel a)
  | scr {a : Addr} {ns : List Int} (h : SqL K G a (ns.map V.int)) : Rep K G (.ref a) (.scr ns)
  | exc {a dd : Addr} {fvs : List (Str × V)} {fs : List (Str × D)} (h : G dd = some (.xd fvs)) (r : FRep K G fvs fs) : Rep K G (.ref a) (.exc a dd fs)
  | lam {f c : Addr} {q : Str} {P : Heap → Prop} {t : Option Addr} (h : G f = some (.ext P)) (hc : G c = some (LamX.CodeO c q)) (ht : ∀ b, t = some b → G b = some (.tup [.int 0])) : Rep K G (.ref f) (.lam f c q P t)
inductive Reps (K : PySem.W.Frag) (G : Hp) : List V → List D → Prop where
  | nil : Reps K G [] []
  | cons {v : V} {d : D} {vs : List V} {ds : List D} (h : Rep K G v d) (r : Reps K G vs ds) : Reps K G (v :: vs) (d :: ds)
inductive FRep (K : PySem.W.Frag) (G : Hp) : List (Str × V) → List (Str × D) → Prop where
  | nil : FRep K G [] []
  | cons {f : Str} {v : V} {d : D} {vs : List (Str × V)} {ds : List (Str × D)} (h : Rep K G v d) (r : FRep K G vs ds) : FRep K G ((f, v) :: vs) ((f, d) :: ds)
end

theorem Same.seqL {K : PySem.W.Frag} {H H' : Hp} {a : Addr} {xs : List V} (e : Same H H') (h : SqL K H a xs) : SqL K H' a xs := by
  rcases h with (h | ⟨o, h⟩) | h
  · exact .inl (.inl (e _ _ h))
  · exact .inl (.inr ⟨o, e _ _ h⟩)
  · exact .inr h
theorem Same.seqT {K : PySem.W.Frag} {H H' : Hp} {a : Addr} {xs : List V} (e : Same H H') (h : SqT K H a xs) : SqT K H' a xs := by
  rcases h with (h | ⟨o, h⟩) | h
  · exact .inl (.inl (e _ _ h))
  · exact .inl (.inr ⟨o, e _ _ h⟩)
  · exact .inr h
section
variable {K : PySem.W.Frag} {G G' : Hp}
mutual
theorem Rep.same (s : Same G G') : ∀ {v : V} {d : D}, Rep K G v d → Rep K G' v d
  | _, _, .non => .non
  | _, _, .bl => .bl
  | _, _, .int => .int
  | _, _, .str => .str
  | _, _, .lst h r => .lst (s _ _ h) (Reps.same s r)
  | _, _, .tup h r => .tup (Same.seqT s h) (Reps.same s r)
  | _, _, .obj h r => .obj (s _ _ h) (FRep.same s r)
  | _, _, .cel => .cel
  | _, _, .scr h => .scr (Same.seqL s h)
  | _, _, .exc h r => .exc (s _ _ h) (FRep.same s r)
  | _, _, .lam h hc ht => .lam (s _ _ h) (s _ _ hc) (fun b e => s _ _ (ht b e))
theorem Reps.same (s : Same G G') : ∀ {v : List V} {d : List D}, Reps K G v d → Reps K G' v d
  | _, _, .nil => .nil
  | _, _, .cons h r => .cons (Rep.same s h) (Reps.same s r)
theorem FRep.same (s : Same G G') : ∀ {v : List (Str × V)} {d : List (Str × D)}, FRep K G v d → FRep K G' v d
  | _, _, .nil => .nil
  | _, _, .cons h r => .cons (Rep.same s h) (FRep.same s r)
end
theorem Reps.length : ∀ {vs : List V} {ds : List D}, Reps K G vs ds → vs.length = ds.length
  | _, _, .nil => rfl
  | _, _, .cons _ r => by rw [List.length_cons, List.length_cons, Reps.length r]
theorem Reps.get : ∀ {vs : List V} {ds : List D} {i : Nat} {d : D}, Reps K G vs ds → ds[i]? = some d → ∃ v, vs[i]? = some v ∧ Rep K G v d
  | _, _, _, _, .nil, e => by simp at e
  | _, _, 0, _, .cons h _, e => by simp at e; subst e; exact ⟨_, rfl, h⟩
  | _, _, i + 1, d, .cons _ r, e => by
    obtain ⟨v, h1, h2⟩ := Reps.get (i := i) (d := d) r (by simpa using e)
    exact ⟨v, by simpa using h1, h2⟩
theorem Reps.getV : ∀ {vs : List V} {ds : List D} {i : Nat} {v : V}, Reps K G vs ds → vs[i]? = some v → ∃ d, ds[i]? = some d ∧ Rep K G v d
  | _, _, _, _, .nil, e => by simp at e
  | _, _, 0, _, .cons h _, e => by simp at e; subst e; exact ⟨_, rfl, h⟩
  | _, _, i + 1, d, .cons _ r, e => by
    obtain ⟨v, h1, h2⟩ := Reps.getV (i := i) (v := d) r (by simpa using e)
    exact ⟨v, by simpa using h1, h2⟩
theorem Reps.append : ∀ {xs ys : List V} {ds es : List D}, Reps K G xs ds → Reps K G ys es → Reps K G (xs ++ ys) (ds ++ es)
  | _, _, _, _, .nil, s => s
  | _, _, _, _, .cons r t, s => .cons r (Reps.append t s)
theorem Reps.take : ∀ {xs : List V} {ds : List D} (n : Nat), Reps K G xs ds → Reps K G (xs.take n) (ds.take n)
  | _, _, 0, _ => .nil
  | _, _, _ + 1, .nil => .nil
  | _, _, n + 1, .cons r t => .cons r (Reps.take n t)
theorem Reps.drop : ∀ {xs : List V} {ds : List D} (n : Nat), Reps K G xs ds → Reps K G (xs.drop n) (ds.drop n)
  | _, _, 0, r => r
  | _, _, _ + 1, .nil => .nil
  | _, _, n + 1, .cons _ t => Reps.drop n t
theorem Reps.set {x : V} {u : D} (r : Rep K G x u) : ∀ {xs : List V} {us : List D} (i : Nat), Reps K G xs us → Reps K G (xs.set i x) (us.set i u)
  | _, _, _, .nil => .nil
  | _, _, 0, .cons _ t => .cons r t
  | _, _, i + 1, .cons q t => .cons q (Reps.set r i t)
theorem Reps.ints : ∀ (ns : List Int), Reps K G (ns.map V.int) (ns.map D.int)
  | [] => .nil
  | _ :: r => .cons .int (Reps.ints r)
theorem FRep.get : ∀ {vs : List (Str × V)} {ds : List (Str × D)} {f : Str} {d : D}, FRep K G vs ds → ds.lookup f = some d → ∃ v, vs.lookup f = some v ∧ Rep K G v d
  | _, _, _, _, .nil, e => by simp at e
  | _, _, f, d, .cons (f := g) (v := v) h r, e => by
    rw [List.lookup_cons] at e ⊢
    cases hb : (f == g) with
    | true =>
      rw [hb] at e
      cases e
      exact ⟨v, rfl, h⟩
    | false =>
      rw [hb] at e
      exact FRep.get r e
theorem FRep.none : ∀ {vs : List (Str × V)} {ds : List (Str × D)} {f : Str}, FRep K G vs ds → ds.lookup f = none → vs.lookup f = none
  | _, _, _, .nil, e => by simp
  | _, _, f, .cons (f := g) (v := v) h r, e => by
    rw [List.lookup_cons] at e ⊢
    cases hb : (f == g) with
    | true =>
      rw [hb] at e
      cases e
    | false =>
      rw [hb] at e
      exact FRep.none r e
theorem FRep.length : ∀ {vs : List (Str × V)} {ds : List (Str × D)}, FRep K G vs ds → vs.length = ds.length
  | _, _, .nil => rfl
  | _, _, .cons _ r => by rw [List.length_cons, List.length_cons, FRep.length r]
def putD (f : Str) (v : D) : List (Str × D) → List (Str × D)
  | [] => [(f, v)]
  | (g, u) :: r => if g = f then (f, v) :: r else (g, u) :: putD f v r
end

/-- what changes -/
inductive MO where
  | lst (ds : List D) | ins (C : Addr) (fs : List (Str × D)) | tbl (q : Str)
abbrev Mm := Addr → Option MO
def mup (M : Mm) (a : Addr) (o : MO) : Mm := fun b => if b = a then some o else M b
theorem mup_same {M : Mm} {a : Addr} {o : MO} : mup M a o a = some o := by unfold mup; rw [if_pos rfl]
theorem mup_ne {M : Mm} {a b : Addr} {o : MO} (h : b ≠ a) : mup M a o b = M b := by unfold mup; rw [if_neg h]
theorem mup_mup {M : Mm} {a : Addr} {o u : MO} : mup (mup M a o) a u = mup M a u := by
  funext b; unfold mup; split <;> rfl
def mdel (M : Mm) (a : Addr) : Mm := fun b => if b = a then none else M b
theorem mdel_same {M : Mm} {a : Addr} : mdel M a a = none := by unfold mdel; rw [if_pos rfl]
theorem mdel_ne {M : Mm} {a b : Addr} (h : b ≠ a) : mdel M a b = M b := by unfold mdel; rw [if_neg h]
theorem mdel_mup {M : Mm} {a : Addr} {o : MO} (h : M a = none) : mdel (mup M a o) a = M := by
  funext b
  unfold mdel mup
  by_cases e : b = a
  · subst e; rw [if_pos rfl, h]
  · rw [if_neg e, if_neg e]
/-- a state: the tracked heap, the part of it that never changes, what changes; the rest is hidden -/
structure Sta where
  H : Hp
  G : Hp
  M : Mm
def MRep (K : PySem.W.Frag) (G : Hp) (o : Option HO) : MO → Prop
  | .lst ds => ∃ vs, o = some (.lst vs) ∧ Reps K G vs ds
  | .ins C fs => ∃ dx fvs, o = some (.ins C dx fvs) ∧ FRep K G fvs fs
  | .tbl q => ∃ ps : Array Value, o = some (.tbl ps) ∧ TriplesOk ps.toList ∧ ∀ (pos : Pos) (cv : Value), codeAmong pos ps.toList = some cv → ∃ c, cv = .ref c ∧ G c = some (LamX.CodeO c q)
/-- an object that is hidden -/
def Sta.hidden (s : Sta) (a : Addr) : Prop := ∃ o, s.H a = some o ∧ s.G a = none ∧ s.M a = none
structure Ok (K : PySem.W.Frag) (s : Sta) : Prop where
  sub : Same s.G s.H
  apart : ∀ a mo, s.M a = some mo → s.G a = none
  cells : ∀ a mo, s.M a = some mo → MRep K s.G (s.H a) mo
structure Step (s t : Sta) : Prop where
  same : Same s.G t.G
  dom : ∀ a, (s.M a).isSome = true → (t.M a).isSome = true
  hid : ∀ a o, s.H a = some o → s.G a = none → s.M a = none → t.H a = some o ∧ t.G a = none ∧ t.M a = none
theorem Step.refl (s : Sta) : Step s s := ⟨Same.refl _, fun _ h => h, fun _ _ h1 h2 h3 => ⟨h1, h2, h3⟩⟩
theorem Step.trans {s t u : Sta} (a : Step s t) (b : Step t u) : Step s u :=
  ⟨a.same.trans b.same, fun x h => b.dom x (a.dom x h), fun x o h1 h2 h3 => let ⟨g1, g2, g3⟩ := a.hid x o h1 h2 h3; b.hid x o g1 g2 g3⟩
theorem MRep.same {K : PySem.W.Frag} {G G' : Hp} {o : Option HO} {mo : MO} (s : Same G G') (h : MRep K G o mo) : MRep K G' o mo := by
  cases mo with
  | lst ds => obtain ⟨vs, e, r⟩ := h; exact ⟨vs, e, r.same s⟩
  | ins C fs => obtain ⟨dx, fvs, e, r⟩ := h; exact ⟨dx, fvs, e, r.same s⟩
  | tbl q => obtain ⟨ps, e, ht, r⟩ := h; exact ⟨ps, e, ht, fun p cv z => let ⟨c, e1, e2⟩ := r p cv z; ⟨c, e1, s _ _ e2⟩⟩
theorem MRep.some {K : PySem.W.Frag} {G : Hp} {o : Option HO} {mo : MO} (h : MRep K G o mo) : ∃ u, o = Option.some u := by
  cases mo with
  | lst ds => obtain ⟨vs, e, r⟩ := h; exact ⟨_, e⟩
  | ins C fs => obtain ⟨dx, fvs, e, r⟩ := h; exact ⟨_, e⟩
  | tbl q => obtain ⟨ps, e, r⟩ := h; exact ⟨_, e⟩
theorem same_new {G : Hp} {p : Addr} {o : HO} (h : G p = none) : Same G (upd G p o) := fun b u e => by
  rw [upd_ne (ne_of_none e h)]
  exact e
section
variable {K : PySem.W.Frag} {s : Sta} {p : Addr} {o : HO} {mo : MO}
theorem Ok.freeM (k : Ok K s) (h : s.H p = none) : s.M p = none := by
  cases e : s.M p with
  | none => rfl
  | some mo =>
    obtain ⟨u, q⟩ := (k.cells p mo e).some
    rw [h] at q
    cases q
theorem Ok.freeG (k : Ok K s) (h : s.H p = none) : s.G p = none := k.sub.free h
/-- a new object that does not change -/
theorem Ok.new (k : Ok K s) (h : s.H p = none) : Ok K ⟨upd s.H p o, upd s.G p o, s.M⟩ ∧ Step s ⟨upd s.H p o, upd s.G p o, s.M⟩ := by
  have hm := k.freeM h
  have hg := k.freeG h
  refine ⟨⟨fun b u e => ?_, fun a mo e => ?_, fun a mo e => ?_⟩, ⟨same_new hg, fun _ x => x, fun a u h1 h2 h3 => ?_⟩⟩
  · have e' : upd s.G p o b = some u := e
    show upd s.H p o b = some u
    by_cases eb : b = p
    · subst eb
      rw [upd_same] at e' ⊢
      exact e'
    · rw [upd_ne eb] at e' ⊢
      exact k.sub b u e'
  · have ne : a ≠ p := fun z => by rw [z, hm] at e; cases e
    show upd s.G p o a = none
    rw [upd_ne ne]
    exact k.apart a mo e
  · have ne : a ≠ p := fun z => by rw [z, hm] at e; cases e
    show MRep K (upd s.G p o) (upd s.H p o a) mo
    rw [upd_ne ne]
    exact (k.cells a mo e).same (same_new hg)
  · have ne : a ≠ p := ne_of_none h1 h
    exact ⟨by show upd s.H p o a = _; rw [upd_ne ne]; exact h1, by show upd s.G p o a = _; rw [upd_ne ne]; exact h2, h3⟩
/-- a new object that changes -/
theorem Ok.newM (k : Ok K s) (h : s.H p = none) (r : MRep K s.G (some o) mo) : Ok K ⟨upd s.H p o, s.G, mup s.M p mo⟩ ∧ Step s ⟨upd s.H p o, s.G, mup s.M p mo⟩ := by
  have hm := k.freeM h
  have hg := k.freeG h
  refine ⟨⟨fun b u e => ?_, fun a mo' e => ?_, fun a mo' e => ?_⟩, ⟨Same.refl _, fun a x => ?_, fun a u h1 h2 h3 => ?_⟩⟩
  · have ne : b ≠ p := ne_of_none e hg
    show upd s.H p o b = _
    rw [upd_ne ne]
    exact k.sub b u e
  · by_cases ea : a = p
    · subst ea; exact hg
    · have e' : mup s.M p mo a = some mo' := e
      rw [mup_ne ea] at e'
      exact k.apart a mo' e'
  · have e' : mup s.M p mo a = some mo' := e
    show MRep K s.G (upd s.H p o a) mo'
    by_cases ea : a = p
    · subst ea
      rw [mup_same] at e'
      cases e'
      rw [upd_same]
      exact r
    · rw [mup_ne ea] at e'
      rw [upd_ne ea]
      exact k.cells a mo' e'
  · show (mup s.M p mo a).isSome = true
    by_cases ea : a = p
    · subst ea; rw [mup_same]; rfl
    · rw [mup_ne ea]; exact x
  · have ne : a ≠ p := ne_of_none h1 h
    exact ⟨by show upd s.H p o a = _; rw [upd_ne ne]; exact h1, h2, by show mup s.M p mo a = none; rw [mup_ne ne]; exact h3⟩
/-- a changing object is changed -/
theorem Ok.put (k : Ok K s) (h : (s.M p).isSome = true) (r : MRep K s.G (some o) mo) : Ok K ⟨upd s.H p o, s.G, mup s.M p mo⟩ ∧ Step s ⟨upd s.H p o, s.G, mup s.M p mo⟩ := by
  have hg : s.G p = none := by
    cases e : s.M p with
    | none => rw [e] at h; cases h
    | some m => exact k.apart p m e
  refine ⟨⟨fun b u e => ?_, fun a mo' e => ?_, fun a mo' e => ?_⟩, ⟨Same.refl _, fun a x => ?_, fun a u h1 h2 h3 => ?_⟩⟩
  · have ne : b ≠ p := ne_of_none e hg
    show upd s.H p o b = _
    rw [upd_ne ne]
    exact k.sub b u e
  · by_cases ea : a = p
    · subst ea; exact hg
    · have e' : mup s.M p mo a = some mo' := e
      rw [mup_ne ea] at e'
      exact k.apart a mo' e'
  · have e' : mup s.M p mo a = some mo' := e
    show MRep K s.G (upd s.H p o a) mo'
    by_cases ea : a = p
    · subst ea
      rw [mup_same] at e'
      cases e'
      rw [upd_same]
      exact r
    · rw [mup_ne ea] at e'
      rw [upd_ne ea]
      exact k.cells a mo' e'
  · show (mup s.M p mo a).isSome = true
    by_cases ea : a = p
    · subst ea; rw [mup_same]; rfl
    · rw [mup_ne ea]; exact x
  · have ne : a ≠ p := fun z => by rw [z] at h3; rw [h3] at h; cases h
    exact ⟨by show upd s.H p o a = _; rw [upd_ne ne]; exact h1, h2, by show mup s.M p mo a = none; rw [mup_ne ne]; exact h3⟩
/-- a changing object is kept as it is from now on; b: the state that is looked back to, which did not know it -/
theorem Ok.freeze {b : Sta} (k : Ok K s) (st : Step b s) (hb : b.H p = none) (hbm : b.M p = none) (hm : (s.M p).isSome = true) (ho : s.H p = some o) : Ok K ⟨s.H, upd s.G p o, mdel s.M p⟩ ∧ Step b ⟨s.H, upd s.G p o, mdel s.M p⟩ ∧ Same s.G (upd s.G p o) := by
  have hg : s.G p = none := by
    cases e : s.M p with
    | none => rw [e] at hm; cases hm
    | some m => exact k.apart p m e
  refine ⟨⟨fun c u e => ?_, fun a mo' e => ?_, fun a mo' e => ?_⟩, ⟨st.same.trans (same_new hg), fun a x => ?_, fun a u h1 h2 h3 => ?_⟩, same_new hg⟩
  · have e' : upd s.G p o c = some u := e
    by_cases ec : c = p
    · subst ec
      rw [upd_same] at e'
      cases e'
      exact ho
    · rw [upd_ne ec] at e'
      exact k.sub c u e'
  · have e' : mdel s.M p a = some mo' := e
    by_cases ea : a = p
    · subst ea; rw [mdel_same] at e'; cases e'
    · rw [mdel_ne ea] at e'
      show upd s.G p o a = none
      rw [upd_ne ea]
      exact k.apart a mo' e'
  · have e' : mdel s.M p a = some mo' := e
    by_cases ea : a = p
    · subst ea; rw [mdel_same] at e'; cases e'
    · rw [mdel_ne ea] at e'
      exact (k.cells a mo' e').same (same_new hg)
  · have ne : a ≠ p := fun z => by rw [z, hbm] at x; cases x
    show (mdel s.M p a).isSome = true
    rw [mdel_ne ne]
    exact st.dom a x
  · have ne : a ≠ p := ne_of_none h1 hb
    obtain ⟨g1, g2, g3⟩ := st.hid a u h1 h2 h3
    exact ⟨g1, by show upd s.G p o a = none; rw [upd_ne ne]; exact g2, by show mdel s.M p a = none; rw [mdel_ne ne]; exact g3⟩
/-- a hidden object is shown -/
theorem Ok.shown {b : Sta} (k : Ok K s) (st : Step b s) (hb : b.H p = none) (hg : s.G p = none) (hm : s.M p = none) (ho : s.H p = some o) : Ok K ⟨s.H, upd s.G p o, s.M⟩ ∧ Step b ⟨s.H, upd s.G p o, s.M⟩ ∧ Same s.G (upd s.G p o) := by
  refine ⟨⟨fun c u e => ?_, fun a mo' e => ?_, fun a mo' e => ?_⟩, ⟨st.same.trans (same_new hg), st.dom, fun a u h1 h2 h3 => ?_⟩, same_new hg⟩
  · have e' : upd s.G p o c = some u := e
    by_cases ec : c = p
    · subst ec
      rw [upd_same] at e'
      cases e'
      exact ho
    · rw [upd_ne ec] at e'
      exact k.sub c u e'
  · have ne : a ≠ p := fun z => by rw [z, hm] at e; cases e
    show upd s.G p o a = none
    rw [upd_ne ne]
    exact k.apart a mo' e
  · exact (k.cells a mo' e).same (same_new hg)
  · have ne : a ≠ p := ne_of_none h1 hb
    obtain ⟨g1, g2, g3⟩ := st.hid a u h1 h2 h3
    exact ⟨g1, by show upd s.G p o a = none; rw [upd_ne ne]; exact g2, g3⟩
/-- .. where it was not hidden before -/
theorem Ok.shown2 {b : Sta} (k : Ok K s) (st : Step b s) (hb : ¬ b.hidden p) (hg : s.G p = none) (hm : s.M p = none) (ho : s.H p = some o) : Ok K ⟨s.H, upd s.G p o, s.M⟩ ∧ Step b ⟨s.H, upd s.G p o, s.M⟩ ∧ Same s.G (upd s.G p o) := by
  refine ⟨⟨fun c u e => ?_, fun a mo' e => ?_, fun a mo' e => ?_⟩, ⟨st.same.trans (same_new hg), st.dom, fun a u h1 h2 h3 => ?_⟩, same_new hg⟩
  · have e' : upd s.G p o c = some u := e
    by_cases ec : c = p
    · subst ec
      rw [upd_same] at e'
      cases e'
      exact ho
    · rw [upd_ne ec] at e'
      exact k.sub c u e'
  · have ne : a ≠ p := fun z => by rw [z, hm] at e; cases e
    show upd s.G p o a = none
    rw [upd_ne ne]
    exact k.apart a mo' e
  · exact (k.cells a mo' e).same (same_new hg)
  · have ne : a ≠ p := fun z => hb (by rw [← z]; exact ⟨u, h1, h2, h3⟩)
    obtain ⟨g1, g2, g3⟩ := st.hid a u h1 h2 h3
    exact ⟨g1, by show upd s.G p o a = none; rw [upd_ne ne]; exact g2, g3⟩
/-- a hidden object is laid, or changed -/
theorem Ok.hide {b : Sta} (k : Ok K s) (st : Step b s) (hb : b.H p = none) (hg : s.G p = none) (hm : s.M p = none) : Ok K ⟨upd s.H p o, s.G, s.M⟩ ∧ Step b ⟨upd s.H p o, s.G, s.M⟩ := by
  refine ⟨⟨fun c u e => ?_, k.apart, fun a mo' e => ?_⟩, ⟨st.same, st.dom, fun a u h1 h2 h3 => ?_⟩⟩
  · have ne : c ≠ p := ne_of_none e hg
    show upd s.H p o c = _
    rw [upd_ne ne]
    exact k.sub c u e
  · have ne : a ≠ p := fun z => by rw [z, hm] at e; cases e
    show MRep K s.G (upd s.H p o a) mo'
    rw [upd_ne ne]
    exact k.cells a mo' e
  · have ne : a ≠ p := ne_of_none h1 hb
    obtain ⟨g1, g2, g3⟩ := st.hid a u h1 h2 h3
    exact ⟨by show upd s.H p o a = _; rw [upd_ne ne]; exact g1, g2, g3⟩
end

/-! ### readings over data -/
abbrev DEnv := List (Option D)
abbrev DK := D → Mm → Prop
abbrev DKA := List D → Mm → Prop
abbrev DX := Addr → List (Str × D) → Mm → Prop
abbrev DE := DEnv → Mm → DK → DX → Prop
abbrev DT := DEnv → Mm → (Bool → Mm → Prop) → DX → Prop
abbrev DA := DEnv → Mm → DKA → DX → Prop
structure DEnds where
  nx : DEnv → Mm → Prop
  rt : DK
  m0 : Mm
  bk : DEnv → Mm → Prop := fun _ _ => False
  ct : DEnv → Mm → Prop := fun _ _ => False
abbrev DS := DEnds → DX → DEnv → Mm → Prop

structure ER (K : PySem.W.Frag) (s : Sta) (σ : L2.St) (ρ : DEnv) : Prop where
  ok : Ok K s
  len : σ.length = ρ.length
  at_ : ∀ (i : Nat) (d : D), ρ[i]? = some (some d) → ∃ v, σ[i]? = some (some v) ∧ Rep K s.G v d
section
variable {K : PySem.W.Frag} {s t : Sta} {σ : L2.St} {ρ ρ' : DEnv}
theorem ER.step (e : ER K s σ ρ) (st : Step s t) (k : Ok K t) : ER K t σ ρ := ⟨k, e.len, fun i d h => let ⟨v, h1, h2⟩ := e.at_ i d h; ⟨v, h1, h2.same st.same⟩⟩
theorem ER.set (e : ER K s σ ρ) (i : Nat) {v : V} {d : D} (r : Rep K s.G v d) : ER K s (σ.set i (some v)) (ρ.set i (some d)) := by
  refine ⟨e.ok, by rw [List.length_set, List.length_set]; exact e.len, fun j d' h => ?_⟩
  by_cases hj : j = i
  · subst hj
    by_cases hl : j < ρ.length
    · rw [List.getElem?_set_self hl] at h
      cases h
      exact ⟨v, List.getElem?_set_self (by rw [e.len]; exact hl), r⟩
    · rw [List.getElem?_eq_none (by rw [List.length_set]; omega)] at h
      cases h
  · rw [List.getElem?_set_ne (Ne.symm hj)] at h
    rw [List.getElem?_set_ne (Ne.symm hj)]
    exact e.at_ j d' h
theorem ER.unset (e : ER K s σ ρ) (i : Nat) : ER K s (σ.set i none) (ρ.set i none) := by
  refine ⟨e.ok, by rw [List.length_set, List.length_set]; exact e.len, fun j d' h => ?_⟩
  by_cases hj : j = i
  · subst hj
    by_cases hl : j < ρ.length
    · rw [List.getElem?_set_self hl] at h
      cases h
    · rw [List.getElem?_eq_none (by rw [List.length_set]; omega)] at h
      cases h
  · rw [List.getElem?_set_ne (Ne.symm hj)] at h
    rw [List.getElem?_set_ne (Ne.symm hj)]
    exact e.at_ j d' h
end

def Post (K : PySem.W.Frag) (s : Sta) (k : DK) (Q : VK) : Prop := ∀ (d : D) (t : Sta), k d t.M → Step s t → Ok K t → ∀ v, Rep K t.G v d → Q v t.H
def PostT (K : PySem.W.Frag) (s : Sta) (k : Bool → Mm → Prop) (Q : Bool → Hp → Prop) : Prop := ∀ (b : Bool) (t : Sta), k b t.M → Step s t → Ok K t → Q b t.H
def PostA (K : PySem.W.Frag) (s : Sta) (k : DKA) (Q : List V → Hp → Prop) : Prop := ∀ (ds : List D) (t : Sta), k ds t.M → Step s t → Ok K t → ∀ vs, Reps K t.G vs ds → Q vs t.H
def PostN (K : PySem.W.Frag) (s : Sta) (k : DEnv → Mm → Prop) (Q : L2.St → Hp → Prop) : Prop := ∀ (ρ : DEnv) (t : Sta), k ρ t.M → Step s t → ∀ σ, ER K t σ ρ → Q σ t.H
def PostX (K : PySem.W.Frag) (E : XK) (s : Sta) (x : DX) : Prop := ∀ (C : Addr) (fs : List (Str × D)) (t : Sta), x C fs t.M → Step s t → Ok K t → ∀ dx fvs, t.H dx = some (.xd fvs) → t.G dx = none → t.M dx = none → ¬ s.hidden dx → FRep K t.G fvs fs → E (.ref C) (some dx) t.H
section
variable {K : PySem.W.Frag} {s t : Sta} {E : XK}
theorem Post.step {k : DK} {Q : VK} (p : Post K s k Q) (st : Step s t) : Post K t k Q := fun d u h s' r v e => p d u h (st.trans s') r v e
theorem PostT.step {k : Bool → Mm → Prop} {Q : Bool → Hp → Prop} (p : PostT K s k Q) (st : Step s t) : PostT K t k Q := fun d u h s' r => p d u h (st.trans s') r
theorem PostA.step {k : DKA} {Q : List V → Hp → Prop} (p : PostA K s k Q) (st : Step s t) : PostA K t k Q := fun d u h s' r v e => p d u h (st.trans s') r v e
theorem PostN.step {k : DEnv → Mm → Prop} {Q : L2.St → Hp → Prop} (p : PostN K s k Q) (st : Step s t) : PostN K t k Q := fun d u h s' v e => p d u h (st.trans s') v e
theorem PostX.step {x : DX} (p : PostX K E s x) (st : Step s t) : PostX K E t x := fun C fs u h s' k dx fvs h1 h2 h3 hn h4 => p C fs u h (st.trans s') k dx fvs h1 h2 h3 (fun ⟨o, z1, z2, z3⟩ => hn ⟨o, st.hid dx o z1 z2 z3⟩) h4
theorem PostX.never : PostX K E s (fun _ _ _ => False) := fun _ _ _ h => h.elim
theorem Post.now {k : DK} {Q : VK} (p : Post K s k Q) {d : D} {v : V} (h : k d s.M) (o : Ok K s) (r : Rep K s.G v d) : Q v s.H := p d s h (Step.refl s) o v r
end

def up (K : PySem.W.Frag) (E : XK) (τ : DE) : TE := fun σ H Q => ∃ ρ s k x, s.H = H ∧ ER K s σ ρ ∧ τ ρ s.M k x ∧ Post K s k Q ∧ PostX K E s x
def upT (K : PySem.W.Frag) (E : XK) (τ : DT) : TT := fun σ H Q => ∃ ρ s k x, s.H = H ∧ ER K s σ ρ ∧ τ ρ s.M k x ∧ PostT K s k Q ∧ PostX K E s x
def upA (K : PySem.W.Frag) (E : XK) (τ : DA) : TA := fun σ H Q => ∃ ρ s k x, s.H = H ∧ ER K s σ ρ ∧ τ ρ s.M k x ∧ PostA K s k Q ∧ PostX K E s x
structure EndsR (K : PySem.W.Frag) (s : Sta) (k : DEnds) (D : Ends) : Prop where
  nx : PostN K s k.nx D.nx
  rt : ∃ b, Step b s ∧ Ok K b ∧ b.M = k.m0 ∧ Post K b k.rt D.rt
  bk : PostN K s k.bk D.bk
  ct : PostN K s k.ct D.ct
theorem EndsR.step {K : PySem.W.Frag} {s t : Sta} {k : DEnds} {D : Ends} (p : EndsR K s k D) (st : Step s t) : EndsR K t k D :=
  ⟨p.nx.step st, let ⟨b, s1, o, m, q⟩ := p.rt; ⟨b, s1.trans st, o, m, q⟩, p.bk.step st, p.ct.step st⟩
def upS (K : PySem.W.Frag) (E : XK) (τ : DS) : TS := fun D σ H => ∃ ρ s k x, s.H = H ∧ ER K s σ ρ ∧ τ k x ρ s.M ∧ EndsR K s k D ∧ PostX K E s x

def DP (X : Cx) (E : XK) (e : Expr) (τ : DE) : Prop := PE X e (up X.K E τ)
def DPT (X : Cx) (E : XK) (e : Expr) (τ : DT) : Prop := PT X e (upT X.K E τ)
def DPW (X : Cx) (E : XK) (e : Expr) (τ : DT) : Prop := PW X e (upT X.K E τ)
def DPA (X : Cx) (E : XK) (es : List Expr) (τ : DA) : Prop := PA X es (upA X.K E τ)
def DPS (X : Cx) (E : XK) (st : Stmt) (τ : DS) : Prop := PS X st (upS X.K E τ)
def DPB (X : Cx) (E : XK) (st : List Stmt) (τ : DS) : Prop := PSs X st (upS X.K E τ)

section
variable {X : Cx} {E : XK} {e a b c : Expr} {pos : Pos}
theorem pe_mono {t t' : TE} (h : PE X e t) (m : ∀ σ H Q, t' σ H Q → t σ H Q) : PE X e t' := ⟨fun pins s σ H Q I q => h.run pins s σ H Q I (m σ H Q q)⟩
theorem pt_mono {t t' : TT} (h : PT X e t) (m : ∀ σ H Q, t' σ H Q → t σ H Q) : PT X e t' := ⟨fun pins s σ H Q I q => h.run pins s σ H Q I (m σ H Q q)⟩
theorem pw_mono {t t' : TT} (h : PW X e t) (m : ∀ σ H Q, t' σ H Q → t σ H Q) : PW X e t' := ⟨fun wh pins s σ H Q I q => h.run wh pins s σ H Q I (m σ H Q q)⟩
theorem pa_mono {es : List Expr} {t t' : TA} (h : PA X es t) (m : ∀ σ H Q, t' σ H Q → t σ H Q) : PA X es t' := ⟨fun p pins s σ H Q I q => h.run p pins s σ H Q I (m σ H Q q)⟩
theorem ps_mono {st : Stmt} {t t' : TS} (h : PS X st t) (m : ∀ D σ H, t' D σ H → t D σ H) : PS X st t' := ⟨fun pins s σ H D I q => h.run pins s σ H D I (m D σ H q)⟩
theorem pss_mono {st : List Stmt} {t t' : TS} (h : PSs X st t) (m : ∀ D σ H, t' D σ H → t D σ H) : PSs X st t' := ⟨fun pins s σ H D I q => h.run pins s σ H D I (m D σ H q)⟩

/-! ### names and constants -/
def dVar (i : Nat) : DE := fun ρ M k _ => ∃ d, ρ[i]? = some (some d) ∧ k d M
def dC (d : D) : DE := fun _ M k _ => k d M
theorem up_var {K : PySem.W.Frag} {i : Nat} {σ : L2.St} {H : Hp} {Q : VK} (h : up K E (dVar i) σ H Q) : tVar i σ H Q := by
  obtain ⟨ρ, s, k, x, rfl, er, ⟨d, e1, q⟩, p, _⟩ := h
  obtain ⟨v, e2, r⟩ := er.at_ i d e1
  exact ⟨v, e2, p.now q er.ok r⟩
theorem dv (i : Nat) {x : Str} (hN : X.N[i]? = some x := by rfl) (hv : Vis X.env.scope x := by first | exact Or.inl rfl | exact Or.inr (Or.inl rfl) | exact Or.inr (Or.inr rfl)) (hd : (x == ("__debug__" : Str)) = false := by decide)
    (hcd : (x == ("__classdict__" : Str)) = false := by decide) : DP X E (.Name x pos) (dVar i) := pe_mono (pe_var hN hv hd hcd) fun _ _ _ h => up_var h
theorem up_c {K : PySem.W.Frag} {d : D} {v : V} {σ : L2.St} {H : Hp} {Q : VK} (r : ∀ G, Rep K G v d) (h : up K E (dC d) σ H Q) : tC v σ H Q := by
  obtain ⟨ρ, s, k, x, rfl, er, q, p, _⟩ := h
  exact p.now q er.ok (r _)
theorem d_int {i j} : DP X E (.Constant (.int i) j pos) (dC (.int i)) := pe_mono pe_int fun _ _ _ h => up_c (fun _ => .int) h
theorem d_bl {b j} : DP X E (.Constant (.bool b) j pos) (dC (.bl b)) := pe_mono pe_bl fun _ _ _ h => up_c (fun _ => .bl) h
theorem d_non {j} : DP X E (.Constant .none j pos) (dC .non) := pe_mono pe_non fun _ _ _ h => up_c (fun _ => .non) h
theorem d_str {x j} : DP X E (.Constant (.str x) j pos) (dC (.str x)) := pe_mono pe_str fun _ _ _ h => up_c (fun _ => .str) h
/-- a module's constant -/
inductive KC : D → Value → Prop where
  | int {i t} : KC (.int i) (.int i t)
  | str {x t} : KC (.str x) (.str x t)
theorem d_glob {x : Str} {d : D} {u : Value} (hg : Gl X x) (hm : X.mg x = some u) (r : KC d u) (hd : (x == ("__debug__" : Str)) = false := by decide) : DP X E (.Name x pos) (dC d) := by
  cases r with
  | int => exact pe_mono (pe_glob (v := .int _) hg hm ⟨_, rfl⟩ hd) fun _ _ _ h => up_c (fun _ => .int) h
  | str => exact pe_mono (pe_glob (v := .str _) hg hm ⟨_, rfl⟩ hd) fun _ _ _ h => up_c (fun _ => .str) h

/-! ### operators -/
abbrev D2 := D → D → Mm → DK → DX → Prop
abbrev D1 := D → Mm → DK → DX → Prop
abbrev DN := List D → Mm → DK → DX → Prop
def r2 (K : PySem.W.Frag) (E : XK) (f : D2) : R2 := fun x y H Q => ∃ s dx dy k xx, s.H = H ∧ Ok K s ∧ Rep K s.G x dx ∧ Rep K s.G y dy ∧ f dx dy s.M k xx ∧ Post K s k Q ∧ PostX K E s xx
def r1 (K : PySem.W.Frag) (E : XK) (f : D1) : V → Hp → VK → Prop := fun x H Q => ∃ s dx k xx, s.H = H ∧ Ok K s ∧ Rep K s.G x dx ∧ f dx s.M k xx ∧ Post K s k Q ∧ PostX K E s xx
def rA (K : PySem.W.Frag) (E : XK) (f : DN) : List V → Hp → VK → Prop := fun xs H Q => ∃ s ds k xx, s.H = H ∧ Ok K s ∧ Reps K s.G xs ds ∧ f ds s.M k xx ∧ Post K s k Q ∧ PostX K E s xx
def dOp (f : D2) (τa τb : DE) : DE := fun ρ M k x => τa ρ M (fun u M1 => τb ρ M1 (fun v M2 => f u v M2 k x) x) x
def dUn (f : D1) (τa : DE) : DE := fun ρ M k x => τa ρ M (fun u M1 => f u M1 k x) x
theorem up_op {K : PySem.W.Frag} {f : D2} {τa τb : DE} {σ : L2.St} {H : Hp} {Q : VK} (h : up K E (dOp f τa τb) σ H Q) : tOp (r2 K E f) (up K E τa) (up K E τb) σ H Q := by
  obtain ⟨ρ, s, k, x, rfl, er, q, p, px⟩ := h
  refine ⟨ρ, s, _, x, rfl, er, q, fun u s1 q1 st1 ok1 v1 r1 => ?_, px⟩
  refine ⟨ρ, s1, _, x, rfl, er.step st1 ok1, q1, fun w s2 q2 st2 ok2 v2 r2 => ?_, px.step st1⟩
  exact ⟨s2, u, w, k, x, rfl, ok2, r1.same st2.same, r2, q2, p.step (st1.trans st2), px.step (st1.trans st2)⟩
theorem up_un {K : PySem.W.Frag} {f : D1} {τa : DE} {σ : L2.St} {H : Hp} {Q : VK} (h : up K E (dUn f τa) σ H Q) : tUn (r1 K E f) (up K E τa) σ H Q := by
  obtain ⟨ρ, s, k, x, rfl, er, q, p, px⟩ := h
  exact ⟨ρ, s, _, x, rfl, er, q, fun u s1 q1 st1 ok1 v1 r1 => ⟨s1, u, k, x, rfl, ok1, r1, q1, p.step st1, px.step st1⟩, px⟩
variable {τa τb τc : DE}
theorem d_op {op : Operator} {f : D2} (ho : OpR X (binaryOp op) (r2 X.K E f)) (ha : DP X E a τa) (hb : DP X E b τb) : DP X E (.BinOp a op b pos) (dOp f τa τb) := pe_mono (pe_op ho ha hb) fun _ _ _ h => up_op h
theorem d_un {op : UnaryOp} {f : D1} (ho : UnR X (unaryOp op) (r1 X.K E f)) (ha : DP X E a τa) : DP X E (.UnaryOp op a pos) (dUn f τa) := pe_mono (pe_un ho ha) fun _ _ _ h => up_un h
theorem d_cmp {op : CmpOp} {f : D2} (ho : OpR X (compareOp op) (r2 X.K E f)) (ha : DP X E a τa) (hb : DP X E b τb) (hm : behindInMarks op b = false) : DP X E (.Compare a [op] [b] pos) (dOp f τa τb) := pe_mono (pe_cmpR ho ha hb hm) fun _ _ _ h => up_op h
/-- a value that is a bool, as a test -/
def dB (τ : DE) : DT := fun ρ M k x => τ ρ M (fun u M1 => ∃ b, u = .bl b ∧ k b M1) x
section
variable {K : PySem.W.Frag} {G : Hp} {v : V}
theorem Rep.bl_of {b : Bool} (h : Rep K G v (.bl b)) : v = .bl b := by cases h; rfl
theorem Rep.int_of {b : Int} (h : Rep K G v (.int b)) : v = .int b := by cases h; rfl
theorem Rep.str_of {b : Str} (h : Rep K G v (.str b)) : v = .str b := by cases h; rfl
theorem Rep.non_of (h : Rep K G v .non) : v = .non := by cases h; rfl
theorem Rep.cel_of {a : Addr} (h : Rep K G v (.cel a)) : v = .ref a := by cases h; rfl
theorem Rep.lst_of {ds : List D} (h : Rep K G v (.lst ds)) : ∃ a vs, v = .ref a ∧ G a = some (.lst vs) ∧ Reps K G vs ds := by cases h with | lst h r => exact ⟨_, _, rfl, h, r⟩
theorem Rep.tup_of {ds : List D} (h : Rep K G v (.tup ds)) : ∃ a vs, v = .ref a ∧ SqT K G a vs ∧ Reps K G vs ds := by cases h with | tup h r => exact ⟨_, _, rfl, h, r⟩
theorem Rep.obj_of {C : Addr} {fs : List (Str × D)} (h : Rep K G v (.obj C fs)) : ∃ a dx fvs, v = .ref a ∧ G a = some (.ins C dx fvs) ∧ FRep K G fvs fs := by cases h with | obj h r => exact ⟨_, _, _, rfl, h, r⟩
theorem Reps.one {v : List V} {d : D} (h : Reps K G v [d]) : ∃ x, v = [x] ∧ Rep K G x d := by
  cases h with | cons h r => cases r; exact ⟨_, rfl, h⟩
theorem Reps.two {v : List V} {d e : D} (h : Reps K G v [d, e]) : ∃ x y, v = [x, y] ∧ Rep K G x d ∧ Rep K G y e := by
  cases h with | cons h r => cases r with | cons h' r => cases r; exact ⟨_, _, rfl, h, h'⟩
end
theorem upT_B {K : PySem.W.Frag} {τ : DE} {σ : L2.St} {H : Hp} {Q : Bool → Hp → Prop} (h : upT K E (dB τ) σ H Q) : up K E τ σ H fun x H' => ∃ k, x = .bl k ∧ Q k H' := by
  obtain ⟨ρ, s, k, x, rfl, er, q, p, px⟩ := h
  refine ⟨ρ, s, _, x, rfl, er, q, fun u s1 q1 st1 ok1 v1 r1 => ?_, px⟩
  obtain ⟨b, rfl, q1⟩ := q1
  exact ⟨b, r1.bl_of, p b s1 q1 st1 ok1⟩
theorem t_cmp {op : CmpOp} {f : D2} (ho : OpR X (compareOp op) (r2 X.K E f)) (ha : DP X E a τa) (hb : DP X E b τb) (hm : behindInMarks op b = false) : DPT X E (.Compare a [op] [b] pos) (dB (dOp f τa τb)) :=
  pt_mono (pt_cmpR ho ha hb hm) fun σ H Q h => up_op (upT_B h)
theorem t_val (h : DP X E e τa) (he : ∀ whole, isTrue e X.env whole = (do let v ← whole; standAt e.pos; holding [v] (truthy v)) := by intro _; rfl) : DPT X E e (dB τa) :=
  pt_mono (pt_val h he) fun σ H Q h => upT_B h

/-! ### and, or, not, if -/
variable {θa θb : DT} {rest : List Expr}
def dAnd (t u : DT) : DT := fun ρ M k x => t ρ M (fun c M1 => if c = true then u ρ M1 k x else k false M1) x
def dOr (t u : DT) : DT := fun ρ M k x => t ρ M (fun c M1 => if c = true then k true M1 else u ρ M1 k x) x
def dNot (t : DT) : DT := fun ρ M k x => t ρ M (fun c M1 => k (!c) M1) x
theorem w_and1 (ha : DPT X E a θa) : DPW X E (.BoolOp .And [a] pos) θa := pw_and1 ha
theorem w_or1 (ha : DPT X E a θa) : DPW X E (.BoolOp .Or [a] pos) θa := pw_or1 ha
theorem w_and (ha : DPT X E a θa) (hb : DPW X E (.BoolOp .And (b :: rest) pos) θb) : DPW X E (.BoolOp .And (a :: b :: rest) pos) (dAnd θa θb) :=
  pw_mono (pw_and ha hb) fun σ H Q h => by
    obtain ⟨ρ, s, k, x, rfl, er, q, p, px⟩ := h
    refine ⟨ρ, s, _, x, rfl, er, q, fun b s1 q1 st1 ok1 => ?_, px⟩
    cases b with
    | true =>
      rw [if_pos rfl] at q1 ⊢
      exact ⟨ρ, s1, k, x, rfl, er.step st1 ok1, q1, p.step st1, px.step st1⟩
    | false =>
      rw [if_neg Bool.false_ne_true] at q1 ⊢
      exact p false s1 q1 st1 ok1
theorem w_or (ha : DPT X E a θa) (hb : DPW X E (.BoolOp .Or (b :: rest) pos) θb) : DPW X E (.BoolOp .Or (a :: b :: rest) pos) (dOr θa θb) :=
  pw_mono (pw_or ha hb) fun σ H Q h => by
    obtain ⟨ρ, s, k, x, rfl, er, q, p, px⟩ := h
    refine ⟨ρ, s, _, x, rfl, er, q, fun b s1 q1 st1 ok1 => ?_, px⟩
    cases b with
    | true =>
      rw [if_pos rfl] at q1 ⊢
      exact p true s1 q1 st1 ok1
    | false =>
      rw [if_neg Bool.false_ne_true] at q1 ⊢
      exact ⟨ρ, s1, k, x, rfl, er.step st1 ok1, q1, p.step st1, px.step st1⟩
theorem t_not (ha : DPT X E a θa) : DPT X E (.UnaryOp .Not a pos) (dNot θa) :=
  pt_mono (pt_not ha) fun σ H Q h => by
    obtain ⟨ρ, s, k, x, rfl, er, q, p, px⟩ := h
    exact ⟨ρ, s, _, x, rfl, er, q, fun b s1 q1 st1 ok1 => p (!b) s1 q1 st1 ok1, px⟩
theorem DPW.t (h : DPW X E e θa) : DPT X E e θa := PW.pt h
/-- .. as values -/
def dAndV (ta tb : DE) : DE := fun ρ M k x => ta ρ M (fun u M1 => ∃ c, u = .bl c ∧ if c = true then tb ρ M1 k x else k (.bl false) M1) x
def dOrV (ta tb : DE) : DE := fun ρ M k x => ta ρ M (fun u M1 => ∃ c, u = .bl c ∧ if c = true then k (.bl true) M1 else tb ρ M1 k x) x
def dNotV (ta : DE) : DE := fun ρ M k x => ta ρ M (fun u M1 => ∃ c, u = .bl c ∧ k (.bl (!c)) M1) x
theorem d_one {op} (h : DP X E a τa) : DP X E (.BoolOp op [a] pos) τa := pe_one h
theorem d_and (ha : DP X E a τa) (hb : DP X E (.BoolOp .And (b :: rest) pos) τb) : DP X E (.BoolOp .And (a :: b :: rest) pos) (dAndV τa τb) :=
  pe_mono (pe_and ha hb) fun σ H Q h => by
    obtain ⟨ρ, s, k, x, rfl, er, q, p, px⟩ := h
    refine ⟨ρ, s, _, x, rfl, er, q, fun u s1 q1 st1 ok1 v1 r1 => ?_, px⟩
    obtain ⟨c, rfl, q1⟩ := q1
    refine ⟨c, r1.bl_of, ?_⟩
    cases c with
    | true =>
      rw [if_pos rfl] at q1 ⊢
      exact ⟨ρ, s1, k, x, rfl, er.step st1 ok1, q1, p.step st1, px.step st1⟩
    | false =>
      rw [if_neg Bool.false_ne_true] at q1 ⊢
      exact p _ s1 q1 st1 ok1 _ .bl
theorem d_or (ha : DP X E a τa) (hb : DP X E (.BoolOp .Or (b :: rest) pos) τb) : DP X E (.BoolOp .Or (a :: b :: rest) pos) (dOrV τa τb) :=
  pe_mono (pe_or ha hb) fun σ H Q h => by
    obtain ⟨ρ, s, k, x, rfl, er, q, p, px⟩ := h
    refine ⟨ρ, s, _, x, rfl, er, q, fun u s1 q1 st1 ok1 v1 r1 => ?_, px⟩
    obtain ⟨c, rfl, q1⟩ := q1
    refine ⟨c, r1.bl_of, ?_⟩
    cases c with
    | true =>
      rw [if_pos rfl] at q1 ⊢
      exact p _ s1 q1 st1 ok1 _ .bl
    | false =>
      rw [if_neg Bool.false_ne_true] at q1 ⊢
      exact ⟨ρ, s1, k, x, rfl, er.step st1 ok1, q1, p.step st1, px.step st1⟩
theorem d_not (ha : DP X E a τa) : DP X E (.UnaryOp .Not a pos) (dNotV τa) :=
  pe_mono (pe_not ha) fun σ H Q h => by
    obtain ⟨ρ, s, k, x, rfl, er, q, p, px⟩ := h
    refine ⟨ρ, s, _, x, rfl, er, q, fun u s1 q1 st1 ok1 v1 r1 => ?_, px⟩
    obtain ⟨c, rfl, q1⟩ := q1
    exact ⟨c, r1.bl_of, p _ s1 q1 st1 ok1 _ .bl⟩
def dIf (t : DT) (ta tb : DE) : DE := fun ρ M k x => t ρ M (fun c M1 => if c = true then ta ρ M1 k x else tb ρ M1 k x) x
theorem d_if (hc : DPT X E c θa) (ha : DP X E a τa) (hb : DP X E b τb) : DP X E (.IfExp c a b pos) (dIf θa τa τb) :=
  pe_mono (pe_ifExp hc ha hb) fun σ H Q h => by
    obtain ⟨ρ, s, k, x, rfl, er, q, p, px⟩ := h
    refine ⟨ρ, s, _, x, rfl, er, q, fun c s1 q1 st1 ok1 => ?_, px⟩
    cases c with
    | true =>
      rw [if_pos rfl] at q1 ⊢
      exact ⟨ρ, s1, k, x, rfl, er.step st1 ok1, q1, p.step st1, px.step st1⟩
    | false =>
      rw [if_neg Bool.false_ne_true] at q1 ⊢
      exact ⟨ρ, s1, k, x, rfl, er.step st1 ok1, q1, p.step st1, px.step st1⟩
/-- a < b < c -/
def dChain (f g : D2) (τa τb τc : DE) : DE := fun ρ M k x => τa ρ M (fun u M1 => τb ρ M1 (fun v M2 => f u v M2 (fun z M3 => ∃ c, z = .bl c ∧ if c = true then τc ρ M3 (fun w M4 => g v w M4 k x) x else k (.bl false) M3) x) x) x

/-! ### argument lists, displays -/
variable {es : List Expr} {αa : DA}
def dNil : DA := fun _ M k _ => k [] M
def dCons (ta : DE) (tr : DA) : DA := fun ρ M k x => ta ρ M (fun u M1 => tr ρ M1 (fun us M2 => k (u :: us) M2) x) x
theorem a_nil : DPA X E [] dNil := pa_mono pa_nil fun σ H Q h => by
  obtain ⟨ρ, s, k, x, rfl, er, q, p, px⟩ := h
  exact p [] s q (Step.refl s) er.ok [] .nil
theorem a_cons (ha : DP X E e τa) (hr : DPA X E es αa) (hs : starEach (e :: es) X.env = (false, eval e X.env) :: starEach es X.env := by rfl) : DPA X E (e :: es) (dCons τa αa) :=
  pa_mono (pa_cons ha hr hs) fun σ H Q h => by
    obtain ⟨ρ, s, k, x, rfl, er, q, p, px⟩ := h
    refine ⟨ρ, s, _, x, rfl, er, q, fun u s1 q1 st1 ok1 v1 r1 => ?_, px⟩
    refine ⟨ρ, s1, _, x, rfl, er.step st1 ok1, q1, fun us s2 q2 st2 ok2 vs r2 => ?_, px.step st1⟩
    exact p _ s2 q2 (st1.trans st2) ok2 _ (.cons (r1.same st2.same) r2)
def dTup (t : DA) : DE := fun ρ M k x => t ρ M (fun xs M1 => xs.length ≤ sizeLine ∧ k (.tup xs) M1) x
def dLst (t : DA) : DE := fun ρ M k x => t ρ M (fun xs M1 => xs.length ≤ sizeLine ∧ k (.lst xs) M1) x
/-- a list that changes -/
def dLstM (t : DA) : DE := fun ρ M k x => t ρ M (fun xs M1 => xs.length ≤ sizeLine ∧ ∀ p, M1 p = none → k (.cel p) (mup M1 p (.lst xs))) x
section
variable {K : PySem.W.Frag} {s : Sta} {k : DK} {Q : VK} {xs : List V} {ds : List D} {q : Addr}
theorem Post.tup (p : Post K s k Q) (h : k (.tup ds) s.M) (o : Ok K s) (r : Reps K s.G xs ds) (hq : s.H q = none) : Q (.ref q) (upd s.H q (.tup xs)) := by
  obtain ⟨a, b⟩ := o.new (o := .tup xs) hq
  exact p _ ⟨upd s.H q (.tup xs), upd s.G q (.tup xs), s.M⟩ h b a _ (.tup (SqT.of upd_same) (r.same b.same))
theorem Post.lst (p : Post K s k Q) (h : k (.lst ds) s.M) (o : Ok K s) (r : Reps K s.G xs ds) (hq : s.H q = none) : Q (.ref q) (upd s.H q (.lst xs)) := by
  obtain ⟨a, b⟩ := o.new (o := .lst xs) hq
  exact p _ ⟨upd s.H q (.lst xs), upd s.G q (.lst xs), s.M⟩ h b a _ (.lst upd_same (r.same b.same))
theorem Post.lstM (p : Post K s k Q) (h : ∀ p, s.M p = none → k (.cel p) (mup s.M p (.lst ds))) (o : Ok K s) (r : Reps K s.G xs ds) (hq : s.H q = none) : Q (.ref q) (upd s.H q (.lst xs)) := by
  obtain ⟨a, b⟩ := o.newM (o := .lst xs) (mo := .lst ds) hq ⟨xs, rfl, r⟩
  exact p _ ⟨upd s.H q (.lst xs), s.G, mup s.M q (.lst ds)⟩ (h q (o.freeM hq)) b a _ .cel
end
theorem d_tup {x1} (h : DPA X E es αa) : DP X E (.Tuple es x1 pos) (dTup αa) :=
  pe_mono (pe_tup h) fun σ H Q h => by
    obtain ⟨ρ, s, k, x, rfl, er, q, p, px⟩ := h
    refine ⟨ρ, s, _, x, rfl, er, q, fun us s1 q1 st1 ok1 vs r1 => ?_, px⟩
    exact ⟨by rw [r1.length]; exact q1.1, fun t ht => (p.step st1).tup q1.2 ok1 r1 ht⟩
theorem d_lst (h : DPA X E es αa) : DP X E (.List es pos) (dLst αa) :=
  pe_mono (pe_lst h) fun σ H Q h => by
    obtain ⟨ρ, s, k, x, rfl, er, q, p, px⟩ := h
    refine ⟨ρ, s, _, x, rfl, er, q, fun us s1 q1 st1 ok1 vs r1 => ?_, px⟩
    exact ⟨by rw [r1.length]; exact q1.1, fun t ht => (p.step st1).lst q1.2 ok1 r1 ht⟩
theorem d_lstM (h : DPA X E es αa) : DP X E (.List es pos) (dLstM αa) :=
  pe_mono (pe_lst h) fun σ H Q h => by
    obtain ⟨ρ, s, k, x, rfl, er, q, p, px⟩ := h
    refine ⟨ρ, s, _, x, rfl, er, q, fun us s1 q1 st1 ok1 vs r1 => ?_, px⟩
    exact ⟨by rw [r1.length]; exact q1.1, fun t ht => (p.step st1).lstM q1.2 ok1 r1 ht⟩

/-! ### calls of built-ins -/
def dCB (f : DN) (t : DA) : DE := fun ρ M k x => t ρ M (fun ds M1 => f ds M1 k x) x
theorem up_cb {K : PySem.W.Frag} {f : DN} {σ : L2.St} {H : Hp} {Q : VK} (h : up K E (dCB f αa) σ H Q) : tCB (rA K E f) (upA K E αa) σ H Q := by
  obtain ⟨ρ, s, k, x, rfl, er, q, p, px⟩ := h
  exact ⟨ρ, s, _, x, rfl, er, q, fun us s1 q1 st1 ok1 vs r1 => ⟨s1, us, k, x, rfl, ok1, r1, q1, p.step st1, px.step st1⟩, px⟩
theorem d_callB {id : String} {x : Str} {p : Pos} {f : DN} (hc : CallR X (.builtin id) (rA X.K E f)) (hg : Gl X x) (hm : X.mg x = none) (hv : bootBuiltins x = some (.builtin id)) (ha : DPA X E (e :: es) αa) (hn : x ≠ "__name__" := by decide) (hdb : (x == ("__debug__" : Str)) = false := by decide) (hs : starEach (e :: es) X.env = (false, eval e X.env) :: starEach es X.env := by rfl) (hpl : (backTo pos (starEach es X.env)).any (·.1) = false := by rfl) :
    DP X E (.Call (.Name x p) (e :: es) [] pos) (dCB f αa) := pe_mono (pe_callB hc hg hm hv ha hn hdb hs hpl) fun _ _ _ h => up_cb h
theorem d_callTy {T : String} {x : Str} {p : Pos} {f : DN} (hc : CallR X (.type T) (rA X.K E f)) (hg : Gl X x) (hm : X.mg x = none) (hv : bootBuiltins x = some (.type T)) (ha : DPA X E (e :: es) αa) (hn : x ≠ "__name__" := by decide) (hdb : (x == ("__debug__" : Str)) = false := by decide) (hs : starEach (e :: es) X.env = (false, eval e X.env) :: starEach es X.env := by rfl) (hpl : (backTo pos (starEach es X.env)).any (·.1) = false := by rfl) :
    DP X E (.Call (.Name x p) (e :: es) [] pos) (dCB f αa) := pe_mono (pe_callTy hc hg hm hv ha hn hdb hs hpl) fun _ _ _ h => up_cb h

/-! ### statements -/
variable {st : Stmt} {sts : List Stmt} {τs τt : DS}
def dNext : DS := fun k _ ρ M => k.nx ρ M
def dSeq (t u : DS) : DS := fun k x ρ M => t { k with nx := u k x } x ρ M
theorem b_nil : DPB X E [] dNext := pss_mono pss_nil fun D σ H h => by
  obtain ⟨ρ, s, k, x, rfl, er, q, p, px⟩ := h
  exact p.nx ρ s q (Step.refl s) σ er
theorem b_cons (h1 : DPS X E st τs) (h2 : DPB X E sts τt) : DPB X E (st :: sts) (dSeq τs τt) := pss_mono (pss_cons h1 h2) fun D σ H h => by
  obtain ⟨ρ, s, k, x, rfl, er, q, p, px⟩ := h
  refine ⟨ρ, s, _, x, rfl, er, q, ⟨fun ρ1 s1 q1 st1 σ1 er1 => ?_, p.rt, p.bk, p.ct⟩, px⟩
  exact ⟨ρ1, s1, k, x, rfl, er1, q1, p.step st1, px.step st1⟩
theorem b_one (h1 : DPS X E st τs) : DPB X E [st] τs := pss_one h1
theorem s_pass : DPS X E (.Pass pos) dNext := ps_mono ps_pass fun D σ H h => by
  obtain ⟨ρ, s, k, x, rfl, er, q, p, px⟩ := h
  exact p.nx ρ s q (Step.refl s) σ er
def dBrk : DS := fun k _ ρ M => k.bk ρ M
theorem s_break : DPS X E (.Break pos) dBrk := ps_mono ps_break fun D σ H h => by
  obtain ⟨ρ, s, k, x, rfl, er, q, p, px⟩ := h
  exact p.bk ρ s q (Step.refl s) σ er
def dCont : DS := fun k _ ρ M => k.ct ρ M
theorem s_continue : DPS X E (.Continue pos) dCont := ps_mono ps_continue fun D σ H h => by
  obtain ⟨ρ, s, k, x, rfl, er, q, p, px⟩ := h
  exact p.ct ρ s q (Step.refl s) σ er
def dDrop (τ : DE) : DS := fun k x ρ M => τ ρ M (fun _ M1 => k.nx ρ M1) x
theorem s_expr (he : DP X E e τa) (hs : swapsWith e none pos.line X.env = pure false := by rfl) : DPS X E (.Expr e pos) (dDrop τa) := ps_mono (ps_expr he hs) fun D σ H h => by
  obtain ⟨ρ, s, k, x, rfl, er, q, p, px⟩ := h
  exact ⟨ρ, s, _, x, rfl, er, q, fun u s1 q1 st1 ok1 v1 r1 => p.nx ρ s1 q1 st1 σ (er.step st1 ok1), px⟩
def dRet (τ : DE) : DS := fun k x ρ M => τ ρ M k.rt x
theorem s_ret (he : DP X E e τa) : DPS X E (.Return (some e) pos) (dRet τa) := ps_mono (ps_ret he) fun D σ H h => by
  obtain ⟨ρ, s, k, x, rfl, er, q, p, px⟩ := h
  obtain ⟨b, sb, ob, mb, pb⟩ := p.rt
  exact ⟨ρ, s, k.rt, x, rfl, er, q, pb.step sb, px⟩
/-- a changing list, as it is from now on, given back -/
def dRetZ (τ : DE) : DS := fun k x ρ M => τ ρ M (fun u M1 => ∃ a ds, u = .cel a ∧ M1 a = some (.lst ds) ∧ k.m0 a = none ∧ k.rt (.lst ds) (mdel M1 a)) x
theorem s_retZ (he : DP X E e τa) : DPS X E (.Return (some e) pos) (dRetZ τa) := ps_mono (ps_ret he) fun D σ H h => by
  obtain ⟨ρ, s, k, x, rfl, er, q, p, px⟩ := h
  obtain ⟨b, sb, ob, mb, pb⟩ := p.rt
  refine ⟨ρ, s, _, x, rfl, er, q, fun u s1 q1 st1 ok1 v1 r1 => ?_, px⟩
  obtain ⟨a, ds, rfl, hm, h0, q1⟩ := q1
  have hv := r1.cel_of
  subst hv
  obtain ⟨vs, ho, rs⟩ := ok1.cells _ _ hm
  have st : Step b s1 := sb.trans st1
  have bm : b.M a = none := by rw [mb]; exact h0
  have bh : b.H a = none := by
    cases eh : b.H a with
    | none => rfl
    | some o =>
      cases eg : b.G a with
      | none =>
        have z := (st.hid a o eh eg bm).2.2
        rw [hm] at z
        cases z
      | some u =>
        have z := st.same a u eg
        rw [ok1.apart _ _ hm] at z
        cases z
  obtain ⟨k2, st2, sm⟩ := ok1.freeze st bh bm (by rw [hm]; rfl) ho
  exact pb _ ⟨s1.H, upd s1.G a (.lst vs), mdel s1.M a⟩ q1 st2 k2 _ (.lst upd_same (rs.same sm))
def dRetN : DS := fun k _ _ M => k.rt .non M
theorem s_retN : DPS X E (.Return none pos) dRetN := ps_mono ps_retN fun D σ H h => by
  obtain ⟨ρ, s, k, x, rfl, er, q, p, px⟩ := h
  obtain ⟨b, sb, ob, mb, pb⟩ := p.rt
  exact pb _ s q sb er.ok _ .non
def dIfS (c : DT) (t u : DS) : DS := fun k x ρ M => c ρ M (fun b M1 => if b = true then t k x ρ M1 else u k x ρ M1) x
theorem s_if {sa sb : List Stmt} (hc : DPT X E c θa) (ha : DPB X E sa τs) (hb : DPB X E sb τt) : DPS X E (.If c sa sb pos) (dIfS θa τs τt) := ps_mono (ps_if hc ha hb) fun D σ H h => by
  obtain ⟨ρ, s, k, x, rfl, er, q, p, px⟩ := h
  refine ⟨ρ, s, _, x, rfl, er, q, fun c s1 q1 st1 ok1 => ?_, px⟩
  cases c with
  | true =>
    rw [if_pos rfl] at q1 ⊢
    exact ⟨ρ, s1, k, x, rfl, er.step st1 ok1, q1, p.step st1, px.step st1⟩
  | false =>
    rw [if_neg Bool.false_ne_true] at q1 ⊢
    exact ⟨ρ, s1, k, x, rfl, er.step st1 ok1, q1, p.step st1, px.step st1⟩
/-- code that is never come to -/
def dNever : DS := fun _ _ _ _ => False
theorem s_never : DPS X E st dNever := ps_mono ps_never fun D σ H h => by
  obtain ⟨ρ, s, k, x, rfl, er, q, p, px⟩ := h
  exact q
theorem b_never : DPB X E sts dNever := pss_mono pss_never fun D σ H h => by
  obtain ⟨ρ, s, k, x, rfl, er, q, p, px⟩ := h
  exact q
/-- name = value -/
def dSet (i : Nat) (τ : DE) : DS := fun k x ρ M => τ ρ M (fun u M1 => k.nx (ρ.set i (some u)) M1) x
theorem s_set {i : Nat} {x : Str} {pos' : Pos} (hN : X.N.Nodup) (hi : X.N[i]? = some x) (hx : Loc X.env.scope x) (he : DP X E e τa) (hs : swapsWith e (some (.Name x pos')) pos.line X.env = pure false := by rfl) (hf : X.fn x = true ∨ X.env.scope.names.lookup x = some .local := by first | exact .inl rfl | exact .inr rfl | assumption) :
    DPS X E (.Assign [.Name x pos'] e pos) (dSet i τa) := ps_mono (ps_set hN hi hx he hs hf) fun D σ H h => by
  obtain ⟨ρ, s, k, x, rfl, er, q, p, px⟩ := h
  exact ⟨ρ, s, _, x, rfl, er, q, fun u s1 q1 st1 ok1 v1 r1 => p.nx _ s1 q1 st1 _ ((er.step st1 ok1).set i r1), px⟩
/-- a, b = x, y -/
def dPar (i j : Nat) (α : DA) : DS := fun k x ρ M => α ρ M (fun us M1 => ∃ u v, us = [u, v] ∧ k.nx ((ρ.set i (some u)).set j (some v)) M1) x
theorem s_par {i j : Nat} {x y : Str} {px py pt : Pos} {kt k2 pt2} (hc : X.calm = true) (hN : X.N.Nodup) (hi : X.N[i]? = some x) (hj : X.N[j]? = some y) (hij : i ≠ j)
    (hx : X.env.scope.names.lookup x = some .local) (hy : X.env.scope.names.lookup y = some .local) (ha : DPA X E [a, b] αa)
    (hw : swappedStores [.Tuple [.Name x px, .Name y py] kt pt] (.Tuple [a, b] k2 pt2) X.env = pure (some [x, y]))
    (hs : swapsWithSole [.Tuple [.Name x px, .Name y py] kt pt] (.Tuple [a, b] k2 pt2) pos.line X.env = pure false := by rfl) :
    DPS X E (.Assign [.Tuple [.Name x px, .Name y py] kt pt] (.Tuple [a, b] k2 pt2) pos) (dPar i j αa) := ps_mono (ps_par hc hN hi hj hij hx hy ha hw hs) fun D σ H h => by
  obtain ⟨ρ, s, k, x, rfl, er, q, p, px⟩ := h
  refine ⟨ρ, s, _, x, rfl, er, q, fun us s1 q1 st1 ok1 vs r1 => ?_, px⟩
  obtain ⟨u, v, rfl, q1⟩ := q1
  obtain ⟨u', v', rfl, ru, rv⟩ := r1.two
  exact ⟨u', v', rfl, p.nx _ s1 q1 st1 _ (((er.step st1 ok1).set i ru).set j rv)⟩
end
end DL
set_option Elab.async false
set_option linter.all false
set_option maxRecDepth 100000
set_option maxHeartbeats 2000000
namespace DL
open PySem PySem.Spec PyProof.Rows L2

/-! ### what is walked -/
/-- J gives the data ds, one by one, in s and whatever follows it -/
structure ItD (K : PySem.W.Frag) (s : Sta) (J : It) (ds : List D) : Prop where
  go : ∀ (i : Nat) (t : Sta), Step s t → Ok K t → i < ds.length → J.go i t.H
  stop : ∀ (t : Sta), Step s t → Ok K t → J.stop ds.length t.H
  yld : ∀ (i : Nat) (t : Sta) (x : V) (H' : Hp), Step s t → Ok K t → J.yld i t.H x H' → ∀ d, ds[i]? = some d → ∃ u : Sta, u.H = H' ∧ u.M = t.M ∧ Step t u ∧ Ok K u ∧ Rep K u.G x d
abbrev DI := DEnv → Mm → DKA → DX → Prop
def upI (K : PySem.W.Frag) (E : XK) (ι : DI) : TI := fun σ H R => ∃ ρ s k x, s.H = H ∧ ER K s σ ρ ∧ ι ρ s.M k x ∧ PostX K E s x ∧ ∀ (ds : List D) (t : Sta), k ds t.M → Step s t → Ok K t → ∀ J, ItD K t J ds → R J t.H
def DPI (X : Cx) (E : XK) (tg iter : Expr) (ι : DI) : Prop := PI X tg iter (upI X.K E ι)
section
variable {X : Cx} {E : XK} {e a b c : Expr} {pos : Pos} {tg iter : Expr} {τa τb : DE} {αa : DA}
theorem pi_mono {t t' : TI} (h : PI X tg iter t) (m : ∀ σ H R, t' σ H R → t σ H R) : PI X tg iter t' := ⟨fun pins s σ H R I q => h.run pins s σ H R I (m σ H R q)⟩
theorem itD_list {K : PySem.W.Frag} {s : Sta} {l : Addr} {vs : List V} {ds : List D} (h : s.G l = some (.lst vs)) (r : Reps K s.G vs ds) : ItD K s (Itl K l) ds := by
  have at_ : ∀ t, Step s t → Ok K t → SqL K t.H l vs := fun t st ok => SqL.of (ok.sub _ _ (st.same _ _ h))
  have hl := r.length
  refine ⟨fun i t st ok hi => ?_, fun t st ok => ⟨vs, at_ t st ok, by omega⟩, fun i t x H' st ok y d hd => ?_⟩
  · exact ⟨vs, vs[i]'(by omega), at_ t st ok, by simp [hl ▸ hi]⟩
  · obtain ⟨v, hv, rv⟩ := r.get hd
    have q := y.2 vs (at_ t st ok)
    rw [hv] at q
    cases q
    exact ⟨t, y.1.symm, rfl, Step.refl t, ok, rv.same st.same⟩
theorem itD_tup {K : PySem.W.Frag} {s : Sta} {l : Addr} {vs : List V} {ds : List D} (h : SqT K s.G l vs) (r : Reps K s.G vs ds) : ItD K s (Itt K l) ds := by
  have at_ : ∀ t, Step s t → Ok K t → SqT K t.H l vs := fun t st ok => Same.seqT ok.sub (Same.seqT st.same h)
  have hl := r.length
  refine ⟨fun i t st ok hi => ?_, fun t st ok => ⟨vs, at_ t st ok, by omega⟩, fun i t x H' st ok y d hd => ?_⟩
  · exact ⟨vs, vs[i]'(by omega), at_ t st ok, by simp [hl ▸ hi]⟩
  · obtain ⟨v, hv, rv⟩ := r.get hd
    have q := y.2 vs (at_ t st ok)
    rw [hv] at q
    cases q
    exact ⟨t, y.1.symm, rfl, Step.refl t, ok, rv.same st.same⟩
/-- a text's signs -/
def signs (x : Str) : List D := x.cps.toList.map fun c => D.str ⟨#[c]⟩
theorem itD_str {K : PySem.W.Frag} {s : Sta} (x : Str) : ItD K s (Its x) (signs x) := by
  have hl : (signs x).length = x.cps.size := by unfold signs; simp
  refine ⟨fun i t st ok hi => by rw [hl] at hi; exact hi, fun t st ok => by rw [hl]; exact Nat.le_refl _, fun i t v H' st ok y d hd => ?_⟩
  obtain ⟨e, c, hc, rfl⟩ := y
  have q : d = D.str ⟨#[c]⟩ := by
    unfold signs at hd
    rw [List.getElem?_map] at hd
    have : x.cps.toList[i]? = some c := by simpa using hc
    rw [this] at hd
    exact (Option.some.inj hd).symm
  subst q
  exact ⟨t, e.symm, rfl, Step.refl t, ok, .str⟩
def upto (lo : Int) (n : Nat) : List D := (List.range n).map fun i => D.int (lo + (i : Nat))
theorem upto_length (lo : Int) (n : Nat) : (upto lo n).length = n := by unfold upto; simp
theorem upto_get {lo : Int} {n i : Nat} {d : D} (h : (upto lo n)[i]? = some d) : i < n ∧ d = .int (lo + i) := by
  unfold upto at h
  rw [List.getElem?_map] at h
  by_cases hi : i < n
  · rw [List.getElem?_range hi] at h
    exact ⟨hi, (Option.some.inj h).symm⟩
  · rw [List.getElem?_eq_none (by simpa using hi)] at h
    cases h
theorem itD_range {K : PySem.W.Frag} {s : Sta} (lo : Int) (n : Nat) : ItD K s (Itr lo n) (upto lo n) := by
  refine ⟨fun i t st ok hi => by rw [upto_length] at hi; exact hi, fun t st ok => by rw [upto_length]; exact Nat.le_refl _, fun i t v H' st ok y d hd => ?_⟩
  obtain ⟨e, rfl⟩ := y
  obtain ⟨_, rfl⟩ := upto_get hd
  exact ⟨t, e.symm, rfl, Step.refl t, ok, .int⟩
/-- pairs of two lists -/
def zips : List D → List D → List D
  | x :: xs, y :: ys => .tup [x, y] :: zips xs ys
  | _, _ => []
theorem zips_get : ∀ {xs ys : List D} {i : Nat} {d : D}, (zips xs ys)[i]? = some d → ∃ x y, xs[i]? = some x ∧ ys[i]? = some y ∧ d = .tup [x, y]
  | [], _, _, _, h => by simp [zips] at h
  | _ :: _, [], _, _, h => by simp [zips] at h
  | x :: xs, y :: ys, 0, d, h => by simp [zips] at h; exact ⟨x, y, rfl, rfl, h.symm⟩
  | x :: xs, y :: ys, i + 1, d, h => by
    obtain ⟨u, v, h1, h2, h3⟩ := zips_get (xs := xs) (ys := ys) (i := i) (d := d) (by simpa [zips] using h)
    exact ⟨u, v, by simpa using h1, by simpa using h2, h3⟩
theorem zips_length : ∀ (xs ys : List D), (zips xs ys).length = min xs.length ys.length
  | [], _ => by simp [zips]
  | _ :: _, [] => by simp [zips]
  | x :: xs, y :: ys => by simp [zips, zips_length xs ys]
theorem yld_pair {K : PySem.W.Frag} {t : Sta} {T : Addr} {x y : V} {d e : D} (ok : Ok K t) (hT : t.H T = none) (rx : Rep K t.G x d) (ry : Rep K t.G y e) :
    ∃ u : Sta, u.H = upd t.H T (.tup [x, y]) ∧ u.M = t.M ∧ Step t u ∧ Ok K u ∧ Rep K u.G (.ref T) (.tup [d, e]) := by
  obtain ⟨k, st⟩ := ok.new (o := .tup [x, y]) hT
  exact ⟨⟨_, _, _⟩, rfl, rfl, st, k, .tup (SqT.of upd_same) (.cons (rx.same st.same) (.cons (ry.same st.same) .nil))⟩
theorem itD_zipL {K : PySem.W.Frag} {s : Sta} {l m : Addr} {vs us : List V} {ds es : List D} (h : s.G l = some (.lst vs)) (h' : s.G m = some (.lst us)) (r : Reps K s.G vs ds) (r' : Reps K s.G us es) : ItD K s (Itz K l m) (zips ds es) := by
  have at1 : ∀ t, Step s t → Ok K t → SqL K t.H l vs := fun t st ok => SqL.of (ok.sub _ _ (st.same _ _ h))
  have at2 : ∀ t, Step s t → Ok K t → SqL K t.H m us := fun t st ok => SqL.of (ok.sub _ _ (st.same _ _ h'))
  have hl := r.length
  have hl' := r'.length
  refine ⟨fun i t st ok hi => ?_, fun t st ok => ⟨vs, us, at1 t st ok, at2 t st ok, ?_⟩, fun i t x H' st ok y d hd => ?_⟩
  · rw [zips_length] at hi
    exact ⟨vs, us, vs[i]'(by omega), us[i]'(by omega), at1 t st ok, at2 t st ok, by simp, by simp⟩
  · rw [zips_length]; omega
  · obtain ⟨d1, d2, e1, e2, rfl⟩ := zips_get hd
    obtain ⟨T, x1, x2, rfl, hT, rfl, y1, y2⟩ := y
    obtain ⟨v1, w1, p1⟩ := r.get e1
    obtain ⟨v2, w2, p2⟩ := r'.get e2
    have q1 := y1 vs (at1 t st ok)
    have q2 := y2 us (at2 t st ok)
    rw [w1] at q1
    rw [w2] at q2
    cases q1
    cases q2
    exact yld_pair ok hT (p1.same st.same) (p2.same st.same)
theorem itD_zipT {K : PySem.W.Frag} {s : Sta} {l m : Addr} {vs us : List V} {ds es : List D} (h : SqT K s.G l vs) (h' : SqT K s.G m us) (r : Reps K s.G vs ds) (r' : Reps K s.G us es) : ItD K s (RZ.ItzT K l m) (zips ds es) := by
  have at1 : ∀ t, Step s t → Ok K t → SqT K t.H l vs := fun t st ok => Same.seqT ok.sub (Same.seqT st.same h)
  have at2 : ∀ t, Step s t → Ok K t → SqT K t.H m us := fun t st ok => Same.seqT ok.sub (Same.seqT st.same h')
  have hl := r.length
  have hl' := r'.length
  refine ⟨fun i t st ok hi => ?_, fun t st ok => ⟨vs, us, at1 t st ok, at2 t st ok, ?_⟩, fun i t x H' st ok y d hd => ?_⟩
  · rw [zips_length] at hi
    exact ⟨vs, us, vs[i]'(by omega), us[i]'(by omega), at1 t st ok, at2 t st ok, by simp, by simp⟩
  · rw [zips_length]; omega
  · obtain ⟨d1, d2, e1, e2, rfl⟩ := zips_get hd
    obtain ⟨T, x1, x2, rfl, hT, rfl, y1, y2⟩ := y
    obtain ⟨v1, w1, p1⟩ := r.get e1
    obtain ⟨v2, w2, p2⟩ := r'.get e2
    have q1 := y1 vs (at1 t st ok)
    have q2 := y2 us (at2 t st ok)
    rw [w1] at q1
    rw [w2] at q2
    cases q1
    cases q2
    exact yld_pair ok hT (p1.same st.same) (p2.same st.same)

/-- what a walked value gives -/
def dItems : D → DKA → Mm → Prop
  | .lst ds, k, M => k ds M
  | .tup ds, k, M => k ds M
  | .str x, k, M => k (signs x) M
  | _, _, _ => False
def iSeq (τ : DE) : DI := fun ρ M k x => τ ρ M (fun u M1 => dItems u k M1) x
theorem i_seq (he : DP X E e τa) : DPI X E tg e (iSeq τa) := by
  refine ⟨fun pins s σ H R I h => ?_⟩
  obtain ⟨ρ, s0, k, x, rfl, er, q, px, p⟩ := h
  refine thn (he.run pins s σ s0.H (fun v H1 => ∃ d t, t.H = H1 ∧ Step s0 t ∧ Ok X.K t ∧ Rep X.K t.G v d ∧ dItems d k t.M) I ⟨ρ, s0, _, x, rfl, er, q, fun d t q1 st1 ok1 v1 r1 => ⟨d, t, rfl, st1, ok1, r1, q1⟩, px⟩) fun v s1 ⟨y, H1, I1, r1, d, t, eH, st, ok, rd, q1⟩ => ?_
  subst eH
  cases rd with
  | lst ha rs =>
    rename_i a vs ds
    cases r1
    have hq : SqL X.K t.H a vs := SqL.of (ok.sub _ _ ha)
    obtain ⟨its, rv, pl, hz⟩ := I1.list hq
    refine wpAny_pyIter_list pl.isList ?_
    refine ⟨s1.heap.objs.size, [s1.heap.objs.size], _, _, t.H, rfl, I1.kept (t' := s1.toks) fun b o e => Heap.get?_push_of_some _ e, turn_list a _, ⟨_, Heap.get?_push_size _ rfl, rfl, rfl⟩, fun b hb => ?_, p ds t q1 st ok _ (itD_list ha rs)⟩
    have e : b = s1.heap.objs.size := by simpa using hb
    subst e
    exact I1.fpOk (Nat.le_refl _) (I1.hok.fresh (Nat.le_refl _))
  | tup ha rs =>
    rename_i a vs ds
    cases r1
    have hq : SqT X.K t.H a vs := (Same.seqT ok.sub ha)
    obtain ⟨its, rv, pl, hz⟩ := I1.tuple hq
    refine wpAny_pyIter_tuple (show s1.heap.IsTuple a its.toArray from pl) ?_
    refine ⟨s1.heap.objs.size, [s1.heap.objs.size], _, _, t.H, rfl, I1.kept (t' := s1.toks) fun b o e => Heap.get?_push_of_some _ e, turn_tuple a _, ⟨_, Heap.get?_push_size _ rfl, rfl, rfl⟩, fun b hb => ?_, p ds t q1 st ok _ (itD_tup ha rs)⟩
    have e : b = s1.heap.objs.size := by simpa using hb
    subst e
    exact I1.fpOk (Nat.le_refl _) (I1.hok.fresh (Nat.le_refl _))
  | str =>
    rename_i z
    obtain ⟨tt, rfl⟩ := r1
    have q2 := p (signs z) t q1 st ok _ (itD_str z)
    cases ha : z.cps.all (· < 128)
    · exact wpAny_pyIter_wide ha (pi_one (tk := s1.toks) I1 _ (turn_str _ z tt "str_iterator" (.inr rfl)) ⟨_, Heap.get?_push_size _ rfl, rfl, rfl⟩ q2)
    · exact wpAny_pyIter_ascii ha (pi_one (tk := s1.toks) I1 _ (turn_str _ z tt "str_ascii_iterator" (.inl rfl)) ⟨_, Heap.get?_push_size _ rfl, rfl, rfl⟩ q2)
  | _ => exact q1.elim
def iRange1 (α : DA) : DI := fun ρ M k x => α ρ M (fun us M1 => ∃ j : Int, us = [.int j] ∧ -(2 ^ 62) ≤ j ∧ j < 2 ^ 62 ∧ k (upto 0 j.toNat) M1) x
theorem i_range1 {p : Pos} (hg : Gl X "range") (hm : X.mg "range" = none) (ha : DPA X E [a] αa) (hs : starEach [a] X.env = [(false, eval a X.env)] := by rfl) : DPI X E tg (.Call (.Name "range" p) [a] [] pos) (iRange1 αa) :=
  pi_mono (pi_range1 hg hm ha hs) fun σ H R h => by
    obtain ⟨ρ, s, k, x, rfl, er, q, px, p⟩ := h
    refine ⟨ρ, s, _, x, rfl, er, q, fun us s1 q1 st1 ok1 vs r1 => ?_, px⟩
    obtain ⟨j, rfl, h1, h2, q1⟩ := q1
    obtain ⟨v, rfl, rv⟩ := r1.one
    exact ⟨j, by rw [rv.int_of], h1, h2, p _ s1 q1 st1 ok1 _ (itD_range 0 j.toNat)⟩
def iRange2 (α : DA) : DI := fun ρ M k x => α ρ M (fun us M1 => ∃ i j : Int, us = [.int i, .int j] ∧ (-(2 ^ 62) ≤ i ∧ i < 2 ^ 62 ∧ -(2 ^ 62) ≤ j ∧ j < 2 ^ 62) ∧ k (upto i (j - i).toNat) M1) x
theorem i_range2 {p : Pos} (hg : Gl X "range") (hm : X.mg "range" = none) (ha : DPA X E [a, b] αa) (hs : starEach [a, b] X.env = [(false, eval a X.env), (false, eval b X.env)] := by rfl) (hs2 : starEach [b] X.env = [(false, eval b X.env)] := by rfl) : DPI X E tg (.Call (.Name "range" p) [a, b] [] pos) (iRange2 αa) :=
  pi_mono (pi_range2 hg hm ha hs hs2) fun σ H R h => by
    obtain ⟨ρ, s, k, x, rfl, er, q, px, p⟩ := h
    refine ⟨ρ, s, _, x, rfl, er, q, fun us s1 q1 st1 ok1 vs r1 => ?_, px⟩
    obtain ⟨i, j, rfl, h1, q1⟩ := q1
    obtain ⟨v, w, rfl, rv, rw'⟩ := r1.two
    exact ⟨i, j, by rw [rv.int_of, rw'.int_of], h1, p _ s1 q1 st1 ok1 _ (itD_range i (j - i).toNat)⟩
def dZip : List D → DKA → Mm → Prop
  | [.lst a, .lst b], k, M => k (zips a b) M
  | [.tup a, .tup b], k, M => k (zips a b) M
  | _, _, _ => False
def iZip (α : DA) : DI := fun ρ M k x => α ρ M (fun us M1 => dZip us k M1) x
theorem i_zip {p tpos : Pos} {elts : List Expr} {kk : Nat} (hg : Gl X "zip") (hm : X.mg "zip" = none) (ha : DPA X E [a, b] αa) (hs : starEach [a, b] X.env = (false, eval a X.env) :: starEach [b] X.env := by rfl) (hpl : (backTo pos (starEach [b] X.env)).any (·.1) = false := by rfl) :
    DPI X E (.Tuple elts kk tpos) (.Call (.Name "zip" p) [a, b] [] pos) (iZip αa) :=
  pi_mono (RZ.pi_zipA hg hm ha hs hpl) fun σ H R h => by
    obtain ⟨ρ, s, k, x, rfl, er, q, px, p⟩ := h
    refine ⟨ρ, s, _, x, rfl, er, q, fun us s1 q1 st1 ok1 vs r1 => ?_, px⟩
    change dZip us k s1.M at q1
    unfold dZip at q1
    split at q1
    · obtain ⟨v, w, rfl, rv, rw'⟩ := r1.two
      obtain ⟨c, vs, rfl, hc, rs⟩ := rv.lst_of
      obtain ⟨d, ws, rfl, hd, rt⟩ := rw'.lst_of
      exact ⟨c, d, vs, ws, rfl, .inl ⟨SqL.of (ok1.sub _ _ hc), SqL.of (ok1.sub _ _ hd), p _ s1 q1 st1 ok1 _ (itD_zipL hc hd rs rt)⟩⟩
    · obtain ⟨v, w, rfl, rv, rw'⟩ := r1.two
      obtain ⟨c, vs, rfl, hc, rs⟩ := rv.tup_of
      obtain ⟨d, ws, rfl, hd, rt⟩ := rw'.tup_of
      exact ⟨c, d, vs, ws, rfl, .inr ⟨(Same.seqT ok1.sub hc), (Same.seqT ok1.sub hd), p _ s1 q1 st1 ok1 _ (itD_zipT hc hd rs rt)⟩⟩
    · exact q1.elim

/-! ### targets -/
abbrev DG := D → DEnv → Mm → (DEnv → Mm → Prop) → Prop
abbrev DGs := List D → DEnv → Mm → (DEnv → Mm → Prop) → Prop
def upG (K : PySem.W.Frag) (g : DG) : TG := fun v σ H Q => ∃ d ρ s k, s.H = H ∧ ER K s σ ρ ∧ Rep K s.G v d ∧ g d ρ s.M k ∧ PostN K s k Q
def upGs (K : PySem.W.Frag) (g : DGs) : TGs := fun vs σ H Q => ∃ ds ρ s k, s.H = H ∧ ER K s σ ρ ∧ Reps K s.G vs ds ∧ g ds ρ s.M k ∧ PostN K s k Q
def DPG (X : Cx) (tg : Expr) (g : DG) : Prop := PG X tg (upG X.K g)
def DPGs (X : Cx) (ts : List Expr) (g : DGs) : Prop := PGs X ts (upGs X.K g)
def gN (i : Nat) : DG := fun d ρ M k => k (ρ.set i (some d)) M
theorem pg_mono {t t' : TG} (h : PG X e t) (m : ∀ v σ H Q, t' v σ H Q → t v σ H Q) : PG X e t' := ⟨fun pins s σ H v u Q I r q => h.run pins s σ H v u Q I r (m v σ H Q q)⟩
theorem pgs_mono {es : List Expr} {t t' : TGs} (h : PGs X es t) (m : ∀ v σ H Q, t' v σ H Q → t v σ H Q) : PGs X es t' := ⟨fun pins s σ H v u Q I r q => h.run pins s σ H v u Q I r (m v σ H Q q)⟩
theorem g_name {i : Nat} {x : Str} (hN : X.N.Nodup) (hi : X.N[i]? = some x) (hx : Loc X.env.scope x) (hf : X.fn x = true ∨ X.env.scope.names.lookup x = some .local := by first | exact .inl rfl | exact .inr rfl | assumption) : DPG X (.Name x pos) (gN i) :=
  pg_mono (pg_name hN hi hx hf) fun v σ H Q h => by
    obtain ⟨d, ρ, s, k, rfl, er, r, q, p⟩ := h
    exact p _ s q (Step.refl s) _ (er.set i r)
def gsNil : DGs := fun ds ρ M k => ds = [] ∧ k ρ M
def gsCons (g : DG) (h : DGs) : DGs := fun ds ρ M k => ∃ d r, ds = d :: r ∧ g d ρ M fun ρ1 M1 => h r ρ1 M1 k
theorem gs_nil : DPGs X [] gsNil := pgs_mono pgs_nil fun vs σ H Q h => by
  obtain ⟨ds, ρ, s, k, rfl, er, r, ⟨rfl, q⟩, p⟩ := h
  cases r
  exact ⟨rfl, p _ s q (Step.refl s) _ er⟩
theorem gs_cons {es : List Expr} {g : DG} {h : DGs} (h1 : DPG X e g) (h2 : DPGs X es h) (hs : (assignEach (e :: es) X.env).map (·.2) = assign e X.env :: (assignEach es X.env).map (·.2) := by rfl) : DPGs X (e :: es) (gsCons g h) :=
  pgs_mono (pgs_cons h1 h2 hs) fun vs σ H Q hh => by
    obtain ⟨ds, ρ, s, k, rfl, er, r, ⟨d, dr, rfl, q⟩, p⟩ := hh
    cases r with
    | cons rv rs =>
      refine ⟨_, _, rfl, d, ρ, s, _, rfl, er, rv, q, fun ρ1 s1 q1 st1 σ1 er1 => ?_⟩
      exact ⟨dr, ρ1, s1, k, rfl, er1, rs.same st1.same, q1, p.step st1⟩
/-- (a, b, ..) = a tuple of that length -/
def gTupD (n : Nat) (g : DGs) : DG := fun d ρ M k => ∃ ds, d = .tup ds ∧ ds.length = n ∧ g ds ρ M k
theorem g_tup {es : List Expr} {k : Nat} {g : DGs} {n : Nat} (hc : X.calm = true) (h : DPGs X es g) (hn : (assignEach es X.env).length = n := by rfl) (hst : (assignEach es X.env).findIdx? (·.1) = none := by rfl) : DPG X (.Tuple es k pos) (gTupD n g) :=
  pg_mono (pg_tup hc h hn hst) fun v σ H Q hh => by
    obtain ⟨d, ρ, s, k, rfl, er, r, ⟨ds, rfl, hl, q⟩, p⟩ := hh
    obtain ⟨a, vs, rfl, ha, rs⟩ := r.tup_of
    exact ⟨a, vs, rfl, (Same.seqT er.ok.sub ha), by rw [rs.length]; exact hl, ds, ρ, s, k, rfl, er, rs, q, p⟩
/-- target = value -/
def dAsg (g : DG) (τ : DE) : DS := fun k x ρ M => τ ρ M (fun u M1 => g u ρ M1 k.nx) x
theorem s_asg {tg : Expr} {g : DG} (he : DP X E e τa) (hg : DPG X tg g) (hs : swapsWithSole [tg] e pos.line X.env = pure false := by rfl) (hw : swappedStores [tg] e X.env = pure none := by rfl)
    (h1 : (assignEach [tg] X.env).map (·.2) = [assign tg X.env] := by rfl) : DPS X E (.Assign [tg] e pos) (dAsg g τa) := ps_mono (ps_asg he hg hs hw h1) fun D σ H h => by
  obtain ⟨ρ, s, k, x, rfl, er, q, p, px⟩ := h
  exact ⟨ρ, s, _, x, rfl, er, q, fun u s1 q1 st1 ok1 v1 r1 => ⟨u, ρ, s1, k.nx, rfl, er.step st1 ok1, r1, q1, p.nx.step st1⟩, px⟩

/-! ### for -/
/-- the turns over ds; I: what holds ahead of each turn -/
inductive ForK (g : DG) (β : DS) (k : DEnds) (x : DX) (ρ0 : DEnv) (ds : List D) (M0 : Mm) : Prop where
  | of (I : Nat → DEnv → Mm → Prop) (i0 : I 0 ρ0 M0) (turn : ∀ (j : Nat) (d : D) (ρ : DEnv) (M : Mm), ds[j]? = some d → I j ρ M → g d ρ M fun ρ1 M2 => β { k with nx := I (j + 1), bk := k.nx, ct := I (j + 1) } x ρ1 M2)
      (fin : ∀ ρ M, I ds.length ρ M → k.nx ρ M)
  | no (h : False)
def dFor (ι : DI) (g : DG) (β : DS) : DS := fun k x ρ M => ι ρ M (fun ds M1 => ForK g β k x ρ ds M1) x
theorem s_for {body : List Stmt} {ι : DI} {g : DG} {β : DS} (hp : PassesOwn (model X.prog X.w) X.A X.env X.xe) (hc : X.calm = true) (hi : DPI X E tg iter ι) (hg : DPG X tg g) (hb : DPB X E body β)
    (hs : ∀ x, foldedSetIterable iter X.env x = pure x := by intro _; rfl) : DPS X E (.For tg iter body [] pos) (dFor ι g β) := ps_mono (ps_for hp hc hi hg hb hs) fun D σ H h => by
  obtain ⟨ρ, s, k, x, rfl, er, q, p, px⟩ := h
  refine ⟨ρ, s, _, x, rfl, er, q, px, fun ds s1 q1 st1 ok1 J it => ?_⟩
  rcases q1 with ⟨I, i0, turn, fin⟩ | z
  case no => exact z.elim
  refine ⟨fun j m σ' H' => m = ds.length - j ∧ j ≤ ds.length ∧ ∃ ρ' s', s'.H = H' ∧ ER X.K s' σ' ρ' ∧ Step s1 s' ∧ I j ρ' s'.M, ⟨_, rfl, Nat.zero_le _, ρ, s1, rfl, er.step st1 ok1, Step.refl s1, i0⟩, ?_⟩
  rintro j m σ' H' ⟨rfl, hj, ρ', s', rfl, er', st', ij⟩
  by_cases hlt : j < ds.length
  · refine .inr ⟨it.go j s' st' er'.ok hlt, fun σ2 H2 => ∃ ρ2 s2, s2.H = H2 ∧ ER X.K s2 σ2 ρ2 ∧ Step s1 s2 ∧ I (j + 1) ρ2 s2.M, ?_, ?_⟩
    · rintro σ2 H2 ⟨ρ2, s2, e2, er2, st2, i2⟩
      exact ⟨ds.length - (j + 1), by omega, rfl, hlt, ρ2, s2, e2, er2, st2, i2⟩
    · intro v H2 y
      obtain ⟨d, hd⟩ : ∃ d, ds[j]? = some d := ⟨ds[j], by simp [hlt]⟩
      obtain ⟨u, rfl, eM, stu, oku, ru⟩ := it.yld j s' v H2 st' er'.ok y d hd
      have ij' : I j ρ' u.M := by rw [eM]; exact ij
      refine ⟨d, ρ', u, _, rfl, er'.step stu oku, ru, turn j d ρ' u.M hd ij', fun ρ3 s3 q3 st3 σ3 er3 => ?_⟩
      have sb : Step s1 s3 := (st'.trans stu).trans st3
      refine ⟨ρ3, s3, _, x, rfl, er3, q3, ⟨fun ρ4 s4 q4 st4 σ4 er4 => ⟨ρ4, s4, rfl, er4, sb.trans st4, q4⟩, ?_, fun ρ4 s4 q4 st4 σ4 er4 => p.nx ρ4 s4 q4 ((st1.trans sb).trans st4) σ4 er4, fun ρ4 s4 q4 st4 σ4 er4 => ⟨ρ4, s4, rfl, er4, sb.trans st4, q4⟩⟩, px.step (st1.trans sb)⟩
      obtain ⟨b, b1, b2, b3, b4⟩ := p.rt
      exact ⟨b, b1.trans (st1.trans sb), b2, b3, b4⟩
  · have ej : j = ds.length := by omega
    subst ej
    exact .inl ⟨it.stop s' st' er'.ok, p.nx ρ' s' (fin ρ' s'.M ij) (st1.trans st') σ' er'⟩

/-! ### while -/
inductive WhK (c : DT) (β : DS) (k : DEnds) (x : DX) (ρ0 : DEnv) (M0 : Mm) : Prop where
  | of (W : Nat → DEnv → Mm → Prop) (w0 : ∃ m, W m ρ0 M0) (turn : ∀ m ρ M, W m ρ M →
      c ρ M (fun b M1 => if b = true then β { k with nx := fun ρ M => ∃ m', m' < m ∧ W m' ρ M, bk := k.nx, ct := fun ρ M => ∃ m', m' < m ∧ W m' ρ M } x ρ M1 else k.nx ρ M1) x)
  | no (h : False)
def dWhile (c : DT) (β : DS) : DS := fun k x ρ M => WhK c β k x ρ M
theorem s_while {body : List Stmt} {θ : DT} {β : DS} (hp : PassesOwn (model X.prog X.w) X.A X.env X.xe) (hc : DPT X E c θ) (hb : DPB X E body β) : DPS X E (.While c body [] pos) (dWhile θ β) := ps_mono (ps_while hp hc hb) fun D σ H h => by
  obtain ⟨ρ, s, k, x, rfl, er, q, p, px⟩ := h
  rcases q with ⟨W, ⟨m0, w0⟩, turn⟩ | z
  case no => exact z.elim
  refine ⟨fun m σ' H' => ∃ ρ' s', s'.H = H' ∧ ER X.K s' σ' ρ' ∧ Step s s' ∧ W m ρ' s'.M, ⟨m0, ρ, s, rfl, er, Step.refl s, w0⟩, ?_⟩
  rintro m σ' H' ⟨ρ', s', rfl, er', st', w'⟩
  refine ⟨ρ', s', _, x, rfl, er', turn m ρ' s'.M w', fun b s1 q1 st1 ok1 => ?_, px.step st'⟩
  cases b with
  | true =>
    rw [if_pos rfl] at q1 ⊢
    have sb : Step s s1 := st'.trans st1
    refine ⟨fun σ2 H2 => ∃ m', m' < m ∧ ∃ ρ2 s2, s2.H = H2 ∧ ER X.K s2 σ2 ρ2 ∧ Step s s2 ∧ W m' ρ2 s2.M, fun σ2 H2 z => z, ?_⟩
    refine ⟨ρ', s1, _, x, rfl, er'.step st1 ok1, q1, ⟨fun ρ4 s4 ⟨m', hm, q4⟩ st4 σ4 er4 => ⟨m', hm, ρ4, s4, rfl, er4, sb.trans st4, q4⟩, ?_, fun ρ4 s4 q4 st4 σ4 er4 => p.nx ρ4 s4 q4 (sb.trans st4) σ4 er4, fun ρ4 s4 ⟨m', hm, q4⟩ st4 σ4 er4 => ⟨m', hm, ρ4, s4, rfl, er4, sb.trans st4, q4⟩⟩, px.step sb⟩
    obtain ⟨b, b1, b2, b3, b4⟩ := p.rt
    exact ⟨b, b1.trans sb, b2, b3, b4⟩
  | false =>
    rw [if_neg Bool.false_ne_true] at q1 ⊢
    exact p.nx ρ' s1 q1 (st'.trans st1) σ' (er'.step st1 ok1)

/-! ### list comprehensions -/
def wipeD (ρ : DEnv) : List Nat → DEnv
  | [] => ρ
  | v :: vs => (wipeD ρ vs).set v none
theorem ER.wipe {K : PySem.W.Frag} {s : Sta} {σ : L2.St} {ρ : DEnv} (er : ER K s σ ρ) : ∀ vs : List Nat, ER K s (wipe σ vs) (wipeD ρ vs)
  | [] => er
  | v :: vs => (er.wipe vs).unset v
/-- the turns of a comprehension; I: what holds ahead of each turn of the list made so far -/
inductive LcK (g : DG) (θ : DT) (ε : DE) (vs : List Nat) (ρ : DEnv) (ds : List D) (M0 : Mm) (k : DK) : Prop where
  | of (hl : ds.length < sizeLine) (I : Nat → List D → Mm → Prop) (i0 : I 0 [] M0)
      (turn : ∀ (j : Nat) (d : D) (acc : List D) (M : Mm), ds[j]? = some d → I j acc M → g d (wipeD ρ vs) M fun ρ1 M2 => θ ρ1 M2 (fun b M3 => if b = true then ε ρ1 M3 (fun y M4 => I (j + 1) (acc ++ [y]) M4) (fun _ _ _ => False) else I (j + 1) acc M3) (fun _ _ _ => False))
      (fin : ∀ acc M, I ds.length acc M → k (.lst acc) M)
  | no (h : False)
def dLc (ι : DI) (g : DG) (θ : DT) (ε : DE) (vs : List Nat) : DE := fun ρ M k x => ι ρ M (fun ds M1 => LcK g θ ε vs ρ ds M1 k) x
def DPTs (X : Cx) (E : XK) (ifs : List Expr) (θ : DT) : Prop := PTs X ifs (upT X.K E θ)
def dYes : DT := fun _ M k _ => k true M
theorem ts_nil : DPTs X E [] dYes := ⟨fun pins s σ H Q I h => by
  obtain ⟨ρ, s0, k, x, rfl, er, q, p, px⟩ := h
  exact pts_nil.run pins s σ s0.H Q I (p true s0 q (Step.refl s0) er.ok)⟩
theorem ts_one {θ : DT} (h : DPT X E c θ) : DPTs X E [c] θ := pts_one h
/-- a target, over values and over data; the slots of vs alone are set -/
structure GPair (K : PySem.W.Frag) (g : TG) (γ : DG) (vs : List Nat) : Prop where
  run : ∀ (v : V) (d : D) (σ : L2.St) (ρ : DEnv) (s : Sta) (k : DEnv → Mm → Prop) (Q : L2.St → Hp → Prop), ER K s σ ρ → Rep K s.G v d → γ d ρ s.M k →
    (∀ ρ' σ', k ρ' s.M → ER K s σ' ρ' → wipe σ' vs = wipe σ vs → Q σ' s.H) → g v σ s.H Q
structure GsPair (K : PySem.W.Frag) (g : TGs) (γ : DGs) (vs : List Nat) : Prop where
  run : ∀ (v : List V) (d : List D) (σ : L2.St) (ρ : DEnv) (s : Sta) (k : DEnv → Mm → Prop) (Q : L2.St → Hp → Prop), ER K s σ ρ → Reps K s.G v d → γ d ρ s.M k →
    (∀ ρ' σ', k ρ' s.M → ER K s σ' ρ' → wipe σ' vs = wipe σ vs → Q σ' s.H) → g v σ s.H Q
theorem wipe_set (σ : L2.St) (i : Nat) (v : Option V) : ∀ vs : List Nat, i ∈ vs → wipe (σ.set i v) vs = wipe σ vs
  | [], h => by cases h
  | j :: vs, h => by
    unfold wipe
    by_cases e : i ∈ vs
    · rw [wipe_set σ i v vs e]
    · have hj : i = j := by
        rcases List.mem_cons.mp h with z | z
        · exact z
        · exact absurd z e
      subst hj
      have key : ∀ us : List Nat, i ∉ us → wipe (σ.set i v) us = (wipe σ us).set i v := by
        intro us
        induction us with
        | nil => intro _; rfl
        | cons u us ih =>
          intro hn
          unfold wipe
          rw [ih (fun z => hn (List.mem_cons_of_mem _ z))]
          exact List.set_comm _ _ (fun z => hn (by rw [z]; exact List.mem_cons_self))
      rw [key vs e, List.set_set]
theorem wipe_wipe (σ : L2.St) : ∀ vs : List Nat, wipe (wipe σ vs) vs = wipe σ vs := by
  have h : ∀ (us vs : List Nat), (∀ u ∈ us, u ∈ vs) → wipe (wipe σ us) vs = wipe σ vs := by
    intro us
    induction us with
    | nil => intro vs _; rfl
    | cons u us ih =>
      intro vs hs
      show wipe ((wipe σ us).set u none) vs = wipe σ vs
      rw [wipe_set _ _ _ _ (hs u List.mem_cons_self)]
      exact ih vs fun z hz => hs z (List.mem_cons_of_mem _ hz)
  exact fun vs => h vs vs fun _ z => z
theorem gp_name {K : PySem.W.Frag} {i : Nat} {vs : List Nat} (h : i ∈ vs) : GPair K (gName i) (gN i) vs :=
  ⟨fun v d σ ρ s k Q er r q f => f _ _ q (er.set i r) (wipe_set σ i _ vs h)⟩
theorem gps_nil {K : PySem.W.Frag} {vs : List Nat} : GsPair K gNil gsNil vs :=
  ⟨fun v d σ ρ s k Q er r q f => by
    obtain ⟨rfl, q⟩ := q
    cases r
    exact ⟨rfl, f _ _ q er rfl⟩⟩
theorem gps_cons {K : PySem.W.Frag} {vs : List Nat} {g : TG} {γ : DG} {gs : TGs} {γs : DGs} (h : GPair K g γ vs) (hs : GsPair K gs γs vs) : GsPair K (gCons g gs) (gsCons γ γs) vs :=
  ⟨fun v d σ ρ s k Q er r q f => by
    obtain ⟨d1, dr, rfl, q⟩ := q
    cases r with
    | cons rv rs =>
      exact ⟨_, _, rfl, h.run _ d1 σ ρ s _ _ er rv q fun ρ' σ' q' er' w' => hs.run _ dr σ' ρ' s k Q er' rs q' fun ρ2 σ2 q2 er2 w2 => f ρ2 σ2 q2 er2 (w2.trans w')⟩⟩
theorem gp_tup {K : PySem.W.Frag} {vs : List Nat} {n : Nat} {gs : TGs} {γs : DGs} (hs : GsPair K gs γs vs) : GPair K (gTup K n gs) (gTupD n γs) vs :=
  ⟨fun v d σ ρ s k Q er r q f => by
    obtain ⟨ds, rfl, hl, q⟩ := q
    obtain ⟨a, us, rfl, ha, rs⟩ := r.tup_of
    exact ⟨a, us, rfl, (Same.seqT er.ok.sub ha), by rw [rs.length]; exact hl, hs.run _ ds σ ρ s k Q er rs q f⟩⟩

theorem up_lc {K : PySem.W.Frag} {ι : DI} {g : TG} {γ : DG} {θ : DT} {ε : DE} {vs : List Nat} {σ : L2.St} {H : Hp} {Q : VK} (gp : GPair K g γ vs) (h : up K E (dLc ι γ θ ε vs) σ H Q) : tLc (upI K E ι) g (upT K E0 θ) (up K E0 ε) vs σ H Q := by
  obtain ⟨ρ, s, k, x, rfl, er, q, p, px⟩ := h
  refine ⟨ρ, s, _, x, rfl, er, q, px, fun ds s1 q1 st1 ok1 J it => ?_⟩
  rcases q1 with ⟨hlen, I, i0, turn, fin⟩ | z
  case no => exact z.elim
  intro L hL
  -- the list at L is hidden while it grows
  have inv0 : ∃ (acc : List D) (vs' : List V) (s' : Sta), s'.H = upd s1.H L (.lst []) ∧ Ok K s' ∧ Step s1 s' ∧ s'.G L = none ∧ s'.M L = none ∧ s'.H L = some (.lst vs') ∧ Reps K s'.G vs' acc ∧ acc.length ≤ 0 ∧ I 0 acc s'.M := by
    obtain ⟨k1, st⟩ := ok1.hide (o := .lst []) (Step.refl s1) hL (ok1.freeG hL) (ok1.freeM hL)
    exact ⟨[], [], ⟨_, _, _⟩, rfl, k1, st, ok1.freeG hL, ok1.freeM hL, upd_same, .nil, Nat.le_refl _, i0⟩
  refine ⟨fun j m H' => m = ds.length - j ∧ j ≤ ds.length ∧ ∃ (acc : List D) (vs' : List V) (s' : Sta), s'.H = H' ∧ Ok K s' ∧ Step s1 s' ∧ s'.G L = none ∧ s'.M L = none ∧ s'.H L = some (.lst vs') ∧ Reps K s'.G vs' acc ∧ acc.length ≤ j ∧ I j acc s'.M,
    ⟨ds.length, rfl, Nat.zero_le _, inv0⟩, ?_⟩
  rintro j m H' ⟨rfl, hj, acc, vs', s', rfl, ok', st', gL, mL, hL', rs, hal, ij⟩
  by_cases hlt : j < ds.length
  · refine .inr ⟨it.go j s' st' ok' hlt, fun H2 => ∃ (acc : List D) (vs' : List V) (s' : Sta), s'.H = H2 ∧ Ok K s' ∧ Step s1 s' ∧ s'.G L = none ∧ s'.M L = none ∧ s'.H L = some (.lst vs') ∧ Reps K s'.G vs' acc ∧ acc.length ≤ j + 1 ∧ I (j + 1) acc s'.M,
      fun H2 z => ⟨ds.length - (j + 1), by omega, rfl, hlt, z⟩, fun v H2 y => ?_⟩
    obtain ⟨d, hd⟩ : ∃ d, ds[j]? = some d := ⟨ds[j], by simp [hlt]⟩
    obtain ⟨u, rfl, eM, stu, oku, ru⟩ := it.yld j s' v H2 st' ok' y d hd
    have ij' : I j acc u.M := by rw [eM]; exact ij
    obtain ⟨hLu, gLu, mLu⟩ := stu.hid L _ hL' gL mL
    have eru : ER K u (wipe σ vs) (wipeD ρ vs) := (er.step ((st1.trans st').trans stu) oku).wipe vs
    refine gp.run v d _ _ u _ _ eru ru (turn j d acc u.M hd ij') fun ρ3 σ3 q3 er3 w3 => ⟨w3.trans (wipe_wipe σ vs), ?_⟩
    refine ⟨ρ3, u, _, _, rfl, er3, q3, fun b s4 q4 st4 ok4 => ?_, PostX.never⟩
    obtain ⟨hL4, gL4, mL4⟩ := st4.hid L _ hLu gLu mLu
    cases b with
    | true =>
      rw [if_pos rfl] at q4 ⊢
      refine ⟨ρ3, s4, _, _, rfl, er3.step st4 ok4, q4, fun yd s5 q5 st5 ok5 yv ry => ?_, PostX.never⟩
      obtain ⟨hL5, gL5, mL5⟩ := st5.hid L _ hL4 gL4 mL4
      have rs5 : Reps K s5.G vs' acc := rs.same ((stu.trans st4).trans st5).same
      refine ⟨vs', hL5, by rw [rs5.length]; omega, ?_⟩
      obtain ⟨k6, st6⟩ := ok5.hide (o := .lst (vs' ++ [yv])) (((st'.trans stu).trans st4).trans st5) hL gL5 mL5
      exact ⟨acc ++ [yd], vs' ++ [yv], ⟨_, _, _⟩, rfl, k6, st6, gL5, mL5, upd_same, rs5.append (.cons ry .nil), by simp; omega, q5⟩
    | false =>
      rw [if_neg Bool.false_ne_true] at q4 ⊢
      exact ⟨acc, vs', s4, rfl, ok4, (st'.trans stu).trans st4, gL4, mL4, hL4, rs.same (stu.trans st4).same, by omega, q4⟩
  · have ej : j = ds.length := by omega
    subst ej
    refine .inl ⟨it.stop s' st' ok', ?_⟩
    obtain ⟨k6, st6, sm⟩ := ok'.shown st' hL gL mL hL'
    exact p _ ⟨s'.H, upd s'.G L (.lst vs'), s'.M⟩ (fin acc s'.M ij) (st1.trans st6) k6 _ (.lst upd_same (rs.same sm))
variable {elt : Expr} {ifs : List Expr} {scope : Scope} {own : List (Str × Nat)} {ι : DI} {g : TG} {γ : DG} {θ : DT} {ε : DE}
theorem d_lc (hc : X.calm = true) (hN : X.N.Nodup) (hi : DPI X E tg iter ι) (ok : BlkOk X.N X.env.scope scope own) (gp : GPair X.K g γ (own.map (·.2)))
    (hg : ∀ (s : Shared) (H : Hp) (C : Addr) (cl : List (Str × Addr)) (fp : List Addr), PG (X.blk s H scope (compEnvC scope cl C X.env) fp) tg g) (ht : ∀ (s : Shared) (H : Hp) (C : Addr) (cl : List (Str × Addr)) (fp : List Addr), DPTs (X.blk s H scope (compEnvC scope cl C X.env) fp) E0 ifs θ)
    (he : ∀ (s : Shared) (H : Hp) (C : Addr) (cl : List (Str × Addr)) (fp : List Addr), DP (X.blk s H scope (compEnvC scope cl C X.env) fp) E0 elt ε) (hs : ∀ x, foldedSetIterable iter X.env x = pure x := by intro _; rfl) :
    DP X E (.ListComp elt [⟨tg, iter, ifs, 0⟩] scope pos) (dLc ι γ θ ε (own.map (·.2))) := pe_mono (pe_lc (tt := upT X.K E0 θ) (te := up X.K E0 ε) hc hN hi ok hg ht he hs) fun _ _ _ h => up_lc gp h
theorem s_setLc {i : Nat} {y : Str} {py spos : Pos} (hc : X.calm = true) (hN : X.N.Nodup) (hy : X.N[i]? = some y) (hyl : X.env.scope.names.lookup y = some .local)
    (hsw : swapsWith (.ListComp elt [⟨tg, iter, ifs, 0⟩] scope pos) (some (.Name y py)) spos.line X.env = pure true) (hi : DPI X E tg iter ι) (ok : BlkOk X.N X.env.scope scope own) (gp : GPair X.K g γ (own.map (·.2)))
    (hg : ∀ (s : Shared) (H : Hp) (C : Addr) (cl : List (Str × Addr)) (fp : List Addr), PG (X.blk s H scope (compEnvC scope cl C X.env) fp) tg g) (ht : ∀ (s : Shared) (H : Hp) (C : Addr) (cl : List (Str × Addr)) (fp : List Addr), DPTs (X.blk s H scope (compEnvC scope cl C X.env) fp) E0 ifs θ)
    (he : ∀ (s : Shared) (H : Hp) (C : Addr) (cl : List (Str × Addr)) (fp : List Addr), DP (X.blk s H scope (compEnvC scope cl C X.env) fp) E0 elt ε) (hs : ∀ x, foldedSetIterable iter X.env x = pure x := by intro _; rfl) :
    DPS X E (.Assign [.Name y py] (.ListComp elt [⟨tg, iter, ifs, 0⟩] scope pos) spos) (dSet i (dLc ι γ θ ε (own.map (·.2)))) := ps_mono (ps_setLc (tt := upT X.K E0 θ) (te := up X.K E0 ε) hc hN hy hyl hsw hi ok hg ht he hs) fun D σ H h => by
  obtain ⟨ρ, s, k, x, rfl, er, q, p, px⟩ := h
  refine up_lc gp ⟨ρ, s, _, x, rfl, er, q, fun u s1 q1 st1 ok1 v1 r1 => p.nx _ s1 q1 st1 _ ((er.step st1 ok1).set i r1), px⟩
end
end DL
set_option Elab.async false
set_option linter.all false
set_option maxRecDepth 100000
set_option maxHeartbeats 2000000
namespace DL
open PySem PySem.Spec PyProof.Rows L2

/-! ### promises over data -/
abbrev Ct := List D → Mm → DK → DX → Prop
def spD (K : PySem.W.Frag) (n : Nat) (φ : Ct) : Sp := fun vs H Q E => ∃ s ds k x, s.H = H ∧ Ok K s ∧ Reps K s.G vs ds ∧ ds.length = n ∧ φ ds s.M k x ∧ Post K s k Q ∧ PostX K E s x
theorem spD_len {K : PySem.W.Frag} {n : Nat} {φ : Ct} {vs : List V} {H : Hp} {Q : VK} {E : XK} (h : spD K n φ vs H Q E) : vs.length = n := by
  obtain ⟨s, ds, k, x, _, _, r, hl, _⟩ := h
  rw [r.length]
  exact hl
theorem spD_imp {K : PySem.W.Frag} {n : Nat} {φ ψ : Ct} (h : ∀ ds M k x, φ ds M k x → ψ ds M k x) {vs : List V} {H : Hp} {Q : VK} {E : XK} (q : spD K n φ vs H Q E) : spD K n ψ vs H Q E := by
  obtain ⟨s, ds, k, x, e, o, r, hl, f, p, px⟩ := q
  exact ⟨s, ds, k, x, e, o, r, hl, h _ _ _ _ f, p, px⟩
def startD (N : List Str) (ds : List D) : DEnv := ds.map some ++ List.replicate (N.length - ds.length) none
theorem er_start {K : PySem.W.Frag} {s : Sta} {N : List Str} {vs : List V} {ds : List D} (o : Ok K s) (r : Reps K s.G vs ds) : ER K s (L2.start N vs) (startD N ds) := by
  have hl := r.length
  refine ⟨o, by simp [L2.start, startD, hl], fun i d h => ?_⟩
  unfold startD at h
  by_cases hi : i < ds.length
  · rw [List.getElem?_append_left (by simpa using hi), List.getElem?_map] at h
    cases e : ds[i]? with
    | none => rw [e] at h; cases h
    | some d' =>
      rw [e] at h
      have h' : d' = d := by simpa using h
      subst h'
      obtain ⟨v, hv, rv⟩ := r.get e
      refine ⟨v, ?_, rv⟩
      unfold L2.start
      rw [List.getElem?_append_left (by simpa [hl] using hi), List.getElem?_map, hv]
      rfl
  · rw [List.getElem?_append_right (by simpa using hi)] at h
    rw [List.getElem?_replicate] at h
    split at h <;> cases h
/-- what a def lets out is what its context takes -/
theorem pass_own {X : Cx} {E : XK} {E₁ : Value → Shared → Prop} (hs : X.stack = X.env :: X.outer) (hf : X.env.frame = some X.env.locals) (hex : X.ex = [])
    (hx : X.xe = fun e s' => wpAny (model X.prog X.w) X.A (leaving X.env e) (fun _ s'' => L2.CX X.prog X.w X.outer X.H_0 X.s_0 E e s'') E₁ s') : Passes (L2.CX X.prog X.w) X E :=
  passes_call (takes_of hs hf hex hx) fun _ _ _ _ h => h
section
variable {P : Program} {w : World} {K : PySem.W.Frag} {mg : Str → Option Value} {base : Heap}
/-- THE RULE for a def -/
theorem fn_D {x qual : Str} {params : Arguments} {body : List Stmt} {scope : Scope} {dvs : List V} {kws : List (Str × V)} {f : Addr} {fd : FuncData} {N ps : List Str} {k n : Nat} {φ : Ct} (F : FunD K x qual params body scope dvs kws f fd) (S : FnScope N ps scope) (hn : n = ps.length)
    (h : ∀ (cdv : Value) (A : Around) (outer : List Env) (s : Shared) (H : Hp) (E : XK), Room k (A.deeper (envOfC qual scope s.heap.objs.size f cdv)) →
      Passes (L2.CX P w) (cxOf (L2.CX P w) P w K mg base N qual scope f cdv A outer s H E) E → PassesOwn (model P w) (cxOf (L2.CX P w) P w K mg base N qual scope f cdv A outer s H E).A (cxOf (L2.CX P w) P w K mg base N qual scope f cdv A outer s H E).env (cxOf (L2.CX P w) P w K mg base N qual scope f cdv A outer s H E).xe →
      ∃ τ, DPB (cxOf (L2.CX P w) P w K mg base N qual scope f cdv A outer s H E) E body τ ∧
        ∀ (ds : List D) (M : Mm) (kk : DK) (x : DX), ds.length = n → φ ds M kk x → τ { nx := fun _ M => kk .non M, rt := kk, m0 := M } x (startD N ds) M) : FnOk P w K mg base (L2.CX P w) (k + 1) f fd ps (spD K n φ) := by
  refine F.ok (CX := L2.CX P w) S (fun vs H Q E q => by rw [spD_len q, hn]) fun cdv A outer s H vs Q E hr q => ?_
  obtain ⟨τ, ht, hq⟩ := h cdv A outer s H E hr (pass_own rfl rfl rfl rfl) (passes_of rfl)
  refine ⟨_, ht, ?_⟩
  obtain ⟨s0, ds, kk, xx, rfl, o, r, hl, f, p, px⟩ := q
  exact ⟨_, s0, _, xx, rfl, er_start o r, hq ds s0.M kk xx hl f, ⟨fun ρ t q st σ er => p _ t q st er.ok _ .non, ⟨s0, Step.refl s0, o, rfl, p⟩, fun _ _ z => z.elim, fun _ _ z => z.elim⟩, px⟩
end

/-! ### calls -/
section
variable {X : Cx} {CX : CXT} {E : XK} {k n : Nat} {f C : Addr} {fd : FuncData} {ps ks : List Str} {φ : Ct} {x m : Str} {p pos apos : Pos} {e o : Expr} {es : List Expr} {kws : List Keyword} {αa ακ : DA} {τo τv : DE} {g : List Value → List Value → List Value} {gV : List V → List V → List V} {gD : List D → List D → List D}
/-- how arguments bind, over data: n positional values, keywords named ks -/
structure KBd (K : PySem.W.Frag) (fd : FuncData) (ps : List Str) (n : Nat) (ks : List Str) (gD : List D → List D → List D) : Prop where
  ex : ∃ (g : List Value → List Value → List Value) (gV : List V → List V → List V), KBn K fd ps n ks g gV ∧ ∀ {G : Hp} {vs : List V} {us : List D} {zs : List V} {ws : List D}, Reps K G vs us → Reps K G zs ws → us.length = n → ws.length = ks.length → Reps K G (gV vs zs) (gD us ws)
def DPK (X : Cx) (E : XK) (kws : List Keyword) (τ : DA) : Prop := PK X kws (upA X.K E τ)
theorem pk_mono {t t' : TA} (h : PK X kws t) (m : ∀ σ H Q, t' σ H Q → t σ H Q) : PK X kws t' := ⟨fun p pins s σ H Q I q => h.run p pins s σ H Q I (m σ H Q q)⟩
theorem k_nil : DPK X E [] dNil := pk_mono pk_nil fun σ H Q h => by
  obtain ⟨ρ, s, k, x, rfl, er, q, p, px⟩ := h
  exact p [] s q (Step.refl s) er.ok [] .nil
theorem k_cons {nm : Option Str} {kpos : Pos} (ha : DP X E e τo) (hr : DPK X E kws αa) : DPK X E (⟨nm, e, kpos⟩ :: kws) (dCons τo αa) := pk_mono (pk_cons ha hr) fun σ H Q h => by
  obtain ⟨ρ, s, k, x, rfl, er, q, p, px⟩ := h
  refine ⟨ρ, s, _, x, rfl, er, q, fun u s1 q1 st1 ok1 v1 r1 => ?_, px⟩
  refine ⟨ρ, s1, _, x, rfl, er.step st1 ok1, q1, fun us s2 q2 st2 ok2 vs r2 => ?_, px.step st1⟩
  exact p _ s2 q2 (st1.trans st2) ok2 _ (.cons (r1.same st2.same) r2)
theorem run_D {nn : Nat} {pins : List (Addr × Obj)} {σ : L2.St} {H : Hp} {s : Shared} {Q : VK} {us ws : List Value} {vs zs : List V} (F : FnOk X.prog X.w X.K X.mg X.base CX k f fd ps (spD X.K nn φ)) (hr : Room k X.A) (hb : KBd X.K fd ps n ks gD) (hx : Passes CX X E)
    (I : Inv X pins σ H s) (r : Vals vs us) (rz : Vals zs ws) (h : ∃ s ds zd k x, s.H = H ∧ Ok X.K s ∧ Reps X.K s.G vs ds ∧ Reps X.K s.G zs zd ∧ ds.length = n ∧ zd.length = ks.length ∧ (gD ds zd).length = nn ∧ φ (gD ds zd) s.M k x ∧ Post X.K s k Q ∧ PostX X.K E s x) :
    wpAny (model X.prog X.w) X.A (call (.ref f) us (ks.zip ws)) (EP X pins σ Q) X.xe s := by
  obtain ⟨s0, ds, zd, kk, xx, rfl, o, r1, r2, l1, l2, ln, q, p, px⟩ := h
  obtain ⟨g, gV, hb, hrep⟩ := hb.ex
  have rr := hb.rel r rz
  have e1 : us.length = n := r.length.symm.trans (r1.length.trans l1)
  have e2 : ws.length = ks.length := rz.length.symm.trans (r2.length.trans l2)
  have hs : spD X.K nn φ (gV vs zs) s0.H Q E := ⟨s0, gD ds zd, kk, xx, rfl, o, hrep r1 r2 l1 l2, ln, q, p, px⟩
  refine wpAny_call (codeAny_mono (F.run X.A X.stack s s0.H ⟨us, ks.zip ws⟩ (g us ws) (gV vs zs) Q E hr I.env0 (hb.to s us ws I.kIn e1 e2) rr hs) fun r s' hq => ?_)
  cases r with
  | error e => exact hx pins σ s0.H s e s' I hq
  | ok fl =>
    cases fl with
    | ret u => exact I.after hq
    | next => exact False.elim hq
    | brk => exact False.elim hq
    | cont => exact False.elim hq
def dCall (n : Nat) (φ : Ct) (gD : List D → List D → List D) (α : DA) : DE := fun ρ M k x => α ρ M (fun ds M1 => ds.length = n ∧ φ (gD ds []) M1 k x) x
def dCallK (n m : Nat) (φ : Ct) (gD : List D → List D → List D) (α κ : DA) : DE := fun ρ M k x => α ρ M (fun ds M1 => κ ρ M1 (fun zs M2 => ds.length = n ∧ zs.length = m ∧ φ (gD ds zs) M2 k x) x) x
variable {nn : Nat} (hgl : ∀ us ws : List D, us.length = n → ws.length = ks.length → (gD us ws).length = nn)
theorem d_call (F : FnOk X.prog X.w X.K X.mg X.base CX k f fd ps (spD X.K nn φ)) (hr : Room k X.A) (hg : Gl X x) (hm : X.mg x = some (.ref f)) (hk : PySem.W.keepIn X.K (.ref f) = true) (hb : KBd X.K fd ps n [] gD) (hgl : ∀ us ws : List D, us.length = n → ws.length = 0 → (gD us ws).length = nn) (hx : Passes CX X E)
    (ha : DPA X E (e :: es) αa) (hdb : (x == ("__debug__" : Str)) = false := by decide) (he : starEach (e :: es) X.env = (false, eval e X.env) :: starEach es X.env := by rfl) (hpl : (backTo pos (starEach es X.env)).any (·.1) = false := by rfl) :
    DP X E (.Call (.Name x p) (e :: es) [] pos) (dCall n φ gD αa) := by
  refine ⟨fun pins s σ H Q I h => ?_⟩
  obtain ⟨ρ, s0, kk, xx, rfl, er, q, pp, px⟩ := h
  refine wpAny_Call_Name_kw (ld_glob I hg hm ?_ hdb)
  refine PySem.W.callWith_K (h₀ := X.base) I.ok.mod.kin hk (thn (ha.run pos pins s σ s0.H (fun vs H1 => ∃ s1 ds, s1.H = H1 ∧ Ok X.K s1 ∧ Step s0 s1 ∧ Reps X.K s1.G vs ds ∧ ds.length = n ∧ φ (gD ds []) s1.M kk xx) I ⟨ρ, s0, _, xx, rfl, er, q, fun ds s1 q1 st1 ok1 vs r1 => ⟨s1, ds, rfl, ok1, st1, r1, q1⟩, px⟩) fun us s1 ⟨vs, H1, I1, r, s2, ds, e2, ok2, st2, r2, l2, q2⟩ => ⟨I1.kIn, ?_⟩) he hpl
  subst e2
  exact run_D (ws := []) (zs := []) F hr hb hx I1 r .nil ⟨s2, ds, [], kk, xx, rfl, ok2, r2, .nil, l2, rfl, hgl _ _ l2 rfl, q2, pp.step st2, px.step st2⟩
theorem d_call0 (F : FnOk X.prog X.w X.K X.mg X.base CX k f fd ps (spD X.K nn φ)) (hr : Room k X.A) (hg : Gl X x) (hm : X.mg x = some (.ref f)) (hk : PySem.W.keepIn X.K (.ref f) = true) (hb : KBd X.K fd ps 0 [] gD) (hgl : (gD [] []).length = nn) (hx : Passes CX X E) (hdb : (x == ("__debug__" : Str)) = false := by decide) :
    DP X E (.Call (.Name x p) [] [] pos) (dCall 0 φ gD dNil) := by
  refine ⟨fun pins s σ H Q I h => ?_⟩
  obtain ⟨ρ, s0, kk, xx, rfl, er, ⟨_, q⟩, pp, px⟩ := h
  refine wpAny_Call_Name_kw (ld_glob I hg hm ?_ hdb)
  exact PySem.W.callWith_K0 I.kIn hk (run_D (us := []) (vs := []) (ws := []) (zs := []) F hr hb hx I .nil .nil ⟨s0, [], [], kk, xx, rfl, er.ok, .nil, .nil, rfl, rfl, hgl, q, pp, px⟩)
theorem d_callK (F : FnOk X.prog X.w X.K X.mg X.base CX k f fd ps (spD X.K nn φ)) (hr : Room k X.A) (hg : Gl X x) (hm : X.mg x = some (.ref f)) (hk : PySem.W.keepIn X.K (.ref f) = true) (hb : KBd X.K fd ps n ks gD) (hgl : ∀ us ws : List D, us.length = n → ws.length = ks.length → (gD us ws).length = nn) (hx : Passes CX X E)
    (ha : DPA X E (e :: es) αa) (hkw : DPK X E kws ακ) (hall : (backToKw pos (keywordEach kws X.env)).all (·.1.isSome) = true := by rfl) (hks : (backToKw pos (keywordEach kws X.env)).filterMap (·.1) = ks := by rfl)
    (hdb : (x == ("__debug__" : Str)) = false := by decide) (he : starEach (e :: es) X.env = (false, eval e X.env) :: starEach es X.env := by rfl)
    (hpl : ((backTo pos (starEach (e :: es) X.env)).any (·.1) || (backToKw pos (keywordEach kws X.env)).any (·.1.isNone)) = false := by rfl) :
    DP X E (.Call (.Name x p) (e :: es) kws pos) (dCallK n ks.length φ gD αa ακ) := by
  refine ⟨fun pins s σ H Q I h => ?_⟩
  obtain ⟨ρ, s0, kk, xx, rfl, er, q, pp, px⟩ := h
  refine wpAny_Call_Name_kw (ld_glob I hg hm ?_ hdb)
  refine PySem.W.callWith_KW (h₀ := X.base) I.ok.mod.kin hk hall (thn (ha.run pos pins s σ s0.H (fun vs H1 => ∃ s1 ds, s1.H = H1 ∧ Ok X.K s1 ∧ Step s0 s1 ∧ Reps X.K s1.G vs ds ∧ ακ ρ s1.M (fun zs M2 => ds.length = n ∧ zs.length = ks.length ∧ φ (gD ds zs) M2 kk xx) xx) I ⟨ρ, s0, _, xx, rfl, er, q, fun ds s1 q1 st1 ok1 vs r1 => ⟨s1, ds, rfl, ok1, st1, r1, q1⟩, px⟩) fun us s1 ⟨vs, H1, I1, r, s2, ds, e2, ok2, st2, r2, q2⟩ => ?_) hpl he
  subst e2
  refine thn (hkw.run pos pins s1 σ s2.H (fun zs H2 => ∃ s3 zd, s3.H = H2 ∧ Ok X.K s3 ∧ Step s2 s3 ∧ Reps X.K s3.G zs zd ∧ ds.length = n ∧ zd.length = ks.length ∧ φ (gD ds zd) s3.M kk xx) I1 ⟨ρ, s2, _, xx, rfl, er.step st2 ok2, q2, fun zd s3 q3 st3 ok3 zs r3 => ⟨s3, zd, rfl, ok3, st3, r3, q3⟩, px.step st2⟩) fun ws s3 ⟨zs, H2, I2, rz, s4, zd, e4, ok4, st4, r4, l4, l5, q4⟩ => ⟨I2.kIn, ?_⟩
  subst e4
  rw [hks]
  exact run_D F hr hb hx I2 r rz ⟨s4, ds, zd, kk, xx, rfl, ok4, r2.same st4.same, r4, l4, l5, hgl _ _ l4 l5, q4, pp.step (st2.trans st4), px.step (st2.trans st4)⟩
theorem d_callK0 (F : FnOk X.prog X.w X.K X.mg X.base CX k f fd ps (spD X.K nn φ)) (hr : Room k X.A) (hg : Gl X x) (hm : X.mg x = some (.ref f)) (hk : PySem.W.keepIn X.K (.ref f) = true) (hb : KBd X.K fd ps 0 ks gD) (hgl : ∀ ws : List D, ws.length = ks.length → (gD [] ws).length = nn) (hx : Passes CX X E)
    (hkw : DPK X E kws ακ) (hall : (backToKw pos (keywordEach kws X.env)).all (·.1.isSome) = true := by rfl) (hks : (backToKw pos (keywordEach kws X.env)).filterMap (·.1) = ks := by rfl)
    (hdb : (x == ("__debug__" : Str)) = false := by decide) (hpl : ((backTo pos (starEach [] X.env)).any (·.1) || (backToKw pos (keywordEach kws X.env)).any (·.1.isNone)) = false := by rfl) :
    DP X E (.Call (.Name x p) [] kws pos) (dCallK 0 ks.length φ gD dNil ακ) := by
  refine ⟨fun pins s σ H Q I h => ?_⟩
  obtain ⟨ρ, s0, kk, xx, rfl, er, q, pp, px⟩ := h
  refine wpAny_Call_Name_kw (ld_glob I hg hm ?_ hdb)
  refine PySem.W.callWith_KW0 (h₀ := X.base) I.ok.mod.kin hk hall ?_ hpl
  refine thn (hkw.run pos pins s σ s0.H (fun zs H2 => ∃ s3 zd, s3.H = H2 ∧ Ok X.K s3 ∧ Step s0 s3 ∧ Reps X.K s3.G zs zd ∧ 0 = 0 ∧ zd.length = ks.length ∧ φ (gD [] zd) s3.M kk xx) I ⟨ρ, s0, _, xx, rfl, er, q, fun zd s3 q3 st3 ok3 zs r3 => ⟨s3, zd, rfl, ok3, st3, r3, q3⟩, px⟩) fun ws s3 ⟨zs, H2, I2, rz, s4, zd, e4, ok4, st4, r4, l4, l5, q4⟩ => ⟨I2.kIn, ?_⟩
  subst e4
  rw [hks]
  exact run_D (us := []) (vs := []) F hr hb hx I2 .nil rz ⟨s4, [], zd, kk, xx, rfl, ok4, .nil, r4, rfl, l5, hgl _ l5, q4, pp.step st4, px.step st4⟩
end
/-- every parameter is written, in order -/
theorem kbd_plain {K : PySem.W.Frag} {fd : FuncData} {ps : List Str} {n : Nat} (hn : n = ps.length) (h : ∀ us : List Value, us.length = ps.length → bindArgs fd ⟨us, []⟩ = pure (ps.zip us)) : KBd K fd ps n [] (fun us _ => us) :=
  ⟨⟨fun us _ => us, fun vs _ => vs, ⟨fun s us ws _ l1 l2 => by
    have e : ws = [] := List.eq_nil_of_length_eq_zero l2
    subst e
    exact .of_eq (h us (l1.trans hn)), fun r _ => r⟩, fun r _ _ _ => r⟩⟩
/-- keywords: what stands at the i-th place comes from the positional ones (inl) or the keywords (inr) -/
def pickA {α : Type} (us ws : List α) : List (Sum Nat Nat) → List α
  | [] => []
  | .inl i :: r => (match us[i]? with | some u => [u] | none => []) ++ pickA us ws r
  | .inr j :: r => (match ws[j]? with | some u => [u] | none => []) ++ pickA us ws r
theorem pickA_vals {vs zs : List V} {us ws : List Value} (r : Vals vs us) (rz : Vals zs ws) : ∀ l, Vals (pickA vs zs l) (pickA us ws l)
  | [] => .nil
  | .inl i :: l => by
    refine Vals.append ?_ (pickA_vals r rz l)
    cases e : vs[i]? with
    | none => rw [r.none_of e]; exact .nil
    | some v => obtain ⟨u, h1, h2⟩ := r.get e; rw [h1]; exact .cons h2 .nil
  | .inr i :: l => by
    refine Vals.append ?_ (pickA_vals r rz l)
    cases e : zs[i]? with
    | none => rw [rz.none_of e]; exact .nil
    | some v => obtain ⟨u, h1, h2⟩ := rz.get e; rw [h1]; exact .cons h2 .nil
theorem Reps.noneD {K : PySem.W.Frag} {G : Hp} {vs : List V} {ds : List D} {i : Nat} (r : Reps K G vs ds) (e : vs[i]? = none) : ds[i]? = none := by
  have h1 := r.length
  have h2 : vs.length ≤ i := List.getElem?_eq_none_iff.mp e
  exact List.getElem?_eq_none_iff.mpr (by omega)
theorem pickA_reps {K : PySem.W.Frag} {G : Hp} {vs zs : List V} {us ws : List D} (r : Reps K G vs us) (rz : Reps K G zs ws) : ∀ l, Reps K G (pickA vs zs l) (pickA us ws l)
  | [] => .nil
  | .inl i :: l => by
    refine Reps.append ?_ (pickA_reps r rz l)
    cases e : vs[i]? with
    | none => rw [r.noneD e]; exact .nil
    | some v => obtain ⟨u, h1, h2⟩ := r.getV e; rw [h1]; exact .cons h2 .nil
  | .inr i :: l => by
    refine Reps.append ?_ (pickA_reps r rz l)
    cases e : zs[i]? with
    | none => rw [rz.noneD e]; exact .nil
    | some v => obtain ⟨u, h1, h2⟩ := rz.getV e; rw [h1]; exact .cons h2 .nil
theorem kbd_kw {K : PySem.W.Frag} {fd : FuncData} {ps ks : List Str} {n : Nat} (l : List (Sum Nat Nat)) (h : ∀ us ws : List Value, us.length = n → ws.length = ks.length → bindArgs fd ⟨us, ks.zip ws⟩ = pure (ps.zip (pickA us ws l))) : KBd K fd ps n ks (fun us ws => pickA us ws l) :=
  ⟨⟨fun us ws => pickA us ws l, fun vs zs => pickA vs zs l, ⟨fun s us ws _ l1 l2 => .of_eq (h us ws l1 l2), fun r rz => pickA_vals r rz l⟩, fun r rz _ _ => pickA_reps r rz l⟩⟩
end DL
set_option Elab.async false
set_option linter.all false
set_option maxRecDepth 100000
set_option maxHeartbeats 2000000
namespace DL
open PySem PySem.Spec PyProof.Rows L2
section
variable {X : Cx} {E : XK} {e a b c : Expr} {pos : Pos} {τa τb τc : DE} {αa : DA} {es : List Expr}

/-! ### arithmetic -/
def dAdd : D2
  | .int i, .int j, M, k, _ => k (.int (i + j)) M
  | .str i, .str j, M, k, _ => i.length + j.length ≤ sizeLine ∧ k (.str (i ++ j)) M
  | .lst i, .lst j, M, k, _ => i.length + j.length ≤ sizeLine ∧ k (.lst (i ++ j)) M
  | .tup i, .tup j, M, k, _ => i.length + j.length ≤ sizeLine ∧ k (.tup (i ++ j)) M
  | _, _, _, _, _ => False
theorem o_add : OpR X (binaryOp .Add) (r2 X.K E dAdd) := by
  intro pins s σ H x y u v Q I rx ry h
  obtain ⟨s0, dx, dy, k, xx, rfl, ok, hx, hy, q, p, px⟩ := h
  unfold dAdd at q
  split at q
  · cases hx; cases hy
    exact op_add pins s σ _ _ _ u v Q I rx ry ⟨_, _, rfl, rfl, p.now q ok .int⟩
  · cases hx; cases hy
    exact op_add_str pins s σ _ _ _ u v Q I rx ry ⟨_, _, rfl, rfl, q.1, p.now q.2 ok .str⟩
  · obtain ⟨l, vs, rfl, hl, r1⟩ := hx.lst_of
    obtain ⟨m, us, rfl, hm, r2⟩ := hy.lst_of
    exact op_cat pins s σ _ _ _ u v Q I rx ry ⟨l, m, vs, us, rfl, rfl, ok.sub _ _ hl, ok.sub _ _ hm, by rw [r1.length, r2.length]; exact q.1, fun t ht => p.lst q.2 ok (r1.append r2) ht⟩
  · obtain ⟨l, vs, rfl, hl, r1⟩ := hx.tup_of
    obtain ⟨m, us, rfl, hm, r2⟩ := hy.tup_of
    refine op_catA pins s σ _ _ _ u v Q I rx ry ⟨l, m, vs, us, rfl, rfl, (Same.seqT ok.sub hl), (Same.seqT ok.sub hm), by rw [r1.length, r2.length]; exact q.1, fun e => ?_, fun _ e => ?_, fun _ _ t ht => p.tup q.2 ok (r1.append r2) ht⟩
    · subst e
      cases r1
      exact p.now q.2 ok (.tup hm r2)
    · subst e
      cases r2
      have q2 := q.2
      rw [List.append_nil] at q2
      exact p.now q2 ok (.tup hl r1)
  · exact q.elim
def dI2 (g : Int → Int → D) : D2
  | .int i, .int j, M, k, _ => k (g i j) M
  | _, _, _, _, _ => False
def dI2c (C : Int → Int → Prop) (g : Int → Int → D) : D2
  | .int i, .int j, M, k, _ => C i j ∧ k (g i j) M
  | _, _, _, _, _ => False
theorem o_sub : OpR X (binaryOp .Sub) (r2 X.K E (dI2 fun i j => .int (i - j))) := by
  intro pins s σ H x y u v Q I rx ry h
  obtain ⟨s0, dx, dy, k, xx, rfl, ok, hx, hy, q, p, px⟩ := h
  unfold dI2 at q
  split at q
  · cases hx; cases hy
    exact op_sub pins s σ _ _ _ u v Q I rx ry ⟨_, _, rfl, rfl, p.now q ok .int⟩
  · exact q.elim
/-- one factor below 2 ^ 64, or both together below a million bits -/
def MulOk (i j : Int) : Prop := CMul i j ∨ CMulW i j
theorem o_mul : OpR X (binaryOp .Mult) (r2 X.K E (dI2c MulOk fun i j => .int (i * j))) := by
  intro pins s σ H x y u v Q I rx ry h
  obtain ⟨s0, dx, dy, k, xx, rfl, ok, hx, hy, q, p, px⟩ := h
  unfold dI2c at q
  split at q
  · cases hx; cases hy
    rcases q.1 with c | c
    · exact op_mul pins s σ _ _ _ u v Q I rx ry ⟨_, _, rfl, rfl, c, p.now q.2 ok .int⟩
    · exact op_mulW pins s σ _ _ _ u v Q I rx ry ⟨_, _, rfl, rfl, c, p.now q.2 ok .int⟩
  · exact q.elim
def DivOk (_ j : Int) : Prop := j ≠ 0 ∧ j.natAbs.log2 < 9000
theorem o_fdiv : OpR X (binaryOp .FloorDiv) (r2 X.K E (dI2c DivOk fun i j => .int (i.fdiv j))) := by
  intro pins s σ H x y u v Q I rx ry h
  obtain ⟨s0, dx, dy, k, xx, rfl, ok, hx, hy, q, p, px⟩ := h
  unfold dI2c at q
  split at q
  · cases hx; cases hy
    have op : OpR X (binaryOp .FloorDiv) (rI DivOk fun i j => .int (i.fdiv j)) := opI fun _ _ _ _ _ _ _ hc q => floordiv_int hc.1 q (.inl (PyProof.noPylong_of_log2 hc.2))
    exact op pins s σ _ _ _ u v Q I rx ry ⟨_, _, rfl, rfl, q.1, p.now q.2 ok .int⟩
  · exact q.elim
theorem o_mod : OpR X (binaryOp .Mod) (r2 X.K E (dI2c (fun _ j => j ≠ 0) fun i j => .int (i.fmod j))) := by
  intro pins s σ H x y u v Q I rx ry h
  obtain ⟨s0, dx, dy, k, xx, rfl, ok, hx, hy, q, p, px⟩ := h
  unfold dI2c at q
  split at q
  · cases hx; cases hy
    exact op_modN pins s σ _ _ _ u v Q I rx ry ⟨_, _, rfl, rfl, q.1, p.now q.2 ok .int⟩
  · exact q.elim
theorem o_pow : OpR X (binaryOp .Pow) (r2 X.K E (dI2c CPow fun i j => .int (i ^ j.toNat))) := by
  intro pins s σ H x y u v Q I rx ry h
  obtain ⟨s0, dx, dy, k, xx, rfl, ok, hx, hy, q, p, px⟩ := h
  unfold dI2c at q
  split at q
  · cases hx; cases hy
    exact op_pow pins s σ _ _ _ u v Q I rx ry ⟨_, _, rfl, rfl, q.1, p.now q.2 ok .int⟩
  · exact q.elim
def dNeg : D1
  | .int i, M, k, _ => k (.int (-i)) M
  | _, _, _, _ => False
theorem o_neg : UnR X (unaryOp .USub) (r1 X.K E dNeg) := by
  intro pins s σ H x u Q I rx h
  obtain ⟨s0, dx, k, xx, rfl, ok, hx, q, p, px⟩ := h
  unfold dNeg at q
  split at q
  · cases hx
    exact un_neg pins s σ _ _ u Q I rx ⟨_, rfl, p.now q ok .int⟩
  · exact q.elim

/-! ### comparisons -/
theorem o_lt : OpR X (compareOp .Lt) (r2 X.K E (dI2 fun i j => .bl (decide (i < j)))) := by
  intro pins s σ H x y u v Q I rx ry h
  obtain ⟨s0, dx, dy, k, xx, rfl, ok, hx, hy, q, p, px⟩ := h
  unfold dI2 at q
  split at q
  · cases hx; cases hy
    exact op_lt pins s σ _ _ _ u v Q I rx ry ⟨_, _, rfl, rfl, p.now q ok .bl⟩
  · exact q.elim
theorem o_le : OpR X (compareOp .LtE) (r2 X.K E (dI2 fun i j => .bl (decide (i ≤ j)))) := by
  intro pins s σ H x y u v Q I rx ry h
  obtain ⟨s0, dx, dy, k, xx, rfl, ok, hx, hy, q, p, px⟩ := h
  unfold dI2 at q
  split at q
  · cases hx; cases hy
    exact op_le pins s σ _ _ _ u v Q I rx ry ⟨_, _, rfl, rfl, p.now q ok .bl⟩
  · exact q.elim
theorem o_gt : OpR X (compareOp .Gt) (r2 X.K E (dI2 fun i j => .bl (decide (j < i)))) := by
  intro pins s σ H x y u v Q I rx ry h
  obtain ⟨s0, dx, dy, k, xx, rfl, ok, hx, hy, q, p, px⟩ := h
  unfold dI2 at q
  split at q
  · cases hx; cases hy
    exact op_gt pins s σ _ _ _ u v Q I rx ry ⟨_, _, rfl, rfl, p.now q ok .bl⟩
  · exact q.elim
theorem o_ge : OpR X (compareOp .GtE) (r2 X.K E (dI2 fun i j => .bl (decide (j ≤ i)))) := by
  intro pins s σ H x y u v Q I rx ry h
  obtain ⟨s0, dx, dy, k, xx, rfl, ok, hx, hy, q, p, px⟩ := h
  unfold dI2 at q
  split at q
  · cases hx; cases hy
    exact op_ge pins s σ _ _ _ u v Q I rx ry ⟨_, _, rfl, rfl, p.now q ok .bl⟩
  · exact q.elim
/-- a < b < c -/
theorem d_chain {op op' : CmpOp} {f g : D2} (ho : OpR X (compareOp op) (r2 X.K E f)) (ho' : OpR X (compareOp op') (r2 X.K E g)) (ha : DP X E a τa) (hb : DP X E b τb) (hc : DP X E c τc) (hm : lastMarks [op, op'] [b, c] = false := by with_unfolding_all rfl) :
    DP X E (.Compare a [op, op'] [b, c] pos) (dChain f g τa τb τc) := pe_mono (pe_chain ho ho' ha hb hc hm) fun σ H Q h => by
  obtain ⟨ρ, s, k, x, rfl, er, q, p, px⟩ := h
  refine ⟨ρ, s, _, x, rfl, er, q, fun u s1 q1 st1 ok1 v1 r1 => ?_, px⟩
  refine ⟨ρ, s1, _, x, rfl, er.step st1 ok1, q1, fun w s2 q2 st2 ok2 v2 r2 => ?_, px.step st1⟩
  refine ⟨s2, u, w, _, x, rfl, ok2, r1.same st2.same, r2, q2, fun z s3 q3 st3 ok3 v3 r3 => ?_, px.step (st1.trans st2)⟩
  obtain ⟨c, rfl, q3⟩ := q3
  refine ⟨c, r3.bl_of, ?_⟩
  have st : Step s s3 := (st1.trans st2).trans st3
  cases c with
  | true =>
    rw [if_pos rfl] at q3 ⊢
    refine ⟨ρ, s3, _, x, rfl, er.step st ok3, q3, fun z s4 q4 st4 ok4 v4 r4 => ?_, px.step st⟩
    exact ⟨s4, w, z, k, x, rfl, ok4, r2.same (st3.trans st4).same, r4, q4, p.step (st.trans st4), px.step (st.trans st4)⟩
  | false =>
    rw [if_neg Bool.false_ne_true] at q3 ⊢
    exact p _ s3 q3 st ok3 _ .bl
theorem t_chain {op op' : CmpOp} {f g : D2} (ho : OpR X (compareOp op) (r2 X.K E f)) (ho' : OpR X (compareOp op') (r2 X.K E g)) (ha : DP X E a τa) (hb : DP X E b τb) (hc : DP X E c τc) (hm : lastMarks [op, op'] [b, c] = false := by with_unfolding_all rfl) :
    DPT X E (.Compare a [op, op'] [b, c] pos) (dB (dChain f g τa τb τc)) := pt_mono (pt_chain ho ho' ha hb hc hm) fun σ H Q h => by
  have h' := upT_B h
  obtain ⟨ρ, s, k, x, rfl, er, q, p, px⟩ := h'
  refine ⟨ρ, s, _, x, rfl, er, q, fun u s1 q1 st1 ok1 v1 r1 => ?_, px⟩
  refine ⟨ρ, s1, _, x, rfl, er.step st1 ok1, q1, fun w s2 q2 st2 ok2 v2 r2 => ?_, px.step st1⟩
  refine ⟨s2, u, w, _, x, rfl, ok2, r1.same st2.same, r2, q2, fun z s3 q3 st3 ok3 v3 r3 => ?_, px.step (st1.trans st2)⟩
  obtain ⟨c, rfl, q3⟩ := q3
  refine ⟨c, r3.bl_of, ?_⟩
  have st : Step s s3 := (st1.trans st2).trans st3
  cases c with
  | true =>
    rw [if_pos rfl] at q3 ⊢
    refine ⟨ρ, s3, _, x, rfl, er.step st ok3, q3, fun z s4 q4 st4 ok4 v4 r4 => ?_, px.step st⟩
    exact ⟨s4, w, z, k, x, rfl, ok4, r2.same (st3.trans st4).same, r4, q4, p.step (st.trans st4), px.step (st.trans st4)⟩
  | false =>
    rw [if_neg Bool.false_ne_true] at q3 ⊢
    exact p _ s3 q3 st ok3 _ .bl

/-! ### == -/
mutual
def toP : D → Option PyData
  | .non => some .none
  | .bl b => some (.bool b)
  | .int i => some (.int i)
  | .str x => some (.str x)
  | .lst ds => (toPs ds).map .list
  | .tup ds => (toPs ds).map .tuple
  | _ => none
def toPs : List D → Option (List PyData)
  | [] => some []
  | d :: ds => match toP d, toPs ds with
    | some p, some ps => some (p :: ps)
    | _, _ => none
end
mutual
theorem dp_of {K : PySem.W.Frag} {G : Hp} : ∀ {v : V} {d : D} {p : PyData}, Rep K G v d → toP d = some p → Dp K G v p
  | _, .non, p, h, e => by cases h; simp [toP] at e; subst e; exact .non
  | _, .bl b, p, h, e => by cases h; simp [toP] at e; subst e; exact .bl b
  | _, .int b, p, h, e => by cases h; simp [toP] at e; subst e; exact .int b
  | _, .str b, p, h, e => by cases h; simp [toP] at e; subst e; exact .str b
  | _, .lst ds, p, h, e => by
    obtain ⟨a, vs, rfl, ha, r⟩ := h.lst_of
    simp only [toP, Option.map_eq_some_iff] at e
    obtain ⟨ps, e1, rfl⟩ := e
    exact .lst (SqL.of ha) (dps_of r e1)
  | _, .tup ds, p, h, e => by
    obtain ⟨a, vs, rfl, ha, r⟩ := h.tup_of
    simp only [toP, Option.map_eq_some_iff] at e
    obtain ⟨ps, e1, rfl⟩ := e
    exact .tup (ha) (dps_of r e1)
  | _, .obj _ _, p, h, e => by simp [toP] at e
  | _, .cel _, p, h, e => by simp [toP] at e
  | _, .scr _, p, h, e => by simp [toP] at e
  | _, .exc _ _ _, p, h, e => by simp [toP] at e
  | _, .lam _ _ _ _ _, p, h, e => by simp [toP] at e
theorem dps_of {K : PySem.W.Frag} {G : Hp} : ∀ {vs : List V} {ds : List D} {ps : List PyData}, Reps K G vs ds → toPs ds = some ps → DpAll K G vs ps
  | _, [], ps, h, e => by cases h; simp [toPs] at e; subst e; exact .nil
  | _, d :: ds, ps, h, e => by
    cases h with
    | cons h1 h2 =>
      simp only [toPs] at e
      split at e
      · rename_i p ps' e1 e2
        cases e
        exact .cons (dp_of h1 e1) (dps_of h2 e2)
      · cases e
end
mutual
theorem Dp.same {K : PySem.W.Frag} {G G' : Hp} (s : Same G G') : ∀ {v : V} {p : PyData}, Dp K G v p → Dp K G' v p
  | _, _, .non => .non
  | _, _, .bl b => .bl b
  | _, _, .int b => .int b
  | _, _, .str b => .str b
  | _, _, .lst h r => .lst (Same.seq s h) (DpAll.same s r)
  | _, _, .tup h r => .tup (Same.seqT s h) (DpAll.same s r)
theorem DpAll.same {K : PySem.W.Frag} {G G' : Hp} (s : Same G G') : ∀ {v : List V} {p : List PyData}, DpAll K G v p → DpAll K G' v p
  | _, _, .nil => .nil
  | _, _, .cons h r => .cons (Dp.same s h) (DpAll.same s r)
end
/-- flat data -/
def flatD : D → Bool
  | .non => true
  | .bl _ => true
  | .int _ => true
  | .str _ => true
  | _ => false
def toV : D → V
  | .non => .non
  | .bl b => .bl b
  | .int i => .int i
  | .str x => .str x
  | _ => .non
theorem Rep.flat {K : PySem.W.Frag} {G : Hp} {v : V} {d : D} (h : Rep K G v d) (f : flatD d = true) : v = toV d ∧ flatV v = true := by
  cases h <;> first | exact ⟨rfl, rfl⟩ | cases f
/-- == of pure data -/
inductive EqD : D → D → Bool → Prop where
  | py {x y : D} {p q : PyData} (h1 : toP x = some p) (h2 : toP y = some q) (h3 : SeqAt.shaped p = true) (h4 : SeqAt.shaped q = true) : EqD x y (PyData.eqv p q)
  | sc {x y : D} (h1 : flatD x = true) (h2 : flatD y = true) (h3 : scal (toV x) (toV y) = true) : EqD x y (decide (toV x = toV y))
inductive EqK (x y : D) (M : Mm) (k : DK) : Prop where
  | of {r : Bool} (h : EqD x y r) (q : k (.bl r) M)
  | no (h : False)
inductive NeK (x y : D) (M : Mm) (k : DK) : Prop where
  | of {r : Bool} (h : EqD x y r) (q : k (.bl (!r)) M)
  | no (h : False)
def dEq : D2 := fun x y M k _ => EqK x y M k
def dNe : D2 := fun x y M k _ => NeK x y M k
theorem o_eq (hu : X.A.units + 64 < cLine) : OpR X (compareOp .Eq) (r2 X.K E dEq) := by
  intro pins s σ H x y u v Q I rx ry h
  obtain ⟨s0, dx, dy, k, xx, rfl, ok, hx, hy, qq, p, px⟩ := h
  rcases qq with ⟨q, q2⟩ | z
  case no => exact z.elim
  cases q with
  | py h1 h2 h3 h4 => exact op_eqD hu pins s σ _ _ _ u v Q I rx ry ⟨_, _, Dp.same ok.sub (dp_of hx h1), Dp.same ok.sub (dp_of hy h2), h3, h4, p.now q2 ok .bl⟩
  | sc h1 h2 h3 =>
    obtain ⟨rfl, _⟩ := hx.flat h1
    obtain ⟨rfl, _⟩ := hy.flat h2
    exact op_eq pins s σ _ _ _ u v Q I rx ry ⟨h3, p.now q2 ok .bl⟩
theorem o_ne (hu : X.A.units + 64 < cLine) : OpR X (compareOp .NotEq) (r2 X.K E dNe) := by
  intro pins s σ H x y u v Q I rx ry h
  obtain ⟨s0, dx, dy, k, xx, rfl, ok, hx, hy, qq, p, px⟩ := h
  rcases qq with ⟨q, q2⟩ | z
  case no => exact z.elim
  cases q with
  | py h1 h2 h3 h4 => exact op_neD hu pins s σ _ _ _ u v Q I rx ry ⟨_, _, Dp.same ok.sub (dp_of hx h1), Dp.same ok.sub (dp_of hy h2), h3, h4, p.now q2 ok .bl⟩
  | sc h1 h2 h3 =>
    obtain ⟨rfl, _⟩ := hx.flat h1
    obtain ⟨rfl, _⟩ := hy.flat h2
    exact op_ne pins s σ _ _ _ u v Q I rx ry ⟨h3, p.now q2 ok .bl⟩

/-! ### in, is None -/
def eqF (x y : D) : Bool := eqV (toV x) (toV y)
def inD (x : D) (xs : List D) : Bool := xs.any fun y => eqF y x
theorem inV_of {K : PySem.W.Frag} {G : Hp} {v : V} {x : D} (h : v = toV x) : ∀ {vs : List V} {xs : List D}, Reps K G vs xs → xs.all flatD = true → inV v vs = inD x xs ∧ vs.all flatV = true
  | _, _, .nil, _ => ⟨rfl, rfl⟩
  | _, _, .cons r rs, f => by
    simp only [List.all_cons, Bool.and_eq_true] at f
    obtain ⟨e1, e2⟩ := r.flat f.1
    obtain ⟨e3, e4⟩ := inV_of h rs f.2
    refine ⟨?_, by simp only [List.all_cons, e2, e4, Bool.and_self]⟩
    unfold inV inD at *
    simp only [List.any_cons]
    rw [e3]
    unfold eqF
    rw [e1, h]
/-- in a text: one sign; in a list or tuple: flat data -/
def dIn (neg : Bool) : D2
  | .str x, .str z, M, k, _ => ∃ c : Nat, x = ⟨#[c]⟩ ∧ k (.bl (if neg then !decide (c ∈ z.cps.toList) else decide (c ∈ z.cps.toList))) M
  | x, .lst xs, M, k, _ => flatD x = true ∧ xs.all flatD = true ∧ k (.bl (if neg then !inD x xs else inD x xs)) M
  | x, .tup xs, M, k, _ => flatD x = true ∧ xs.all flatD = true ∧ k (.bl (if neg then !inD x xs else inD x xs)) M
  | _, _, _, _, _ => False
theorem o_in : OpR X (compareOp .In) (r2 X.K E (dIn false)) := by
  intro pins s σ H x y u v Q I rx ry h
  obtain ⟨s0, dx, dy, k, xx, rfl, ok, hx, hy, q, p, px⟩ := h
  unfold dIn at q
  split at q
  · obtain ⟨c, rfl, q⟩ := q
    cases hx; cases hy
    exact op_in_sign pins s σ _ _ _ u v Q I rx ry ⟨c, _, rfl, rfl, p.now q ok .bl⟩
  · obtain ⟨l, vs, rfl, hl, r1⟩ := hy.lst_of
    obtain ⟨e1, e2⟩ := hx.flat q.1
    obtain ⟨e3, e4⟩ := inV_of e1 r1 q.2.1
    refine op_in_seq pins s σ _ _ _ u v Q I rx ry ⟨l, vs, rfl, .inl (SqL.of (ok.sub _ _ hl)), e2, e4, ?_⟩
    rw [e3]
    exact p.now q.2.2 ok .bl
  · obtain ⟨l, vs, rfl, hl, r1⟩ := hy.tup_of
    obtain ⟨e1, e2⟩ := hx.flat q.1
    obtain ⟨e3, e4⟩ := inV_of e1 r1 q.2.1
    refine op_in_seq pins s σ _ _ _ u v Q I rx ry ⟨l, vs, rfl, .inr ((Same.seqT ok.sub hl)), e2, e4, ?_⟩
    rw [e3]
    exact p.now q.2.2 ok .bl
  · exact q.elim
theorem o_notIn : OpR X (compareOp .NotIn) (r2 X.K E (dIn true)) := by
  intro pins s σ H x y u v Q I rx ry h
  obtain ⟨s0, dx, dy, k, xx, rfl, ok, hx, hy, q, p, px⟩ := h
  unfold dIn at q
  split at q
  · obtain ⟨c, rfl, q⟩ := q
    cases hx; cases hy
    exact op_notIn_sign pins s σ _ _ _ u v Q I rx ry ⟨c, _, rfl, rfl, p.now q ok .bl⟩
  · obtain ⟨l, vs, rfl, hl, r1⟩ := hy.lst_of
    obtain ⟨e1, e2⟩ := hx.flat q.1
    obtain ⟨e3, e4⟩ := inV_of e1 r1 q.2.1
    refine op_notIn_seq pins s σ _ _ _ u v Q I rx ry ⟨l, vs, rfl, .inl (SqL.of (ok.sub _ _ hl)), e2, e4, ?_⟩
    rw [e3]
    exact p.now q.2.2 ok .bl
  · obtain ⟨l, vs, rfl, hl, r1⟩ := hy.tup_of
    obtain ⟨e1, e2⟩ := hx.flat q.1
    obtain ⟨e3, e4⟩ := inV_of e1 r1 q.2.1
    refine op_notIn_seq pins s σ _ _ _ u v Q I rx ry ⟨l, vs, rfl, .inr ((Same.seqT ok.sub hl)), e2, e4, ?_⟩
    rw [e3]
    exact p.now q.2.2 ok .bl
  · exact q.elim
def isNon : D → Bool
  | .non => true
  | _ => false
theorem Rep.isNon {K : PySem.W.Frag} {G : Hp} {v : V} {d : D} (h : Rep K G v d) : decide (v = .non) = DL.isNon d := by
  cases h <;> first | rfl | exact decide_eq_false (fun z => nomatch z)
def dIsN (neg : Bool) : D2 := fun x y M k _ => y = .non ∧ k (.bl (if neg then !isNon x else isNon x)) M
theorem o_isN : OpR X (compareOp .Is) (r2 X.K E (dIsN false)) := by
  intro pins s σ H x y u v Q I rx ry h
  obtain ⟨s0, dx, dy, k, xx, rfl, ok, hx, hy, ⟨rfl, q⟩, p, px⟩ := h
  refine op_isN pins s σ _ _ _ u v Q I rx ry ⟨hy.non_of, ?_⟩
  rw [hx.isNon]
  exact p.now q ok .bl
theorem o_isNotN : OpR X (compareOp .IsNot) (r2 X.K E (dIsN true)) := by
  intro pins s σ H x y u v Q I rx ry h
  obtain ⟨s0, dx, dy, k, xx, rfl, ok, hx, hy, ⟨rfl, q⟩, p, px⟩ := h
  refine op_notN pins s σ _ _ _ u v Q I rx ry ⟨hy.non_of, ?_⟩
  rw [hx.isNon]
  exact p.now q ok .bl

/-! ### items, slices, stores -/
theorem atI_reps {K : PySem.W.Frag} {G : Hp} {vs : List V} {ds : List D} {i : Int} {d : D} (r : Reps K G vs ds) (h : atI ds i = some d) : ∃ v, atI vs i = some v ∧ Rep K G v d := by
  unfold atI at h ⊢
  rw [r.length]
  cases e : ixN ds.length i with
  | none => rw [e] at h; cases h
  | some j =>
    rw [e] at h
    exact r.get h
def dIx : D2
  | .lst ds, .int i, M, k, _ => ∃ d, atI ds i = some d ∧ k d M
  | .tup ds, .int i, M, k, _ => ∃ d, atI ds i = some d ∧ k d M
  | .str z, .int i, M, k, _ => z.length ≤ sizeLine ∧ ∃ c, atI z.cps.toList i = some c ∧ k (.str ⟨#[c]⟩) M
  | .cel a, .int i, M, k, _ => ∃ ds, M a = some (.lst ds) ∧ ∃ d, atI ds i = some d ∧ k d M
  | _, _, _, _, _ => False
theorem x_ix : IxR X (r2 X.K E dIx) := by
  intro value slice pins s σ H x y u v Q I rx ry h hsub
  obtain ⟨s0, dx, dy, k, xx, rfl, ok, hx, hy, q, p, px⟩ := h
  unfold dIx at q
  split at q
  · cases hy
    obtain ⟨l, vs, rfl, hl, r1⟩ := hx.lst_of
    obtain ⟨d, hd, q⟩ := q
    obtain ⟨w, hw, rw'⟩ := atI_reps r1 hd
    exact ix_list value slice pins s σ _ _ _ u v Q I rx ry ⟨l, vs, _, w, rfl, rfl, SqL.of (ok.sub _ _ hl), hw, p.now q ok rw'⟩ hsub
  · cases hy
    obtain ⟨l, vs, rfl, hl, r1⟩ := hx.tup_of
    obtain ⟨d, hd, q⟩ := q
    obtain ⟨w, hw, rw'⟩ := atI_reps r1 hd
    exact ix_tup value slice pins s σ _ _ _ u v Q I rx ry ⟨l, vs, _, w, rfl, rfl, (Same.seqT ok.sub hl), hw, p.now q ok rw'⟩ hsub
  · cases hy; cases hx
    obtain ⟨hz, c, hc, q⟩ := q
    exact ix_str value slice pins s σ _ _ _ u v Q I rx ry ⟨_, _, c, rfl, rfl, hz, hc, p.now q ok .str⟩ hsub
  · cases hy; cases hx
    obtain ⟨ds, hm, d, hd, q⟩ := q
    obtain ⟨vs, e, r1⟩ := ok.cells _ _ hm
    obtain ⟨w, hw, rw'⟩ := atI_reps r1 hd
    exact ix_list value slice pins s σ _ _ _ u v Q I rx ry ⟨_, vs, _, w, rfl, rfl, SqL.of e, hw, p.now q ok rw'⟩ hsub
  · exact q.elim
theorem d_ix {f : D2} (hr : IxR X (r2 X.K E f)) (ha : DP X E a τa) (hb : DP X E b τb) (hs : PlainIx b) : DP X E (.Subscript a b pos) (dOp f τa τb) := pe_mono (pe_ix hr ha hb hs) fun _ _ _ h => up_op h
abbrev DO := DEnv → Mm → (Option Int → Mm → Prop) → DX → Prop
def upO (K : PySem.W.Frag) (E : XK) (τ : DO) : TO := fun σ H Q => ∃ ρ s k x, s.H = H ∧ ER K s σ ρ ∧ τ ρ s.M k x ∧ (∀ o (t : Sta), k o t.M → Step s t → Ok K t → Q o t.H) ∧ PostX K E s x
def DPO (X : Cx) (E : XK) (e : Option Expr) (τ : DO) : Prop := PO X e (upO X.K E τ)
theorem po_mono {e : Option Expr} {t t' : TO} (h : PO X e t) (m : ∀ σ H Q, t' σ H Q → t σ H Q) : PO X e t' := ⟨fun pins s σ H Q I q => h.run pins s σ H Q I (m σ H Q q)⟩
def dNoPart : DO := fun _ M k _ => k none M
def dPart (τ : DE) : DO := fun ρ M k x => τ ρ M (fun u M1 => ∃ i, u = .int i ∧ k (some i) M1) x
theorem o_none : DPO X E none dNoPart := po_mono po_none fun σ H Q h => by
  obtain ⟨ρ, s, k, x, rfl, er, q, p, px⟩ := h
  exact p none s q (Step.refl s) er.ok
theorem o_some (h : DP X E e τa) : DPO X E (some e) (dPart τa) := po_mono (po_some h) fun σ H Q h => by
  obtain ⟨ρ, s, k, x, rfl, er, q, p, px⟩ := h
  refine ⟨ρ, s, _, x, rfl, er, q, fun u s1 q1 st1 ok1 v1 r1 => ?_, px⟩
  obtain ⟨i, rfl, q1⟩ := q1
  exact ⟨i, r1.int_of, p _ s1 q1 st1 ok1⟩
abbrev DSl := D → Option Int → Option Int → Mm → DK → Prop
def rSlD (K : PySem.W.Frag) (E : XK) (f : DSl) : V → Option Int → Option Int → Hp → VK → Prop := fun x lo hi H Q => ∃ s dx k, s.H = H ∧ Ok K s ∧ Rep K s.G x dx ∧ f dx lo hi s.M k ∧ Post K s k Q
def dSl (f : DSl) (τ : DE) (τl τh : DO) : DE := fun ρ M k x => τ ρ M (fun u M1 => τl ρ M1 (fun lo M2 => τh ρ M2 (fun hi M3 => f u lo hi M3 k) x) x) x
theorem d_slice {f : DSl} {τl τh : DO} {lo hi : Option Expr} {p2 : Pos} (hr : SlR X (rSlD X.K E f)) (he : DP X E e τa) (hl : DPO X E lo τl) (hu : DPO X E hi τh) : DP X E (.Subscript e (.Slice lo hi none p2) pos) (dSl f τa τl τh) := pe_mono (pe_slice hr he hl hu) fun σ H Q h => by
  obtain ⟨ρ, s, k, x, rfl, er, q, p, px⟩ := h
  refine ⟨ρ, s, _, x, rfl, er, q, fun u s1 q1 st1 ok1 v1 r1 => ?_, px⟩
  refine ⟨ρ, s1, _, x, rfl, er.step st1 ok1, q1, fun lo s2 q2 st2 ok2 => ?_, px.step st1⟩
  refine ⟨ρ, s2, _, x, rfl, er.step (st1.trans st2) ok2, q2, fun hi s3 q3 st3 ok3 => ?_, px.step (st1.trans st2)⟩
  exact ⟨s3, u, k, rfl, ok3, r1.same (st2.trans st3).same, q3, p.step ((st1.trans st2).trans st3)⟩
def cutD {α : Type} (xs : List α) (lo hi : Option Int) : List α := (xs.drop (HT.sIx xs.length 0 lo)).take (HT.sIx xs.length xs.length hi - HT.sIx xs.length 0 lo)
theorem cut_reps {K : PySem.W.Frag} {G : Hp} {vs : List V} {ds : List D} (r : Reps K G vs ds) (lo hi : Option Int) : Reps K G (cutV vs lo hi) (cutD ds lo hi) := by
  unfold cutV cutD
  rw [r.length]
  exact (r.drop _).take _
def dCut : DSl
  | .lst ds, lo, hi, M, k => k (.lst (cutD ds lo hi)) M
  | .tup ds, lo, hi, M, k => k (.tup (cutD ds lo hi)) M
  | .str z, lo, hi, M, k => z.length ≤ sizeLine ∧ k (.str (cutS z lo hi)) M
  | .scr ns, lo, hi, M, k => k (.lst ((cutD ns lo hi).map .int)) M
  | _, _, _, _, _ => False
theorem cutD_map {α β : Type} (f : α → β) (xs : List α) (lo hi : Option Int) : cutD (xs.map f) lo hi = (cutD xs lo hi).map f := by
  unfold cutD
  rw [List.length_map, List.map_take, List.map_drop]
theorem cutV_map {α : Type} (f : α → V) (xs : List α) (lo hi : Option Int) : cutV (xs.map f) lo hi = (cutD xs lo hi).map f := by
  unfold cutV cutD
  rw [List.length_map, List.map_take, List.map_drop]
theorem cutD_whole {α : Type} {xs : List α} {lo hi : Option Int} (h : HT.sIx xs.length 0 lo = 0 ∧ HT.sIx xs.length xs.length hi = xs.length) : cutD xs lo hi = xs := by
  unfold cutD
  rw [h.1, h.2]
  simp
theorem sl_D : SlR X (rSlD X.K E dCut) := by
  intro pins s σ H x v vl vu lo hi sl Q I rx hs pl pu h
  obtain ⟨s0, dx, k, rfl, ok, hx, q, p⟩ := h
  unfold dCut at q
  split at q
  · obtain ⟨l, vs, rfl, hl, r1⟩ := hx.lst_of
    exact sl_list pins s σ _ _ v vl vu _ _ sl Q I rx hs pl pu ⟨l, vs, rfl, SqL.of (ok.sub _ _ hl), fun t ht => p.lst q ok (cut_reps r1 _ _) ht⟩
  · obtain ⟨l, vs, rfl, hl, r1⟩ := hx.tup_of
    refine sl_tupA pins s σ _ _ v vl vu _ _ sl Q I rx hs pl pu ⟨l, vs, rfl, (Same.seqT ok.sub hl), fun hw => ?_, fun _ t ht => p.tup q ok (cut_reps r1 _ _) ht⟩
    rw [r1.length] at hw
    rw [cutD_whole hw] at q
    exact p.now q ok (.tup hl r1)
  · cases hx
    exact sl_str pins s σ _ _ v vl vu _ _ sl Q I rx hs pl pu ⟨_, rfl, q.1, p.now q.2 ok .str⟩
  · cases hx with
    | scr hl =>
      refine sl_list pins s σ _ _ v vl vu _ _ sl Q I rx hs pl pu ⟨_, _, rfl, Same.seqL ok.sub hl, fun t ht => ?_⟩
      rw [cutV_map]
      exact p.lst q ok (Reps.ints _) ht
  · exact q.elim
/-- o[i] = v of a changing list -/
def dSetIx (τo τi τv : DE) : DS := fun k x ρ M => τv ρ M (fun v M1 => τo ρ M1 (fun o M2 => τi ρ M2 (fun i M3 => ∃ a ds n j, o = .cel a ∧ i = .int n ∧ M3 a = some (.lst ds) ∧ ixN ds.length n = some j ∧ k.nx ρ (mup M3 a (.lst (ds.set j v)))) x) x) x
theorem s_setIx {o i v : Expr} {τo τi τv : DE} {pos' : Pos} (hv : DP X E v τv) (ho : DP X E o τo) (hi : DP X E i τi) (hs : swapsWithSole [.Subscript o i pos'] v pos.line X.env = pure false := by rfl) (hw : swappedStores [.Subscript o i pos'] v X.env = pure none := by rfl)
    (h1 : (assignEach [.Subscript o i pos'] X.env).map (·.2) = [assign (.Subscript o i pos') X.env] := by rfl)
    (hasg : ∀ v, assign (.Subscript o i pos') X.env v = (do
      let ov ← holding [v] (eval o X.env)
      let iv ← holding [v, ov] (eval i X.env)
      standAt pos'
      holding [v, ov, iv] (setItem ov iv v)
      release [v, ov, iv] []) := by intro _; rfl) :
    DPS X E (.Assign [.Subscript o i pos'] v pos) (dSetIx τo τi τv) := ps_mono (ps_asg hv (pg_sub ho hi set_list hasg) hs hw h1) fun D σ H h => by
  obtain ⟨ρ, s, k, x, rfl, er, q, p, px⟩ := h
  refine ⟨ρ, s, _, x, rfl, er, q, fun u s1 q1 st1 ok1 v1 r1 => ?_, px⟩
  refine ⟨ρ, s1, _, x, rfl, er.step st1 ok1, q1, fun w s2 q2 st2 ok2 v2 r2 => ?_, px.step st1⟩
  refine ⟨ρ, s2, _, x, rfl, er.step (st1.trans st2) ok2, q2, fun z s3 q3 st3 ok3 v3 r3 => ?_, px.step (st1.trans st2)⟩
  obtain ⟨a, ds, n, j, rfl, rfl, hm, hj, q3⟩ := q3
  obtain ⟨vs, e, rs⟩ := ok3.cells _ _ hm
  have st : Step s s3 := (st1.trans st2).trans st3
  obtain ⟨k4, st4⟩ := ok3.put (p := a) (o := .lst (vs.set j v1)) (mo := .lst (ds.set j u)) (by rw [hm]; rfl) ⟨_, rfl, Reps.set (r1.same (st2.trans st3).same) j rs⟩
  exact ⟨a, vs, n, j, r2.cel_of, r3.int_of, e, by rw [rs.length]; exact hj, p.nx ρ ⟨_, _, _⟩ q3 (st.trans st4) σ (er.step (st.trans st4) k4)⟩

/-! ### built-ins -/
def dLen : DN
  | [.str z], M, k, _ => z.length ≤ sizeLine ∧ k (.int z.length) M
  | [.lst ds], M, k, _ => k (.int ds.length) M
  | [.tup ds], M, k, _ => k (.int ds.length) M
  | [.scr ns], M, k, _ => k (.int ns.length) M
  | [.cel a], M, k, _ => ∃ ds, M a = some (.lst ds) ∧ k (.int ds.length) M
  | _, _, _, _ => False
theorem c_len : CallR X (.builtin "len") (rA X.K E dLen) := by
  intro pins s σ H xs us Q I r h
  obtain ⟨s0, ds, k, xx, rfl, ok, hx, q, p, px⟩ := h
  unfold dLen at q
  split at q
  · obtain ⟨v, rfl, rv⟩ := hx.one
    cases rv
    exact call_len pins s σ _ _ us Q I r ⟨_, _, rfl, ⟨q.1, rfl⟩, p.now q.2 ok .int⟩
  · obtain ⟨v, rfl, rv⟩ := hx.one
    obtain ⟨l, vs, rfl, hl, r1⟩ := rv.lst_of
    refine call_len pins s σ _ _ us Q I r ⟨_, vs.length, rfl, .inl ⟨vs, SqL.of (ok.sub _ _ hl), rfl⟩, ?_⟩
    rw [r1.length]
    exact p.now q ok .int
  · obtain ⟨v, rfl, rv⟩ := hx.one
    obtain ⟨l, vs, rfl, hl, r1⟩ := rv.tup_of
    refine call_len pins s σ _ _ us Q I r ⟨_, vs.length, rfl, .inr ⟨vs, (Same.seqT ok.sub hl), rfl⟩, ?_⟩
    rw [r1.length]
    exact p.now q ok .int
  · obtain ⟨v, rfl, rv⟩ := hx.one
    cases rv with
    | scr hl =>
      refine call_len pins s σ _ _ us Q I r ⟨_, _, rfl, .inl ⟨_, Same.seqL ok.sub hl, rfl⟩, ?_⟩
      rw [List.length_map]
      exact p.now q ok .int
  · obtain ⟨v, rfl, rv⟩ := hx.one
    cases rv
    obtain ⟨ds, hm, q⟩ := q
    obtain ⟨vs, e, r1⟩ := ok.cells _ _ hm
    refine call_len pins s σ _ _ us Q I r ⟨_, vs.length, rfl, .inl ⟨vs, SqL.of e, rfl⟩, ?_⟩
    rw [r1.length]
    exact p.now q ok .int
  · exact q.elim
def dAbs : DN
  | [.int i], M, k, _ => k (.int (if i < 0 then -i else i)) M
  | _, _, _, _ => False
theorem c_abs : CallR X (.builtin "abs") (rA X.K E dAbs) := by
  intro pins s σ H xs us Q I r h
  obtain ⟨s0, ds, k, xx, rfl, ok, hx, q, p, px⟩ := h
  unfold dAbs at q
  split at q
  · obtain ⟨v, rfl, rv⟩ := hx.one
    cases rv
    exact call_abs pins s σ _ _ us Q I r ⟨_, rfl, p.now q ok .int⟩
  · exact q.elim
def dMin2 : DN
  | [.int i, .int j], M, k, _ => k (.int (if j < i then j else i)) M
  | _, _, _, _ => False
theorem c_min2 (hc : X.calm = true) : CallR X (.builtin "min") (rA X.K E dMin2) := by
  intro pins s σ H xs us Q I r h
  obtain ⟨s0, ds, k, xx, rfl, ok, hx, q, p, px⟩ := h
  unfold dMin2 at q
  split at q
  · obtain ⟨v, w, rfl, rv, rw'⟩ := hx.two
    cases rv; cases rw'
    exact call_min2 hc pins s σ _ _ us Q I r ⟨_, _, rfl, p.now q ok .int⟩
  · exact q.elim
def dInt : DN
  | [.int i], M, k, _ => k (.int i) M
  | [.bl b], M, k, _ => k (.int (if b then 1 else 0)) M
  | _, _, _, _ => False
theorem c_int : CallR X (.type "int") (rA X.K E dInt) := by
  intro pins s σ H xs us Q I r h
  obtain ⟨s0, ds, k, xx, rfl, ok, hx, q, p, px⟩ := h
  unfold dInt at q
  split at q
  · obtain ⟨v, rfl, rv⟩ := hx.one
    cases rv
    exact call_int1 pins s σ _ _ us Q I r (.inl ⟨_, rfl, p.now q ok .int⟩)
  · obtain ⟨v, rfl, rv⟩ := hx.one
    cases rv
    exact call_int1 pins s σ _ _ us Q I r (.inr ⟨_, rfl, p.now q ok .int⟩)
  · exact q.elim
def dStrI : DN
  | [.int i], M, k, _ => i.natAbs.log2 < 1920 ∧ k (.str (toString i)) M
  | _, _, _, _ => False
theorem c_str : CallR X (.type "str") (rA X.K E dStrI) := by
  intro pins s σ H xs us Q I r h
  obtain ⟨s0, ds, k, xx, rfl, ok, hx, q, p, px⟩ := h
  unfold dStrI at q
  split at q
  · obtain ⟨v, rfl, rv⟩ := hx.one
    cases rv
    exact call_str_int pins s σ _ _ us Q I r ⟨_, rfl, q.1, p.now q.2 ok .str⟩
  · exact q.elim
theorem Reps.bls {K : PySem.W.Frag} {G : Hp} : ∀ {bs : List Bool} {vs : List V}, Reps K G vs (bs.map D.bl) → vs = bs.map V.bl
  | [], _, h => by cases h; rfl
  | b :: bs, _, h => by
    cases h with
    | cons h1 h2 =>
      cases h1
      rw [Reps.bls h2]
      rfl
theorem Reps.strs {K : PySem.W.Frag} {G : Hp} : ∀ {bs : List Str} {vs : List V}, Reps K G vs (bs.map D.str) → vs = bs.map V.str
  | [], _, h => by cases h; rfl
  | b :: bs, _, h => by
    cases h with
    | cons h1 h2 =>
      cases h1
      rw [Reps.strs h2]
      rfl
/-- all, any of a list of bools -/
def dAll : DN := fun ds M k _ => ∃ bs : List Bool, ds = [.lst (bs.map .bl)] ∧ k (.bl (bs.all id)) M
def dAny : DN := fun ds M k _ => ∃ bs : List Bool, ds = [.lst (bs.map .bl)] ∧ k (.bl (bs.any id)) M
theorem c_all (hc : X.calm = true) : CallR X (.builtin "all") (rA X.K E dAll) := by
  intro pins s σ H xs us Q I r h
  obtain ⟨s0, ds, k, xx, rfl, ok, hx, ⟨bs, rfl, q⟩, p, px⟩ := h
  obtain ⟨v, rfl, rv⟩ := hx.one
  obtain ⟨l, vs, rfl, hl, r1⟩ := rv.lst_of
  have e := Reps.bls r1
  subst e
  exact cr_all hc pins s σ _ _ us Q I r ⟨l, bs, rfl, SqL.of (ok.sub _ _ hl), p.now q ok .bl⟩
theorem c_any (hc : X.calm = true) : CallR X (.builtin "any") (rA X.K E dAny) := by
  intro pins s σ H xs us Q I r h
  obtain ⟨s0, ds, k, xx, rfl, ok, hx, ⟨bs, rfl, q⟩, p, px⟩ := h
  obtain ⟨v, rfl, rv⟩ := hx.one
  obtain ⟨l, vs, rfl, hl, r1⟩ := rv.lst_of
  have e := Reps.bls r1
  subst e
  exact cr_any hc pins s σ _ _ us Q I r ⟨l, bs, rfl, SqL.of (ok.sub _ _ hl), p.now q ok .bl⟩
/-- list(x) of a list or a tuple -/
def dList : DN
  | [.lst ds], M, k, _ => k (.lst ds) M
  | [.tup ds], M, k, _ => k (.lst ds) M
  | _, _, _, _ => False
theorem c_list : CallR X (.type "list") (rA X.K E dList) := by
  intro pins s σ H xs us Q I r h
  obtain ⟨s0, ds, k, xx, rfl, ok, hx, q, p, px⟩ := h
  unfold dList at q
  split at q
  · obtain ⟨v, rfl, rv⟩ := hx.one
    obtain ⟨l, vs, rfl, hl, r1⟩ := rv.lst_of
    exact call_list_of pins s σ _ _ us Q I r ⟨l, vs, rfl, .inl (SqL.of (ok.sub _ _ hl)), fun t ht => p.lst q ok r1 ht⟩
  · obtain ⟨v, rfl, rv⟩ := hx.one
    obtain ⟨l, vs, rfl, hl, r1⟩ := rv.tup_of
    exact call_list_of pins s σ _ _ us Q I r ⟨l, vs, rfl, .inr ((Same.seqT ok.sub hl)), fun t ht => p.lst q ok r1 ht⟩
  · exact q.elim
/-- tuple(x) -/
def dTuple : DN
  | [.lst ds], M, k, _ => k (.tup ds) M
  | [.tup ds], M, k, _ => k (.tup ds) M
  | _, _, _, _ => False
theorem c_tuple : CallR X (.type "tuple") (rA X.K E dTuple) := by
  intro pins s σ H xs us Q I r h
  obtain ⟨s0, ds, k, xx, rfl, ok, hx, q, p, px⟩ := h
  unfold dTuple at q
  split at q
  · obtain ⟨v, rfl, rv⟩ := hx.one
    obtain ⟨l, vs, rfl, hl, r1⟩ := rv.lst_of
    exact call_tuple_of pins s σ _ _ us Q I r ⟨l, vs, rfl, .inl ⟨SqL.of (ok.sub _ _ hl), fun t ht => p.tup q ok r1 ht⟩⟩
  · obtain ⟨v, rfl, rv⟩ := hx.one
    obtain ⟨l, vs, rfl, hl, r1⟩ := rv.tup_of
    exact call_tuple_of pins s σ _ _ us Q I r ⟨l, vs, rfl, .inr ⟨(Same.seqT ok.sub hl), p.now q ok (.tup hl r1)⟩⟩
  · exact q.elim

/-! ### methods of built-in types -/
def dBM (f : D → List D → Mm → DK → DX → Prop) (τ : DE) (α : DA) : DE := fun ρ M k x => τ ρ M (fun u M1 => α ρ M1 (fun ds M2 => f u ds M2 k x) x) x
def rM (K : PySem.W.Frag) (E : XK) (f : D → List D → Mm → DK → DX → Prop) : V → List V → Hp → VK → Prop := fun x xs H Q => ∃ s dx ds k xx, s.H = H ∧ Ok K s ∧ Rep K s.G x dx ∧ Reps K s.G xs ds ∧ f dx ds s.M k xx ∧ Post K s k Q ∧ PostX K E s xx
/-- the receiver is of the type T: told by a test of the datum -/
def tyD (T : String) : D → Mm → Prop
  | .str _, _ => T = "str"
  | .int _, _ => T = "int"
  | .lst _, _ => T = "list"
  | .cel a, M => T = "list" ∧ ∃ ds, M a = some (.lst ds)
  | _, _ => False
theorem tyV_of {K : PySem.W.Frag} {s : Sta} {T : String} {v : V} {d : D} (ok : Ok K s) (r : Rep K s.G v d) (h : tyD T d s.M) : tyV K T v s.H := by
  cases r with
  | str => exact h
  | int => exact h
  | lst hl r => exact .inl ⟨h, _, SqL.of (ok.sub _ _ hl)⟩
  | cel =>
    obtain ⟨h1, ds, h2⟩ := h
    obtain ⟨vs, e, r1⟩ := ok.cells _ _ h2
    exact .inl ⟨h1, _, SqL.of e⟩
  | _ => exact h.elim
def dBMt (T : String) (f : D → List D → Mm → DK → DX → Prop) (τ : DE) (α : DA) : DE := fun ρ M k x => τ ρ M (fun u M1 => tyD T u M1 ∧ α ρ M1 (fun ds M2 => f u ds M2 k x) x) x
theorem d_bm {T id : String} {name : Str} {apos cpos : Pos} {o : Expr} {τo : DE} {f : D → List D → Mm → DK → DX → Prop} (pa : PlainAttrs T) (slot : Slot T name id) (hty : typeOf (.builtin id) = pure (.type "method_descriptor")) (hm : MtR X id (rM X.K E f)) (ho : DP X E o τo) (ha : DPA X E (e :: es) αa)
    (hbase : attributeBase o name X.env (eval o X.env) = eval o X.env := by rfl)
    (hfew : ((backTo cpos (starEach (e :: es) X.env)).all (fun x => !x.1) && (backToKw cpos (keywordEach [] X.env)).all (fun x => x.1.isSome)
      && decide ((e :: es).length + ([] : List Keyword).length + (if ([] : List Keyword).isEmpty then 0 else 1) < 30)) = true := by rfl)
    (hline : (apos.endLine == cpos.line) = true := by rfl) (hs : starEach (e :: es) X.env = (false, eval e X.env) :: starEach es X.env := by rfl) (hplain : (backTo cpos (starEach es X.env)).any (·.1) = false := by rfl) :
    DP X E (.Call (.Attribute o name apos) (e :: es) [] cpos) (dBMt T f τo αa) := pe_mono (pe_bm pa slot hty hm ho ha hbase hfew hline hs hplain) fun σ H Q h => by
  obtain ⟨ρ, s, k, x, rfl, er, q, p, px⟩ := h
  refine ⟨ρ, s, _, x, rfl, er, q, fun u s1 q1 st1 ok1 v1 r1 => ⟨tyV_of ok1 r1 q1.1, ?_⟩, px⟩
  refine ⟨ρ, s1, _, x, rfl, er.step st1 ok1, q1.2, fun us s2 q2 st2 ok2 vs r2 => ?_, px.step st1⟩
  exact ⟨s2, u, us, k, x, rfl, ok2, r1.same st2.same, r2, q2, p.step (st1.trans st2), px.step (st1.trans st2)⟩
/-- xs.append(y) of a changing list -/
def dAppend : D → List D → Mm → DK → DX → Prop
  | .cel a, [y], M, k, _ => ∃ ds, M a = some (.lst ds) ∧ ds.length < sizeLine ∧ k .non (mup M a (.lst (ds ++ [y])))
  | _, _, _, _, _ => False
theorem m_append : MtR X "list.append" (rM X.K E dAppend) := by
  intro pins s σ H x xs v us Q I rx rs h
  obtain ⟨s0, dx, ds, k, xx, rfl, ok, hx, hxs, q, p, px⟩ := h
  unfold dAppend at q
  split at q
  · cases hx
    obtain ⟨ds, hm, hz, q⟩ := q
    obtain ⟨y, rfl, ry⟩ := hxs.one
    obtain ⟨vs, e, r1⟩ := ok.cells _ _ hm
    obtain ⟨k4, st4⟩ := ok.put (o := .lst (vs ++ [y])) (mo := .lst (ds ++ [_])) (by rw [hm]; rfl) ⟨_, rfl, r1.append (.cons ry .nil)⟩
    exact mt_append pins s σ _ _ _ v us Q I rx rs ⟨_, vs, y, rfl, rfl, e, by rw [r1.length]; exact hz, p _ ⟨_, _, _⟩ q st4 k4 _ .non⟩
  · exact q.elim
/-- xs.insert(i, y) -/
def dInsert : D → List D → Mm → DK → DX → Prop
  | .cel a, [.int i, y], M, k, _ => ∃ ds, M a = some (.lst ds) ∧ ds.length < sizeLine ∧ 0 ≤ i ∧ i < 2 ^ 63 ∧ k .non (mup M a (.lst (ds.take i.toNat ++ [y] ++ ds.drop i.toNat)))
  | _, _, _, _, _ => False
theorem m_insert : MtR X "list.insert" (rM X.K E dInsert) := by
  intro pins s σ H x xs v us Q I rx rs h
  obtain ⟨s0, dx, ds, k, xx, rfl, ok, hx, hxs, q, p, px⟩ := h
  unfold dInsert at q
  split at q
  · cases hx
    obtain ⟨ds, hm, hz, h0, h1, q⟩ := q
    obtain ⟨iv, y, rfl, ri, ry⟩ := hxs.two
    cases ri
    obtain ⟨vs, e, r1⟩ := ok.cells _ _ hm
    obtain ⟨k4, st4⟩ := ok.put (o := .lst (vs.take _ ++ [y] ++ vs.drop _)) (mo := .lst (ds.take _ ++ [_] ++ ds.drop _)) (by rw [hm]; rfl) ⟨_, rfl, ((r1.take _).append (.cons ry .nil)).append (r1.drop _)⟩
    exact mt_insert pins s σ _ _ _ v us Q I rx rs ⟨_, vs, _, y, rfl, rfl, e, by rw [r1.length]; exact hz, h0, h1, p _ ⟨_, _, _⟩ q st4 k4 _ .non⟩
  · exact q.elim
/-- xs.index(y), flat, the first place -/
def firstIx (y : D) : List D → Option Nat
  | [] => none
  | x :: xs => if eqF x y = true then some 0 else (firstIx y xs).map (· + 1)
theorem firstIx_spec {y : D} : ∀ {xs : List D} {j : Nat}, firstIx y xs = some j → (∃ z, xs[j]? = some z ∧ eqF z y = true) ∧ ∀ (m : Nat) z, m < j → xs[m]? = some z → eqF z y = false
  | [], _, h => by cases h
  | x :: xs, j, h => by
    unfold firstIx at h
    split at h
    · rename_i hx
      cases h
      exact ⟨⟨x, rfl, hx⟩, fun m z hm => by omega⟩
    · rename_i hx
      cases e : firstIx y xs with
      | none => rw [e] at h; cases h
      | some i =>
        rw [e] at h
        have hj : j = i + 1 := (Option.some.inj h).symm
        subst hj
        obtain ⟨⟨z, h1, h2⟩, h3⟩ := firstIx_spec e
        refine ⟨⟨z, by simpa using h1, h2⟩, fun m z hm hz => ?_⟩
        cases m with
        | zero =>
          have : x = z := by simpa using hz
          subst this
          simpa using hx
        | succ m => exact h3 m z (by omega) (by simpa using hz)
def dIndex : D → List D → Mm → DK → DX → Prop
  | .lst ds, [y], M, k, _ => flatD y = true ∧ ds.all flatD = true ∧ ∃ j : Nat, firstIx y ds = some j ∧ k (.int j) M
  | _, _, _, _, _ => False
theorem m_index : MtR X "list.index" (rM X.K E dIndex) := by
  intro pins s σ H x xs v us Q I rx rs h
  obtain ⟨s0, dx, ds, k, xx, rfl, ok, hx, hxs, q, p, px⟩ := h
  unfold dIndex at q
  split at q
  · obtain ⟨l, vs, rfl, hl, r1⟩ := hx.lst_of
    obtain ⟨fy, fd, j, hj, q⟩ := q
    obtain ⟨y, rfl, ry⟩ := hxs.one
    obtain ⟨e1, e2⟩ := ry.flat fy
    obtain ⟨_, e4⟩ := inV_of (x := _) e1 r1 fd
    obtain ⟨⟨z, h1, h2⟩, h3⟩ := firstIx_spec hj
    obtain ⟨zv, h4, rz⟩ := r1.get h1
    have fz : flatD z = true := List.all_eq_true.mp fd z (List.mem_of_getElem? h1)
    obtain ⟨e5, e6⟩ := rz.flat fz
    refine mt_index pins s σ _ _ _ v us Q I rx rs ⟨l, vs, y, j, zv, rfl, rfl, SqL.of (ok.sub _ _ hl), e2, e4, h4, ?_, fun m z' hm hz' => ?_, p.now q ok .int⟩
    · rw [e5, e1]; exact h2
    · obtain ⟨d', g1, g2⟩ := r1.getV hz'
      have fz' : flatD d' = true := List.all_eq_true.mp fd d' (List.mem_of_getElem? g1)
      obtain ⟨e7, _⟩ := g2.flat fz'
      rw [e7, e1]
      exact h3 m d' hm g1
  · exact q.elim
/-- sep.join(xs) -/
def dJoin : D → List D → Mm → DK → DX → Prop := fun x ds M k _ => ∃ (a : Str) (ys : List Str), x = .str a ∧ ds = [.lst (ys.map .str)] ∧ (ys.map (·.length)).sum + ys.length * a.length ≤ 16777216 ∧ k (.str (Txt.join a ys)) M
theorem m_join : MtR X "str.join" (rM X.K E dJoin) := by
  intro pins s σ H x xs v us Q I rx rs h
  obtain ⟨s0, dx, ds, k, xx, rfl, ok, hx, hxs, ⟨a, ys, rfl, rfl, hz, q⟩, p, px⟩ := h
  cases hx
  obtain ⟨y, rfl, ry⟩ := hxs.one
  obtain ⟨l, vs, rfl, hl, r1⟩ := ry.lst_of
  have e := Reps.strs r1
  subst e
  exact mt_join pins s σ _ _ _ v us Q I rx rs ⟨a, l, ys, rfl, rfl, .inl (SqL.of (ok.sub _ _ hl)), hz, p.now q ok .str⟩
end
end DL
set_option Elab.async false
set_option linter.all false
set_option maxRecDepth 100000
set_option maxHeartbeats 2000000
namespace DL
open PySem PySem.Spec PyProof.Rows L2

/-! ### kinds of data -/
inductive Kd where
  | non | bl | int | str | lst | tup
  deriving DecidableEq
def Kd.nm : Kd → String
  | .non => "NoneType" | .bl => "bool" | .int => "int" | .str => "str" | .lst => "list" | .tup => "tuple"
def isK (T u : Kd) : Bool := T == u || (T == .int && u == .bl)
theorem kit_K : ∀ (T u : Kd), T ≠ .non → kitB u.nm T.nm = some (isK T u)
  | .non, _, h => absurd rfl h
  | .bl, .non, _ => by decide +kernel
  | .bl, .bl, _ => by decide +kernel
  | .bl, .int, _ => by decide +kernel
  | .bl, .str, _ => by decide +kernel
  | .bl, .lst, _ => by decide +kernel
  | .bl, .tup, _ => by decide +kernel
  | .int, .non, _ => by decide +kernel
  | .int, .bl, _ => by decide +kernel
  | .int, .int, _ => by decide +kernel
  | .int, .str, _ => by decide +kernel
  | .int, .lst, _ => by decide +kernel
  | .int, .tup, _ => by decide +kernel
  | .str, .non, _ => by decide +kernel
  | .str, .bl, _ => by decide +kernel
  | .str, .int, _ => by decide +kernel
  | .str, .str, _ => by decide +kernel
  | .str, .lst, _ => by decide +kernel
  | .str, .tup, _ => by decide +kernel
  | .lst, .non, _ => by decide +kernel
  | .lst, .bl, _ => by decide +kernel
  | .lst, .int, _ => by decide +kernel
  | .lst, .str, _ => by decide +kernel
  | .lst, .lst, _ => by decide +kernel
  | .lst, .tup, _ => by decide +kernel
  | .tup, .non, _ => by decide +kernel
  | .tup, .bl, _ => by decide +kernel
  | .tup, .int, _ => by decide +kernel
  | .tup, .str, _ => by decide +kernel
  | .tup, .lst, _ => by decide +kernel
  | .tup, .tup, _ => by decide +kernel
/-- a kind, or an own class -/
def kdD : D → Mm → Option (Sum Kd Addr)
  | .non, _ => some (.inl .non)
  | .bl _, _ => some (.inl .bl)
  | .int _, _ => some (.inl .int)
  | .str _, _ => some (.inl .str)
  | .lst _, _ => some (.inl .lst)
  | .tup _, _ => some (.inl .tup)
  | .scr _, _ => none
  | .exc _ _ _, _ => none
  | .lam _ _ _ _ _, _ => none
  | .obj C _, _ => some (.inr C)
  | .cel a, M => match M a with
    | some (.lst _) => some (.inl .lst)
    | some (.ins C _) => some (.inr C)
    | some (.tbl _) => none
    | none => none
/-- what a class must have for isinstance -/
structure ClsI (K : PySem.W.Frag) (C : Addr) : Prop where
  cl : Cls K C
  ha : PySem.W.findIn K (.ref C) "__class__" = some (some (.builtin "object.__class__"))
  hn : PySem.W.specialIn K (.builtin "object.__class__") "__get__" = some (some (.builtin "getset_descriptor.__get__"))
  htk : PySem.W.takesIn K (.builtin "object.__class__") = some true
  hm : PySem.W.mroIn K C (.type "object") = some true
theorem tyX_of {K : PySem.W.Frag} {s : Sta} {v : V} {d : D} (ok : Ok K s) (r : Rep K s.G v d) : (∀ u, kdD d s.M = some (.inl u) → TyX K s.H v (.type u.nm)) ∧ ∀ C, kdD d s.M = some (.inr C) → ClsI K C → TyX K s.H v (.ref C) := by
  refine ⟨fun u e => ?_, fun C e c => ?_⟩
  · cases r with
    | non => cases e; exact .base .non
    | bl => cases e; exact .base (.bl _)
    | int => cases e; exact .base (.int _)
    | str => cases e; exact .base (.str _)
    | lst h _ => cases e; exact .base (.lst (ok.sub _ _ h))
    | tup h _ =>
      cases e
      rcases Same.seqT ok.sub h with (h | ⟨o, h⟩) | ⟨o, its, n, h, hc, _⟩
      · exact .base (.tup h)
      · exact .fTuple h
      · exact .kTuple h hc
    | obj h _ => cases e
    | scr h => cases e
    | exc h r => cases e
    | lam h hc ht => cases e
    | @cel a =>
      simp only [kdD] at e
      split at e
      · rename_i ds hm
        cases e
        obtain ⟨vs, e, _⟩ := ok.cells _ _ hm
        exact .base (.lst e)
      · cases e
      · cases e
      · cases e
  · cases r with
    | non => cases e
    | bl => cases e
    | int => cases e
    | str => cases e
    | lst h _ => cases e
    | tup h _ => cases e
    | obj h _ => cases e; exact .base (.ins (ok.sub _ _ h) c.cl c.ha c.hn c.htk c.hm)
    | scr h => cases e
    | exc h r => cases e
    | lam h hc ht => cases e
    | @cel a =>
      simp only [kdD] at e
      split at e
      · cases e
      · rename_i C' fs hm
        cases e
        obtain ⟨dx, fvs, e, _⟩ := ok.cells _ _ hm
        exact .base (.ins e c.cl c.ha c.hn c.htk c.hm)
      · cases e
      · cases e
def dIsiB (T : Kd) (CS : List Addr) : D1 := fun u M k _ => match kdD u M with
  | some (.inl u') => k (.bl (isK T u')) M
  | some (.inr C) => C ∈ CS ∧ k (.bl false) M
  | none => False
def dIsiC (C0 : Addr) (CS : List Addr) : D1 := fun u M k _ => match kdD u M with
  | some (.inl _) => k (.bl false) M
  | some (.inr C) => C ∈ CS ∧ k (.bl (decide (C = C0))) M
  | none => False
section
variable {X : Cx} {E : XK} {e a b c : Expr} {p pos : Pos} {τa τb τc : DE} {αa : DA} {es : List Expr}
/-- isinstance(e, T), T a built-in class -/
theorem d_isi {q : Pos} {x : Str} (T : Kd) (CS : List Addr) (hT : T ≠ .non) (hC : ∀ C ∈ CS, ClsI X.K C ∧ PySem.W.kitOne X.K (.ref C) (.type T.nm) = some false) (hg : Gl X "isinstance") (hm : X.mg "isinstance" = none) (hgT : Gl X x) (hmT : X.mg x = none) (hvT : bootBuiltins x = some (.type T.nm)) (he : DP X E e τa)
    (hn : x ≠ "__name__" := by decide) (hd : (x == ("__debug__" : Str)) = false := by decide) (hs : starEach [e, .Name x q] X.env = (false, eval e X.env) :: starEach [.Name x q] X.env := by rfl) (hs2 : starEach [.Name x q] X.env = (false, eval (.Name x q) X.env) :: starEach [] X.env := by rfl) (hpl : (backTo pos (starEach [.Name x q] X.env)).any (·.1) = false := by rfl) :
    DP X E (.Call (.Name "isinstance" p) [e, .Name x q] [] pos) (dUn (dIsiB T CS) τa) :=
  pe_mono (pe_callB call_isi hg hm (by decide +kernel) (pa_cons he (pa_cons (pe_bltn (v := .ty T.nm) hgT hmT hvT rfl hn hd) pa_nil hs2) hs) (by decide) (by decide) hs hpl) fun σ H Q h => by
    obtain ⟨ρ, s, k, xx, rfl, er, q, pp, px⟩ := h
    refine ⟨ρ, s, _, xx, rfl, er, q, fun u s1 q1 st1 ok1 v1 r1 => ?_, px⟩
    obtain ⟨t1, t2⟩ := tyX_of ok1 r1
    change dIsiB T CS u s1.M k xx at q1
    unfold dIsiB at q1
    split at q1
    · rename_i u' hu
      exact ⟨v1, .ty T.nm, .type u'.nm, .type T.nm, isK T u', rfl, .ty _, t1 u' hu, kit_ty (kit_K T u' hT), pp _ s1 q1 st1 ok1 _ .bl⟩
    · rename_i C hu
      obtain ⟨c1, c2⟩ := hC C q1.1
      exact ⟨v1, .ty T.nm, .ref C, .type T.nm, false, rfl, .ty _, t2 C hu c1, c2, pp _ s1 q1.2 st1 ok1 _ .bl⟩
    · exact q1.elim
/-- isinstance(e, C0), C0 an own class -/
theorem d_isiC {q : Pos} {x : Str} (C0 : Addr) (CS : List Addr) (hC : ∀ C ∈ CS, ClsI X.K C ∧ PySem.W.kitOne X.K (.ref C) (.ref C0) = some (decide (C = C0))) (hB : ∀ u : Kd, PySem.W.kitOne X.K (.type u.nm) (.ref C0) = some false) (hg : Gl X "isinstance") (hm : X.mg "isinstance" = none) (hgT : Gl X x) (hmT : X.mg x = some (.ref C0)) (he : DP X E e τa)
    (hd : (x == ("__debug__" : Str)) = false := by decide) (hs : starEach [e, .Name x q] X.env = (false, eval e X.env) :: starEach [.Name x q] X.env := by rfl) (hs2 : starEach [.Name x q] X.env = (false, eval (.Name x q) X.env) :: starEach [] X.env := by rfl) (hpl : (backTo pos (starEach [.Name x q] X.env)).any (·.1) = false := by rfl) :
    DP X E (.Call (.Name "isinstance" p) [e, .Name x q] [] pos) (dUn (dIsiC C0 CS) τa) :=
  pe_mono (pe_callB call_isi hg hm (by decide +kernel) (pa_cons he (pa_cons (pe_glob (v := .ref C0) hgT hmT rfl hd) pa_nil hs2) hs) (by decide) (by decide) hs hpl) fun σ H Q h => by
    obtain ⟨ρ, s, k, xx, rfl, er, q, pp, px⟩ := h
    refine ⟨ρ, s, _, xx, rfl, er, q, fun u s1 q1 st1 ok1 v1 r1 => ?_, px⟩
    obtain ⟨t1, t2⟩ := tyX_of ok1 r1
    change dIsiC C0 CS u s1.M k xx at q1
    unfold dIsiC at q1
    split at q1
    · rename_i u' hu
      exact ⟨v1, .ref C0, .type u'.nm, .ref C0, false, rfl, .own _, t1 u' hu, hB u', pp _ s1 q1 st1 ok1 _ .bl⟩
    · rename_i C hu
      obtain ⟨c1, c2⟩ := hC C q1.1
      exact ⟨v1, .ref C0, .ref C, .ref C0, _, rfl, .own _, t2 C hu c1, c2, pp _ s1 q1.2 st1 ok1 _ .bl⟩
    · exact q1.elim

end

/-! ### small facts for printed terms -/
theorem d_globE {X : Cx} {E : XK} {x : Str} {d : D} {pos : Pos} (hg : Gl X x) (hm : ∃ u, X.mg x = some u ∧ KC d u) (hd : (x == ("__debug__" : Str)) = false := by decide) : DP X E (.Name x pos) (dC d) := by
  obtain ⟨u, h1, h2⟩ := hm
  exact d_glob hg h1 h2 hd
theorem boot_len' : bootBuiltins "len" = some (.builtin "len") := by decide +kernel
theorem boot_abs' : bootBuiltins "abs" = some (.builtin "abs") := by decide +kernel
theorem boot_all' : bootBuiltins "all" = some (.builtin "all") := by decide +kernel
theorem boot_any' : bootBuiltins "any" = some (.builtin "any") := by decide +kernel
theorem boot_min' : bootBuiltins "min" = some (.builtin "min") := by decide +kernel
theorem boot_int' : bootBuiltins "int" = some (.type "int") := by decide +kernel
theorem boot_list' : bootBuiltins "list" = some (.type "list") := by decide +kernel
theorem boot_tuple' : bootBuiltins "tuple" = some (.type "tuple") := by decide +kernel
theorem boot_str' : bootBuiltins "str" = some (.type "str") := by decide +kernel
theorem boot_bool' : bootBuiltins "bool" = some (.type "bool") := by decide +kernel
theorem fund_mk {K : PySem.W.Frag} {x qual : Str} {params : Arguments} {body : List Stmt} {scope : Scope} {f : Addr} {oc : Value} {od an : Option Addr} {osl : Array (Option Value)} {kV doc pm cdv ct : Value} (l : K.lookup f = some ⟨oc, od, .func (PySem.W.fnOf x qual params body scope .none kV doc pm an cdv ct), osl⟩)
    (c : PySem.W.codeIn K cdv qual = true) (k : PySem.W.keepIn K (.ref f) = true) : FunD K x qual params body scope [] [] f (PySem.W.fnOf x qual params body scope .none kV doc pm an cdv ct) :=
  ⟨⟨oc, od, .none, kV, doc, pm, an, cdv, ct, osl, rfl, l, c, .inl ⟨rfl, rfl⟩, .inl rfl⟩, k⟩
theorem kbd_of {K : PySem.W.Frag} {x qual : Str} {params : Arguments} {body : List Stmt} {scope : Scope} {f : Addr} {fd : FuncData} {ps : List Str} {n : Nat} (F : FunD K x qual params body scope [] [] f fd) (hn : n = ps.length)
    (h : ∀ (kV doc pm : Value) (an : Option Addr) (cdv ct : Value) (us : List Value), us.length = ps.length → bindArgs (PySem.W.fnOf x qual params body scope .none kV doc pm an cdv ct) ⟨us, []⟩ = pure (ps.zip us)) : KBd K fd ps n [] (fun us _ => us) := by
  obtain ⟨oc, od, dV, kV, doc, pm, an, cdv, ct, osl, rfl, lk, hcd, hD, hK⟩ := F.ex
  rcases hD with ⟨_, rfl⟩ | ⟨e, _⟩
  · exact kbd_plain hn (h kV doc pm an cdv ct)
  · exact absurd rfl e
theorem kbdk_of {K : PySem.W.Frag} {x qual : Str} {params : Arguments} {body : List Stmt} {scope : Scope} {f : Addr} {fd : FuncData} {ps ks : List Str} {n : Nat} (F : FunD K x qual params body scope [] [] f fd) (l : List (Sum Nat Nat))
    (h : ∀ (kV doc pm : Value) (an : Option Addr) (cdv ct : Value) (us ws : List Value), us.length = n → ws.length = ks.length → bindArgs (PySem.W.fnOf x qual params body scope .none kV doc pm an cdv ct) ⟨us, ks.zip ws⟩ = pure (ps.zip (pickA us ws l))) : KBd K fd ps n ks (fun us ws => pickA us ws l) := by
  obtain ⟨oc, od, dV, kV, doc, pm, an, cdv, ct, osl, rfl, lk, hcd, hD, hK⟩ := F.ex
  rcases hD with ⟨_, rfl⟩ | ⟨e, _⟩
  · exact kbd_kw l (h kV doc pm an cdv ct)
  · exact absurd rfl e
theorem isiB_inl {T v : Kd} {CS : List Addr} {u : D} {M : Mm} {k : DK} {x : DX} (h : kdD u M = some (.inl v)) (q : k (.bl (isK T v)) M) : dIsiB T CS u M k x := by
  unfold dIsiB
  rw [h]
  exact q
theorem isiB_inr {T : Kd} {C : Addr} {CS : List Addr} {u : D} {M : Mm} {k : DK} {x : DX} (h : kdD u M = some (.inr C)) (hc : C ∈ CS) (q : k (.bl false) M) : dIsiB T CS u M k x := by
  unfold dIsiB
  rw [h]
  exact ⟨hc, q⟩
theorem isiC_inl {C0 : Addr} {v : Kd} {CS : List Addr} {u : D} {M : Mm} {k : DK} {x : DX} (h : kdD u M = some (.inl v)) (q : k (.bl false) M) : dIsiC C0 CS u M k x := by
  unfold dIsiC
  rw [h]
  exact q
theorem isiC_inr {C0 C : Addr} {CS : List Addr} {u : D} {M : Mm} {k : DK} {x : DX} (h : kdD u M = some (.inr C)) (hc : C ∈ CS) (q : k (.bl (decide (C = C0))) M) : dIsiC C0 CS u M k x := by
  unfold dIsiC
  rw [h]
  exact ⟨hc, q⟩
theorem ite_of {c : Prop} [Decidable c] {A B : Prop} (h1 : c → A) (h2 : ¬ c → B) : if decide c = true then A else B := by
  by_cases h : c
  · rw [if_pos (decide_eq_true h)]
    exact h1 h
  · rw [if_neg (fun z => h (of_decide_eq_true z))]
    exact h2 h
theorem ite_b {c : Bool} {A B : Prop} (h1 : c = true → A) (h2 : c = false → B) : if c = true then A else B := by
  cases c with
  | true => rw [if_pos rfl]; exact h1 rfl
  | false => rw [if_neg Bool.false_ne_true]; exact h2 rfl
/-- a comprehension's turns: no test, the element is told for each item and changes nothing -/
theorem lc_map {γ : DG} {ε : DE} {vs : List Nat} {ρ : DEnv} {M : Mm} {k : DK} {ds : List D} (f : D → D) (hl : ds.length < sizeLine)
    (he : ∀ d ∈ ds, ∀ K : DK, K (f d) M → γ d (wipeD ρ vs) M fun ρ1 M2 => ε ρ1 M2 K (fun _ _ _ => False))
    (gm : ∀ d (K K' : DEnv → Mm → Prop), (∀ ρ M, K ρ M → K' ρ M) → γ d (wipeD ρ vs) M K → γ d (wipeD ρ vs) M K') (hk : k (.lst (ds.map f)) M) : LcK γ dYes ε vs ρ ds M k := by
  refine .of hl (fun j acc M' => M' = M ∧ acc = (ds.take j).map f) ⟨rfl, rfl⟩ (fun j d acc M' hd ⟨e1, e2⟩ => ?_) (fun acc M' ⟨e1, e2⟩ => ?_)
  · subst e1 e2
    have hn : List.map f (List.take j ds) ++ [f d] = List.map f (List.take (j + 1) ds) := by
      rw [List.take_succ, hd]
      simp
    refine gm d _ _ (fun ρ1 M2 hh => ?_) (he d (List.mem_of_getElem? hd) (fun y M4 => M4 = M' ∧ List.map f (List.take j ds) ++ [y] = List.map f (List.take (j + 1) ds)) ⟨rfl, hn⟩)
    unfold dYes
    dsimp only
    rw [if_pos rfl]
    exact hh
  · subst e1 e2
    rw [List.take_length]
    exact hk
theorem gN_mono {i : Nat} {d : D} {ρ : DEnv} {M : Mm} (K K' : DEnv → Mm → Prop) (h : ∀ ρ M, K ρ M → K' ρ M) (q : gN i d ρ M K) : gN i d ρ M K' := h _ _ q
theorem eqD_int (i j : Int) : EqD (.int i) (.int j) (decide (i = j)) := by
  have h : EqD (.int i) (.int j) (decide (toV (.int i) = toV (.int j))) := .sc rfl rfl rfl
  have e : decide (toV (.int i) = toV (.int j)) = decide (i = j) := by
    by_cases c : i = j
    · subst c; simp
    · rw [decide_eq_false c]
      exact decide_eq_false fun z => c (by injection z)
  rw [← e]
  exact h
theorem eqD_str (i j : Str) : EqD (.str i) (.str j) (decide (i = j)) := by
  have h : EqD (.str i) (.str j) (decide (toV (.str i) = toV (.str j))) := .sc rfl rfl rfl
  have e : decide (toV (.str i) = toV (.str j)) = decide (i = j) := by
    by_cases c : i = j
    · subst c; simp
    · rw [decide_eq_false c]
      exact decide_eq_false fun z => c (by injection z)
  rw [← e]
  exact h
theorem eqD_bl (i j : Bool) : EqD (.bl i) (.bl j) (decide (i = j)) := by
  have h : EqD (.bl i) (.bl j) (decide (toV (.bl i) = toV (.bl j))) := .sc rfl rfl rfl
  have e : decide (toV (.bl i) = toV (.bl j)) = decide (i = j) := by
    by_cases c : i = j
    · subst c; simp
    · rw [decide_eq_false c]
      exact decide_eq_false fun z => c (by injection z)
  rw [← e]
  exact h
theorem eqD_non : EqD .non .non true := by
  have h : EqD .non .non (decide (toV .non = toV .non)) := .sc rfl rfl rfl
  exact h
theorem eqI {i j : Int} {M : Mm} {k : DK} (q : k (.bl (decide (i = j))) M) : EqK (.int i) (.int j) M k := .of (eqD_int i j) q
theorem neI {i j : Int} {M : Mm} {k : DK} (q : k (.bl (!decide (i = j))) M) : NeK (.int i) (.int j) M k := .of (eqD_int i j) q
theorem eqP {a b : D} {p r : PyData} {M : Mm} {k : DK} (h1 : toP a = some p) (h2 : toP b = some r) (h3 : SeqAt.shaped p = true) (h4 : SeqAt.shaped r = true) (q : k (.bl (PyData.eqv p r)) M) : EqK a b M k := .of (.py h1 h2 h3 h4) q
theorem neP {a b : D} {p r : PyData} {M : Mm} {k : DK} (h1 : toP a = some p) (h2 : toP b = some r) (h3 : SeqAt.shaped p = true) (h4 : SeqAt.shaped r = true) (q : k (.bl (!PyData.eqv p r)) M) : NeK a b M k := .of (.py h1 h2 h3 h4) q
/-- the kind of plain data -/
def kd : D → Option Kd
  | .non => some .non
  | .bl _ => some .bl
  | .int _ => some .int
  | .str _ => some .str
  | .lst _ => some .lst
  | .tup _ => some .tup
  | _ => none
theorem kdD_of {u : D} {v : Kd} (h : kd u = some v) (M : Mm) : kdD u M = some (.inl v) := by
  cases u <;> first | (cases h; rfl) | cases h
theorem kd_str {u : D} (h : kd u = some .str) : ∃ z, u = .str z := by
  cases u <;> first | exact ⟨_, rfl⟩ | cases h
theorem kd_tup {u : D} (h : kd u = some .tup) : ∃ z, u = .tup z := by
  cases u <;> first | exact ⟨_, rfl⟩ | cases h
theorem kd_int {u : D} (h : kd u = some .int) : ∃ z, u = .int z := by
  cases u <;> first | exact ⟨_, rfl⟩ | cases h
/-- a block cut behind its first statement: R is what holds there -/
def dCutS (t u : DS) : DS := fun k x ρ M => ∃ R : DEnv → Mm → Prop, t { k with nx := R } x ρ M ∧ ∀ ρ M, R ρ M → u k x ρ M
theorem b_cut {X : Cx} {E : XK} {st : Stmt} {sts : List Stmt} {τs τt : DS} (h1 : DPS X E st τs) (h2 : DPB X E sts τt) : DPB X E (st :: sts) (dCutS τs τt) := pss_mono (pss_cons h1 h2) fun D σ H h => by
  obtain ⟨ρ, s, k, x, rfl, er, ⟨R, q, qr⟩, p, px⟩ := h
  refine ⟨ρ, s, _, x, rfl, er, q, ⟨fun ρ1 s1 q1 st1 σ1 er1 => ?_, p.rt, p.bk, p.ct⟩, px⟩
  exact ⟨ρ1, s1, k, x, rfl, er1, qr ρ1 s1.M q1, p.step st1, px.step st1⟩
end DL
set_option Elab.async false
set_option linter.all false
set_option maxRecDepth 100000
namespace DL
open PySem PySem.Spec PyProof.Rows L2
/-- the end: a law's promise in data gives the walk -/
theorem walk_D {l : PySem.W.OpenLaw} {k : Nat} {q : Program} {loose : List Str} {XP : (Str → Option Value) → Heap → Prop} {YP : World → Heap → Prop} {d : DefRec} {K : Params → PySem.W.Frag} {φ : Ct} {x : Str}
    (hn : l.most = some 63) (hdf : d.params.defaults = []) (hr : Room k callerA)
    (hφ : ∀ (ns : List Int) (M : Mm) (kk : DK) (xx : DX), ns.length ≤ 63 → (∀ z ∈ ns, Builtin.Int.intBits z ≤ 1048576) → (∀ a, M a = none) → (∀ M', kk (.bl true) M') → φ [.scr ns] M kk xx)
    (hY : ∀ (w : World) (h : Heap), YP w h → (K w.params).In h)
    (F : ∀ (w : World) (mg : Str → Option Value) (fa : Addr) (h : Heap), (K w.params).In h → h.Ns mainGlobals mg → mg d.name = some (.ref fa) →
      ∃ fd : FuncData, (∀ (s : Shared) (u : Value), BindsTo s fd ⟨[u], []⟩ [(x, u)]) ∧
        ∀ base : Heap, (K w.params).In base → base.Ns mainGlobals mg → FnOk l.prog w (K w.params) mg base (L2.CX l.prog w) k fa fd [x] (spD (K w.params) 1 φ)) :
    PySem.W.WalkO q loose XP YP l.row.toRowW d [] (fun f vs => PySem.call f vs) :=
  L2.walk_ofB (n := 63) (k := k) (x := x) (CX := fun w => L2.CX l.prog w) (sp := fun w => spD (K w.params) 1 φ) hn (by decide) hdf hr hY F
    (fun w H a ns hl hb _ hS => ⟨⟨H, H, fun _ => none⟩, [.scr ns], fun d _ => d = .bl true, fun _ _ _ => False, rfl, ⟨Same.refl _, nofun, nofun⟩, .cons (.scr hS) .nil, rfl,
      hφ ns _ _ _ hl hb (fun _ => rfl) (fun _ => rfl), fun d t e _ _ v r => by subst e; cases r; rfl, fun C fs t h => h.elim⟩)
    fun w H s e s' h => by
      obtain ⟨_, _, _, _, _, _, _, _, _, _, _, _, z⟩ := h
      exact z
end DL
set_option Elab.async false
set_option linter.all false
set_option maxRecDepth 100000
set_option maxHeartbeats 2000000
namespace DL
open PySem PySem.Spec PyProof.Rows L2
/-! ### instances -/
/-- an instance: its class and what it holds -/
def insOf : D → Mm → Option (Addr × List (Str × D))
  | .obj C fs, _ => some (C, fs)
  | .cel a, M => match M a with
    | some (.ins C fs) => some (C, fs)
    | _ => none
  | _, _ => none
theorem ins_of {K : PySem.W.Frag} {s : Sta} {v : V} {d : D} {C : Addr} {fs : List (Str × D)} (ok : Ok K s) (r : Rep K s.G v d) (h : insOf d s.M = some (C, fs)) : ∃ a dx fvs, v = .ref a ∧ s.H a = some (.ins C dx fvs) ∧ FRep K s.G fvs fs := by
  cases r with
  | obj h1 r1 => cases h; exact ⟨_, _, _, rfl, ok.sub _ _ h1, r1⟩
  | @cel a =>
    simp only [insOf] at h
    split at h
    · rename_i C' fs' hm
      cases h
      obtain ⟨dx, fvs, e, rf⟩ := ok.cells _ _ hm
      exact ⟨a, dx, fvs, rfl, e, rf⟩
    · cases h
  | _ => cases h
theorem insOf_cel {M : Mm} {p : Addr} {C : Addr} {fs : List (Str × D)} (h : M p = some (.ins C fs)) : insOf (.cel p) M = some (C, fs) := by
  simp only [insOf, h]
def dFld (CS : List Addr) (f : Str) : D1 := fun u M k _ => ∃ C fs d, insOf u M = some (C, fs) ∧ C ∈ CS ∧ fs.lookup f = some d ∧ k d M
section
variable {X : Cx} {E : XK} {e o v : Expr} {f : Str} {pos pos' : Pos} {τ τo τv : DE}
theorem d_fld (CS : List Addr) (hc : ∀ C ∈ CS, Cls X.K C ∧ NoAttr X.K C f) (he : DP X E e τ) (hb : attributeBase e f X.env (eval e X.env) = eval e X.env := by rfl) : DP X E (.Attribute e f pos) (dUn (dFld CS f) τ) := pe_mono (pe_fld he hb) fun σ H Q h => by
  obtain ⟨ρ, s, k, x, rfl, er, q, p, px⟩ := h
  refine ⟨ρ, s, _, x, rfl, er, q, fun u s1 q1 st1 ok1 v1 r1 => ?_, px⟩
  obtain ⟨C, fs, d, hi, hC, hl, q1⟩ := q1
  obtain ⟨a, dx, fvs, rfl, ha, rf⟩ := ins_of ok1 r1 hi
  obtain ⟨v, hv, rv⟩ := rf.get hl
  exact ⟨a, C, dx, fvs, v, rfl, ha, (hc C hC).1, (hc C hC).2, hv, p d s1 q1 st1 ok1 v rv⟩
theorem FRep.put {K : PySem.W.Frag} {G : Hp} {f : Str} {v : V} {d : D} (r : Rep K G v d) : ∀ {vs : List (Str × V)} {ds : List (Str × D)}, FRep K G vs ds → FRep K G (putF f v vs) (putD f d ds)
  | _, _, .nil => .cons r .nil
  | _, _, .cons (f := g) h t => by
    unfold putF putD
    by_cases e : g = f
    · subst e
      rw [if_pos rfl, if_pos rfl]
      exact .cons r t
    · rw [if_neg e, if_neg e]
      exact .cons h (FRep.put r t)
/-- o.f = v of an instance in the making -/
def dSetFld (CS : List Addr) (f : Str) (τo τv : DE) : DS := fun k x ρ M => τv ρ M (fun u M1 => τo ρ M1 (fun w M2 => ∃ a C fs, w = .cel a ∧ M2 a = some (.ins C fs) ∧ C ∈ CS ∧ fs.length < 1000 ∧ k.nx ρ (mup M2 a (.ins C (putD f u fs)))) x) x
theorem s_fld (CS : List Addr) (hc : ∀ C ∈ CS, Cls X.K C ∧ NoAttr X.K C f) (hv : DP X E v τv) (ho : DP X E o τo) (hs : swapsWith v (some (.Attribute o f pos')) pos.line X.env = pure false := by rfl) :
    DPS X E (.Assign [.Attribute o f pos'] v pos) (dSetFld CS f τo τv) := ps_mono (ps_fld ho hv hs) fun D σ H h => by
  obtain ⟨ρ, s, k, x, rfl, er, q, p, px⟩ := h
  refine ⟨ρ, s, _, x, rfl, er, q, fun u s1 q1 st1 ok1 v1 r1 => ?_, px⟩
  refine ⟨ρ, s1, _, x, rfl, er.step st1 ok1, q1, fun w s2 q2 st2 ok2 v2 r2 => ?_, px.step st1⟩
  obtain ⟨a, C, fs, rfl, hm, hC, hl, q2⟩ := q2
  obtain ⟨dx, fvs, e, rf⟩ := ok2.cells _ _ hm
  have st : Step s s2 := st1.trans st2
  obtain ⟨k4, st4⟩ := ok2.put (p := a) (o := .ins C dx (putF f v1 fvs)) (mo := .ins C (putD f u fs)) (by rw [hm]; rfl) ⟨_, _, rfl, rf.put (r1.same st2.same)⟩
  exact ⟨a, C, dx, fvs, r2.cel_of, e, (hc C hC).1, (hc C hC).2, by rw [rf.length]; exact hl, p.nx ρ ⟨_, _, _⟩ q2 (st.trans st4) σ (er.step (st.trans st4) k4)⟩
end
/-! ### a new instance -/
/-- the instance's making: its __init__ at a fresh cell; what it holds then is frozen -/
def mkC (C : Addr) (φ : Ct) (gD : List D → List D → List D) (ds zs : List D) (M : Mm) (k : DK) (x : DX) : Prop :=
  ∀ p, M p = none → φ (gD (.cel p :: ds) zs) (mup M p (.ins C [])) (fun d M2 => d = .non ∧ ∃ fs, M2 p = some (.ins C fs) ∧ k (.obj C fs) (mdel M2 p)) (fun D fs M2 => x D fs (mdel M2 p))
def dMake (C : Addr) (n m : Nat) (φ : Ct) (gD : List D → List D → List D) (α κ : DA) : DE := fun ρ M k x => α ρ M (fun ds M1 => κ ρ M1 (fun zs M2 => ds.length = n ∧ zs.length = m ∧ mkC C φ gD ds zs M2 k x) x) x
theorem Ok.drop {K : PySem.W.Frag} {b s : Sta} {p : Addr} (k : Ok K s) (st : Step b s) (hb : b.H p = none) (hbm : b.M p = none) : Ok K ⟨s.H, s.G, mdel s.M p⟩ ∧ Step b ⟨s.H, s.G, mdel s.M p⟩ := by
  have ne : ∀ a mo, mdel s.M p a = some mo → a ≠ p := fun a mo e z => by subst z; rw [mdel_same] at e; cases e
  refine ⟨⟨k.sub, fun a mo e => ?_, fun a mo e => ?_⟩, ⟨st.same, fun a h => ?_, fun a o h1 h2 h3 => ?_⟩⟩
  · have e' : mdel s.M p a = some mo := e
    have z := ne a mo e'
    rw [mdel_ne z] at e'
    exact k.apart a mo e'
  · have e' : mdel s.M p a = some mo := e
    have z := ne a mo e'
    rw [mdel_ne z] at e'
    exact k.cells a mo e'
  · have z : a ≠ p := fun z => by subst z; rw [hbm] at h; cases h
    show (mdel s.M p a).isSome = true
    rw [mdel_ne z]
    exact st.dom a h
  · have z : a ≠ p := fun z => by subst z; rw [hb] at h1; cases h1
    obtain ⟨x1, x2, x3⟩ := st.hid a o h1 h2 h3
    refine ⟨x1, x2, ?_⟩
    show mdel s.M p a = none
    rw [mdel_ne z]
    exact x3
section
variable {X : Cx} {CX : CXT} {E : XK} {k n nn : Nat} {f C : Addr} {fd : FuncData} {ps ks : List Str} {φ : Ct} {x m : Str} {p pos apos : Pos} {e o : Expr} {es : List Expr} {kws : List Keyword} {αa ακ : DA} {τo τv : DE} {gD : List D → List D → List D}
theorem mk_sp {K : PySem.W.Frag} {gV : List V → List V → List V} {s0 : Sta} {ds zd : List D} {vs zs : List V} {kk : DK} {xx : DX} {Q : VK}
    (hrep : ∀ {G : Hp} {vs : List V} {us : List D} {zs : List V} {ws : List D}, Reps K G vs us → Reps K G zs ws → us.length = n + 1 → ws.length = ks.length → Reps K G (gV vs zs) (gD us ws))
    (hgl : ∀ us ws : List D, us.length = n + 1 → ws.length = ks.length → (gD us ws).length = nn)
    (ok : Ok K s0) (r1 : Reps K s0.G vs ds) (r2 : Reps K s0.G zs zd) (l1 : ds.length = n) (l2 : zd.length = ks.length) (q : mkC C φ gD ds zd s0.M kk xx) (pp : Post K s0 kk Q) (px : PostX K E s0 xx) :
    ∀ y dx, s0.H y = none → s0.H dx = none → dx ≠ y → spD K nn φ (gV (.ref y :: vs) zs) (upd (upd s0.H dx (.own y)) y (.ins C dx [])) (fun v H3 => v = .non ∧ Q (.ref y) H3) E := by
  intro y dx hy hdx hne
  obtain ⟨oka, sta⟩ := ok.hide (o := .own y) (Step.refl s0) hdx (ok.freeG hdx) (ok.freeM hdx)
  have hy1 : upd s0.H dx (.own y) y = none := by rw [upd_ne (Ne.symm hne)]; exact hy
  obtain ⟨okb, stb⟩ := oka.newM (p := y) (o := .ins C dx []) (mo := .ins C []) hy1 ⟨dx, [], rfl, .nil⟩
  have hym : s0.M y = none := ok.freeM hy
  have sg : Same s0.G s0.G := Same.refl _
  refine ⟨_, gD (.cel y :: ds) zd, _, _, rfl, okb, hrep (.cons .cel r1) r2 (by rw [List.length_cons, l1]) l2, hgl _ _ (by rw [List.length_cons, l1]) l2, q y hym, ?_, ?_⟩
  · rintro d t ⟨rfl, fs, hm, q2⟩ st okt v rv
    cases rv
    refine ⟨rfl, ?_⟩
    obtain ⟨dx', fvs, ho, rf⟩ := okt.cells _ _ hm
    have st0 : Step s0 t := (sta.trans stb).trans st
    obtain ⟨k2, st2, sm⟩ := okt.freeze st0 hy hym (by rw [hm]; rfl) ho
    exact pp _ ⟨_, _, _⟩ q2 st2 k2 _ (.obj upd_same (rf.same sm))
  · intro D fs t h st okt dx' fvs h1 h2 h3 hn h4
    have st0 : Step s0 t := (sta.trans stb).trans st
    obtain ⟨k2, st2⟩ := okt.drop st0 hy hym
    refine px D fs ⟨_, _, _⟩ h st2 k2 dx' fvs h1 h2 ?_ (fun ⟨o, z1, z2, z3⟩ => hn ⟨o, (sta.trans stb).hid dx' o z1 z2 z3⟩) h4
    show mdel t.M y dx' = none
    unfold mdel
    split
    · rfl
    · exact h3
theorem d_make (Mk : Mk X.K C f) (F : FnOk X.prog X.w X.K X.mg X.base CX k f fd ps (spD X.K nn φ)) (hr : Room (k + 1) X.A) (hg : Gl X x) (hm : X.mg x = some (.ref C)) (hb : KBd X.K fd ps (n + 1) ks gD) (hgl : ∀ us ws : List D, us.length = n + 1 → ws.length = ks.length → (gD us ws).length = nn) (hx : Passes CX X E)
    (ha : DPA X E (e :: es) αa) (hkw : DPK X E kws ακ) (hall : (backToKw pos (keywordEach kws X.env)).all (·.1.isSome) = true := by rfl) (hks : (backToKw pos (keywordEach kws X.env)).filterMap (·.1) = ks := by rfl)
    (hdb : (x == ("__debug__" : Str)) = false := by decide) (he : starEach (e :: es) X.env = (false, eval e X.env) :: starEach es X.env := by rfl)
    (hpl : ((backTo pos (starEach (e :: es) X.env)).any (·.1) || (backToKw pos (keywordEach kws X.env)).any (·.1.isNone)) = false := by rfl) :
    DP X E (.Call (.Name x p) (e :: es) kws pos) (dMake C n ks.length φ gD αa ακ) := by
  obtain ⟨g, gV, hb, hrep⟩ := hb.ex
  refine pe_mono (pe_makeK (n := n) Mk F hr hg hm hb hx ha hkw hall hks hdb he hpl) fun σ H Q h => ?_
  obtain ⟨ρ, s0, kk, xx, rfl, er, q, pp, px⟩ := h
  refine ⟨ρ, s0, _, xx, rfl, er, q, fun ds s1 q1 st1 ok1 vs r1 => ?_, px⟩
  refine ⟨ρ, s1, _, xx, rfl, er.step st1 ok1, q1, fun zd s2 q2 st2 ok2 zs r2 => ?_, px.step st1⟩
  obtain ⟨l1, l2, q3⟩ := q2
  have st := st1.trans st2
  exact ⟨r1.length.trans l1, r2.length.trans l2, mk_sp hrep hgl ok2 (r1.same st2.same) r2 l1 l2 q3 (pp.step st) (px.step st)⟩
theorem d_make0 (Mk : Mk X.K C f) (F : FnOk X.prog X.w X.K X.mg X.base CX k f fd ps (spD X.K nn φ)) (hr : Room (k + 1) X.A) (hg : Gl X x) (hm : X.mg x = some (.ref C)) (hb : KBd X.K fd ps 1 ks gD) (hgl : ∀ us ws : List D, us.length = 0 + 1 → ws.length = ks.length → (gD us ws).length = nn) (hx : Passes CX X E)
    (hkw : DPK X E kws ακ) (hall : (backToKw pos (keywordEach kws X.env)).all (·.1.isSome) = true := by rfl) (hks : (backToKw pos (keywordEach kws X.env)).filterMap (·.1) = ks := by rfl)
    (hdb : (x == ("__debug__" : Str)) = false := by decide) (hpl : ((backTo pos (starEach [] X.env)).any (·.1) || (backToKw pos (keywordEach kws X.env)).any (·.1.isNone)) = false := by rfl) :
    DP X E (.Call (.Name x p) [] kws pos) (dMake C 0 ks.length φ gD dNil ακ) := by
  obtain ⟨g, gV, hb, hrep⟩ := hb.ex
  refine pe_mono (pe_makeK0 Mk F hr hg hm hb hx hkw hall hks hdb hpl) fun σ H Q h => ?_
  obtain ⟨ρ, s0, kk, xx, rfl, er, q, pp, px⟩ := h
  refine ⟨ρ, s0, _, xx, rfl, er, q, fun zd s2 q2 st2 ok2 zs r2 => ?_, px⟩
  obtain ⟨l1, l2, q3⟩ := q2
  exact ⟨rfl, r2.length.trans l2, mk_sp (n := 0) hrep hgl ok2 .nil r2 l1 l2 q3 (pp.step st2) (px.step st2)⟩
end
end DL
set_option Elab.async false
set_option linter.all false
set_option maxRecDepth 100000
set_option maxHeartbeats 2000000
namespace DL
open PySem PySem.Spec PyProof.Rows L2
section
variable {X : Cx} {CX : CXT} {E : XK} {k n nn : Nat} {f C pa : Addr} {fd : FuncData} {ps ks : List Str} {φ : Ct} {x m : Str} {p pos apos : Pos} {e o : Expr} {es : List Expr} {kws : List Keyword} {αa ακ : DA} {τ τo τv : DE} {gD : List D → List D → List D}
/-! ### methods -/
def dMeth (C : Addr) (mn : Str) (n m : Nat) (φ : Ct) (gD : List D → List D → List D) (τo : DE) (α κ : DA) : DE := fun ρ M k x => τo ρ M (fun o M1 => ∃ fs, insOf o M1 = some (C, fs) ∧ fs.lookup mn = none ∧ α ρ M1 (fun ds M2 => κ ρ M2 (fun zs M3 => ds.length = n ∧ zs.length = m ∧ φ (gD (o :: ds) zs) M3 k x) x) x) x
theorem d_meth {pl : Sem Bool} (c : Cls X.K C) (hm : Meth X.K C m f) (F : FnOk X.prog X.w X.K X.mg X.base CX k f fd ps (spD X.K nn φ)) (hr : Room k X.A) (hb : KBd X.K fd ps (n + 1) ks gD) (hgl : ∀ us ws : List D, us.length = n + 1 → ws.length = ks.length → (gD us ws).length = nn) (hx : Passes CX X E)
    (ho : DP X E o τo) (ha : DPA X E (e :: es) αa) (hkw : DPK X E kws ακ) (hall : (backToKw pos (keywordEach kws X.env)).all (·.1.isSome) = true := by rfl) (hks : (backToKw pos (keywordEach kws X.env)).filterMap (·.1) = ks := by rfl)
    (he : starEach (e :: es) X.env = (false, eval e X.env) :: starEach es X.env := by rfl)
    (hpl : ((backTo pos (starEach (e :: es) X.env)).any (·.1) || (backToKw pos (keywordEach kws X.env)).any (·.1.isNone)) = false := by rfl)
    (ht : eval (.Call (.Attribute o m apos) (e :: es) kws pos) X.env = (do
      let ov ← eval o X.env
      standAt apos.atName
      let (f, first) ← holding [ov] (getMethod ov m pl)
      callWith pos f first (backTo pos (starEach (e :: es) X.env)) (backToKw pos (keywordEach kws X.env))) := by rfl) :
    DP X E (.Call (.Attribute o m apos) (e :: es) kws pos) (dMeth C m n ks.length φ gD τo αa ακ) := by
  refine ⟨fun pins s σ H Q I h => ?_⟩
  obtain ⟨ρ, s0, kk, xx, rfl, er, q, pp, px⟩ := h
  refine PySem.W.methodCall_KW (pl := pl) (thn (ho.run pins s σ s0.H (fun v H1 => ∃ s1 d, s1.H = H1 ∧ Ok X.K s1 ∧ Step s0 s1 ∧ Rep X.K s1.G v d ∧ ∃ fs, insOf d s1.M = some (C, fs) ∧ fs.lookup m = none ∧ αa ρ s1.M (fun ds M2 => ακ ρ M2 (fun zs M3 => ds.length = n ∧ zs.length = ks.length ∧ φ (gD (d :: ds) zs) M3 kk xx) xx) xx) I
    ⟨ρ, s0, _, xx, rfl, er, q, fun d s1 q1 st1 ok1 v1 r1 => ⟨s1, d, rfl, ok1, st1, r1, q1⟩, px⟩) fun u s1 ⟨x, H1, I1, rx, sa, d, e1, oka, sta, ra, fs, hi, hl, q1⟩ => ?_) ht
  subst e1
  obtain ⟨a, dx, fvs, ex, hha, rf⟩ := ins_of oka ra hi
  subst ex
  obtain rfl : u = Value.ref a := rx
  refine getmeth_ok I1 hha c hm (rf.none hl) ?_
  refine PySem.W.callWith_KW (first := [.ref a]) (h₀ := X.base) I.ok.mod.kin hm.kp hall (thn (ha.run pos pins s1 σ sa.H (fun vs H2 => ∃ sb ds, sb.H = H2 ∧ Ok X.K sb ∧ Step sa sb ∧ Reps X.K sb.G vs ds ∧ ακ ρ sb.M (fun zs M3 => ds.length = n ∧ zs.length = ks.length ∧ φ (gD (d :: ds) zs) M3 kk xx) xx) I1
    ⟨ρ, sa, _, xx, rfl, er.step sta oka, q1, fun ds sb qb stb okb vs rb => ⟨sb, ds, rfl, okb, stb, rb, qb⟩, px.step sta⟩) fun us s2 ⟨vs, H2, I2, r, sb, ds, e2, okb, stb, rb, q2⟩ => ?_) hpl he
  subst e2
  refine thn (hkw.run pos pins s2 σ sb.H (fun zs H3 => ∃ sc zd, sc.H = H3 ∧ Ok X.K sc ∧ Step sb sc ∧ Reps X.K sc.G zs zd ∧ ds.length = n ∧ zd.length = ks.length ∧ φ (gD (d :: ds) zd) sc.M kk xx) I2
    ⟨ρ, sb, _, xx, rfl, er.step (sta.trans stb) okb, q2, fun zd sc qc stc okc zs rc => ⟨sc, zd, rfl, okc, stc, rc, qc⟩, px.step (sta.trans stb)⟩) fun ws s3 ⟨zs, H3, I3, rz, sc, zd, e3, okc, stc, rc, l1, l2, q3⟩ => ⟨I3.kIn, ?_⟩
  subst e3
  rw [hks]
  have st := (sta.trans stb).trans stc
  exact run_D (us := .ref a :: us) (vs := .ref a :: vs) F hr hb hx I3 (.cons rfl r) rz ⟨sc, d :: ds, zd, kk, xx, rfl, okc, .cons (ra.same (stb.trans stc).same) (rb.same stc.same), rc, by rw [List.length_cons, l1], l2, hgl _ _ (by rw [List.length_cons, l1]) l2, q3, pp.step st, px.step st⟩
theorem d_meth0 {pl : Sem Bool} (c : Cls X.K C) (hm : Meth X.K C m f) (F : FnOk X.prog X.w X.K X.mg X.base CX k f fd ps (spD X.K nn φ)) (hr : Room k X.A) (hb : KBd X.K fd ps (0 + 1) ks gD) (hgl : ∀ us ws : List D, us.length = 0 + 1 → ws.length = ks.length → (gD us ws).length = nn) (hx : Passes CX X E)
    (ho : DP X E o τo) (hkw : DPK X E kws ακ) (hall : (backToKw pos (keywordEach kws X.env)).all (·.1.isSome) = true := by rfl) (hks : (backToKw pos (keywordEach kws X.env)).filterMap (·.1) = ks := by rfl)
    (hpl : ((backTo pos (starEach [] X.env)).any (·.1) || (backToKw pos (keywordEach kws X.env)).any (·.1.isNone)) = false := by rfl)
    (ht : eval (.Call (.Attribute o m apos) [] kws pos) X.env = (do
      let ov ← eval o X.env
      standAt apos.atName
      let (f, first) ← holding [ov] (getMethod ov m pl)
      callWith pos f first (backTo pos (starEach [] X.env)) (backToKw pos (keywordEach kws X.env))) := by rfl) :
    DP X E (.Call (.Attribute o m apos) [] kws pos) (dMeth C m 0 ks.length φ gD τo dNil ακ) := by
  refine ⟨fun pins s σ H Q I h => ?_⟩
  obtain ⟨ρ, s0, kk, xx, rfl, er, q, pp, px⟩ := h
  refine PySem.W.methodCall_KW (pl := pl) (thn (ho.run pins s σ s0.H (fun v H1 => ∃ s1 d, s1.H = H1 ∧ Ok X.K s1 ∧ Step s0 s1 ∧ Rep X.K s1.G v d ∧ ∃ fs, insOf d s1.M = some (C, fs) ∧ fs.lookup m = none ∧ ακ ρ s1.M (fun zs M3 => ([] : List D).length = 0 ∧ zs.length = ks.length ∧ φ (gD [d] zs) M3 kk xx) xx) I
    ⟨ρ, s0, _, xx, rfl, er, q, fun d s1 q1 st1 ok1 v1 r1 => ⟨s1, d, rfl, ok1, st1, r1, q1⟩, px⟩) fun u s1 ⟨x, H1, I1, rx, sa, d, e1, oka, sta, ra, fs, hi, hl, q1⟩ => ?_) ht
  subst e1
  obtain ⟨a, dx, fvs, ex, hha, rf⟩ := ins_of oka ra hi
  subst ex
  obtain rfl : u = Value.ref a := rx
  refine getmeth_ok I1 hha c hm (rf.none hl) ?_
  refine PySem.W.callWith_KW0 (first := [.ref a]) (h₀ := X.base) I.ok.mod.kin hm.kp hall ?_ hpl
  refine thn (hkw.run pos pins s1 σ sa.H (fun zs H3 => ∃ sc zd, sc.H = H3 ∧ Ok X.K sc ∧ Step sa sc ∧ Reps X.K sc.G zs zd ∧ zd.length = ks.length ∧ φ (gD [d] zd) sc.M kk xx) I1
    ⟨ρ, sa, _, xx, rfl, er.step sta oka, q1, fun zd sc qc stc okc zs rc => ⟨sc, zd, rfl, okc, stc, rc, qc.2⟩, px.step sta⟩) fun ws s3 ⟨zs, H3, I3, rz, sc, zd, e3, okc, stc, rc, l2, q3⟩ => ⟨I3.kIn, ?_⟩
  subst e3
  rw [hks]
  have st := sta.trans stc
  exact run_D (us := [.ref a]) (vs := [.ref a]) F hr hb hx I3 (.cons rfl .nil) rz ⟨sc, [d], zd, kk, xx, rfl, okc, .cons (ra.same stc.same) .nil, rc, rfl, l2, hgl _ _ rfl l2, q3, pp.step st, px.step st⟩
/-! ### properties (which raise nothing) -/
def dPropR (C : Addr) (φ : Ct) : D1 := fun u M k _ => (∃ fs, insOf u M = some (C, fs)) ∧ φ [u] M k (fun _ _ _ => False)
theorem pass_never : Passes (L2.CX X.prog X.w) X.nox (fun _ _ _ => False) := by
  intro pins σ H s e s' I h
  obtain ⟨_, _, _, _, _, _, _, _, _, _, _, _, z⟩ := h
  exact z.elim
theorem d_prop (he : DP X E e τ) (c : Cls X.K C) (hp : PropOf X.K C m pa f) (F : FnOk X.prog X.w X.K X.mg X.base (L2.CX X.prog X.w) k f fd ps (spD X.K 1 φ)) (hr : Room (k + 1) X.A) (hb : Binds X.K fd ps [])
    (hab : attributeBase e m X.env (eval e X.env) = eval e X.env := by rfl) : DP X E (.Attribute e m pos) (dUn (dPropR C φ) τ) := pe_mono (pe_prop he c hp F hr hb .nil pass_never hab) fun σ H Q h => by
  obtain ⟨ρ, s, k, x, rfl, er, q, p, px⟩ := h
  refine ⟨ρ, s, _, x, rfl, er, q, fun u s1 q1 st1 ok1 v1 r1 => ?_, px⟩
  obtain ⟨⟨fs, hi⟩, q1⟩ := q1
  obtain ⟨a, dx, fvs, rfl, ha, rf⟩ := ins_of ok1 r1 hi
  exact ⟨a, dx, fvs, rfl, ha, s1, [u], k, _, rfl, ok1, .cons r1 .nil, rfl, q1, p.step st1, PostX.never⟩
/-! ### operators of the class -/
def dOwn2 (C : Addr) (φ : Ct) : D2 := fun x y M k xx => (∃ fs, insOf x M = some (C, fs)) ∧ (∃ fs, insOf y M = some (C, fs)) ∧ φ [x, y] M k xx
theorem o_own {op : Operator} (hs : PySem.W.findIn X.K (.ref C) (PySem.dunder op.info.2) = some (some (.ref f))) (hf : PySem.W.isFn X.K (.ref f) = true) (hc : PySem.W.selfFirst X.K C = true) (F : FnOk X.prog X.w X.K X.mg X.base CX k f fd ps (spD X.K 2 φ)) (hb : KBd X.K fd ps 2 [] (fun us _ => us)) (hr : Room k X.A) (hx : Passes CX X E) :
    OpR X (binaryOp op) (r2 X.K E (dOwn2 C φ)) := by
  intro pins s σ H x y u v Q I rx ry h
  obtain ⟨s0, dx, dy, kk, xx, rfl, ok, hdx, hdy, ⟨⟨fs, hi⟩, ⟨fs', hi'⟩, q⟩, p, px⟩ := h
  obtain ⟨a, da, fvs, rfl, ha, rf⟩ := ins_of ok hdx hi
  obtain ⟨b, db, fvs', rfl, hb', rf'⟩ := ins_of ok hdy hi'
  obtain rfl : u = Value.ref a := rx
  obtain rfl : v = Value.ref b := ry
  obtain ⟨_, O, _⟩ := ins_get I.hok ha
  obtain ⟨_, O', _⟩ := ins_get I.hok hb'
  obtain ⟨_, J, _⟩ := O.look
  obtain ⟨_, J', _⟩ := O'.look
  obtain ⟨m, hF⟩ := I.fr
  refine PySem.W.binop_K hF I.ok.mod.kin J J'.type hc hs hf ?_
  refine wpAny_mono (run_D (us := [.ref a, .ref b]) (vs := [.ref a, .ref b]) (ws := []) (zs := []) F hr hb hx I (.cons rfl (.cons rfl .nil)) .nil ⟨s0, [dx, dy], [], kk, xx, rfl, ok, .cons hdx (.cons hdy .nil), .nil, rfl, rfl, rfl, q, p, px⟩) (fun w s' z => ?_) fun _ _ x => x
  obtain ⟨z', H', I', rz, qz⟩ := z
  exact SlX.cmpback rz ⟨z', H', I', rz, qz⟩
def dOwn1 (C : Addr) (φ : Ct) : D1 := fun x M k xx => (∃ fs, insOf x M = some (C, fs)) ∧ φ [x] M k xx
theorem o_ownNeg (hs : PySem.W.findIn X.K (.ref C) "__neg__" = some (some (.ref f))) (hf : PySem.W.isFn X.K (.ref f) = true) (F : FnOk X.prog X.w X.K X.mg X.base CX k f fd ps (spD X.K 1 φ)) (hb : KBd X.K fd ps 1 [] (fun us _ => us)) (hr : Room k X.A) (hx : Passes CX X E) :
    UnR X (unaryOp .USub) (r1 X.K E (dOwn1 C φ)) := by
  intro pins s σ H x u Q I rx h
  obtain ⟨s0, dx, kk, xx, rfl, ok, hdx, ⟨⟨fs, hi⟩, q⟩, p, px⟩ := h
  obtain ⟨a, da, fvs, rfl, ha, rf⟩ := ins_of ok hdx hi
  obtain rfl : u = Value.ref a := rx
  obtain ⟨_, O, _⟩ := ins_get I.hok ha
  obtain ⟨_, J, _⟩ := O.look
  obtain ⟨m, hF⟩ := I.fr
  refine PySem.W.ksp_neg hF I.ok.mod.kin J hs hf ?_
  exact run_D (us := [.ref a]) (vs := [.ref a]) (ws := []) (zs := []) F hr hb hx I (.cons rfl .nil) .nil ⟨s0, [dx], [], kk, xx, rfl, ok, .cons hdx .nil, .nil, rfl, rfl, rfl, q, p, px⟩
/-- the left value's class decides -/
def dSel (own f : D2) : D2 := fun x y M k xx => match insOf x M with
  | some _ => own x y M k xx
  | none => f x y M k xx
def dSel1 (own f : D1) : D1 := fun x M k xx => match insOf x M with
  | some _ => own x M k xx
  | none => f x M k xx
theorem o_sel {g : Value → Value → Sem Value} {own f : D2} (h1 : OpR X g (r2 X.K E own)) (h2 : OpR X g (r2 X.K E f)) : OpR X g (r2 X.K E (dSel own f)) := by
  intro pins s σ H x y u v Q I rx ry h
  obtain ⟨s0, dx, dy, kk, xx, rfl, ok, hdx, hdy, q, p, px⟩ := h
  unfold dSel at q
  split at q
  · exact h1 pins s σ _ x y u v Q I rx ry ⟨s0, dx, dy, kk, xx, rfl, ok, hdx, hdy, q, p, px⟩
  · exact h2 pins s σ _ x y u v Q I rx ry ⟨s0, dx, dy, kk, xx, rfl, ok, hdx, hdy, q, p, px⟩
theorem o_sel1 {g : Value → Sem Value} {own f : D1} (h1 : UnR X g (r1 X.K E own)) (h2 : UnR X g (r1 X.K E f)) : UnR X g (r1 X.K E (dSel1 own f)) := by
  intro pins s σ H x u Q I rx h
  obtain ⟨s0, dx, kk, xx, rfl, ok, hdx, q, p, px⟩ := h
  unfold dSel1 at q
  split at q
  · exact h1 pins s σ _ x u Q I rx ⟨s0, dx, kk, xx, rfl, ok, hdx, q, p, px⟩
  · exact h2 pins s σ _ x u Q I rx ⟨s0, dx, kk, xx, rfl, ok, hdx, q, p, px⟩
/-- x == y by the class's own __eq__ -/
theorem o_ownEq (hs : PySem.W.findIn X.K (.ref C) "__eq__" = some (some (.ref f))) (hf : PySem.W.isFn X.K (.ref f) = true) (F : FnOk X.prog X.w X.K X.mg X.base CX k f fd ps (spD X.K 2 φ)) (hb : KBd X.K fd ps 2 [] (fun us _ => us)) (hr : Room k X.A) (hx : Passes CX X E) :
    OpR X (compareOp .Eq) (r2 X.K E (dOwn2 C φ)) := by
  intro pins s σ H x y u v Q I rx ry h
  obtain ⟨s0, dx, dy, kk, xx, rfl, ok, hdx, hdy, ⟨⟨fs, hi⟩, ⟨fs', hi'⟩, q⟩, p, px⟩ := h
  obtain ⟨a, da, fvs, rfl, ha, rf⟩ := ins_of ok hdx hi
  obtain ⟨b, db, fvs', rfl, hb', rf'⟩ := ins_of ok hdy hi'
  obtain rfl : u = Value.ref a := rx
  obtain rfl : v = Value.ref b := ry
  obtain ⟨_, O, _⟩ := ins_get I.hok ha
  obtain ⟨_, O', _⟩ := ins_get I.hok hb'
  obtain ⟨_, J, _⟩ := O.look
  obtain ⟨_, J', _⟩ := O'.look
  obtain ⟨m, hF⟩ := I.fr
  show wpAny _ _ (richCompare .Eq _ _) _ _ _
  refine PySem.W.cmp_K (op := .Eq) (tb := .ref C) hr.units0 hF I.ok.mod.kin J J'.type (by unfold PySem.W.notFirst; simp) hs hf ?_
  refine wpAny_mono (run_D (us := [.ref a, .ref b]) (vs := [.ref a, .ref b]) (ws := []) (zs := []) F hr hb hx I (.cons rfl (.cons rfl .nil)) .nil ⟨s0, [dx, dy], [], kk, xx, rfl, ok, .cons hdx (.cons hdy .nil), .nil, rfl, rfl, rfl, q, p, px⟩) (fun w s' z => ?_) fun _ _ x => x
  obtain ⟨z', H', I', rz, qz⟩ := z
  exact SlX.cmpback rz ⟨z', H', I', rz, qz⟩
/-! ### the truth of an instance -/
def dTru (C : Addr) (φ : Ct) (τ : DE) : DT := fun ρ M k x => τ ρ M (fun u M1 => (∃ fs, insOf u M1 = some (C, fs)) ∧ φ [u] M1 (fun r M2 => ∃ b, r = .bl b ∧ k b M2) x) x
theorem t_own (hs : PySem.W.findIn X.K (.ref C) "__bool__" = some (some (.ref f))) (hf : PySem.W.isFn X.K (.ref f) = true) (F : FnOk X.prog X.w X.K X.mg X.base CX k f fd ps (spD X.K 1 φ)) (hb : KBd X.K fd ps 1 [] (fun us _ => us)) (hr : Room k X.A) (hx : Passes CX X E)
    (h : DP X E e τ) (he : ∀ whole, isTrue e X.env whole = (do let v ← whole; standAt e.pos; holding [v] (truthy v)) := by intro _; rfl) : DPT X E e (dTru C φ τ) := by
  refine ⟨fun pins s σ H Q I hh => ?_⟩
  obtain ⟨ρ, s0, kk, xx, rfl, er, q, pp, px⟩ := hh
  refine isTrue_plain (thn (h.run pins s σ s0.H (fun v H1 => ∃ s1 d, s1.H = H1 ∧ Ok X.K s1 ∧ Step s0 s1 ∧ Rep X.K s1.G v d ∧ (∃ fs, insOf d s1.M = some (C, fs)) ∧ φ [d] s1.M (fun r M2 => ∃ b, r = .bl b ∧ kk b M2) xx) I
    ⟨ρ, s0, _, xx, rfl, er, q, fun d s1 q1 st1 ok1 v1 r1 => ⟨s1, d, rfl, ok1, st1, r1, q1⟩, px⟩) fun u s1 ⟨x, H1, I1, rx, sa, d, e1, oka, sta, ra, ⟨fs, hi⟩, q1⟩ => ?_) (he _)
  subst e1
  obtain ⟨a, dx, fvs, ex, hha, rf⟩ := ins_of oka ra hi
  subst ex
  obtain rfl : u = Value.ref a := rx
  obtain ⟨_, O, _⟩ := ins_get I1.hok hha
  obtain ⟨_, J, _⟩ := O.look
  obtain ⟨m, hF⟩ := I1.fr
  refine PySem.W.truthy_K hF I1.ok.mod.kin J hs hf ?_
  refine wpAny_mono (run_D (Q := fun v H' => ∃ b, v = .bl b ∧ Q b H') (us := [.ref a]) (vs := [.ref a]) (ws := []) (zs := []) F hr hb hx I1 (.cons rfl .nil) .nil ⟨sa, [d], [], _, xx, rfl, oka, .cons ra .nil, .nil, rfl, rfl, rfl, q1, ?_, px.step sta⟩) (fun w s' z => ?_) fun _ _ x => x
  · rintro r t ⟨b, rfl, qb⟩ st okt v rv
    cases rv
    exact ⟨b, rfl, pp b t qb (sta.trans st) okt⟩
  · obtain ⟨z', H', I', rz, b, rfl, qz⟩ := z
    cases (show w = Value.bool b from rz)
    exact ⟨H', I', qz⟩
/-! ### xs[::-1] -/
def dRev : D1
  | .lst ds, M, k, _ => k (.lst ds.reverse) M
  | .cel a, M, k, _ => ∃ ds, M a = some (.lst ds) ∧ k (.lst ds.reverse) M
  | _, _, _, _ => False
theorem Reps.reverse {K : PySem.W.Frag} {G : Hp} : ∀ {vs : List V} {ds : List D}, Reps K G vs ds → Reps K G vs.reverse ds.reverse
  | _, _, .nil => .nil
  | _, _, .cons h r => by
    rw [List.reverse_cons, List.reverse_cons]
    exact (Reps.reverse r).append (.cons h .nil)
theorem d_rev {kk : Nat} {p1 p2 p3 : Pos} (he : DP X E e τ) : DP X E (.Subscript e (.Slice none none (some (.UnaryOp .USub (.Constant (.int 1) kk p1) p2)) p3) pos) (dUn dRev τ) := pe_mono (pe_revL he) fun σ H Q h => by
  obtain ⟨ρ, s, k, x, rfl, er, q, p, px⟩ := h
  refine ⟨ρ, s, _, x, rfl, er, q, fun u s1 q1 st1 ok1 v1 r1 => ?_, px⟩
  have q1 : dRev u s1.M k x := q1
  unfold dRev at q1
  split at q1
  · obtain ⟨a, vs, rfl, ha, rs⟩ := r1.lst_of
    exact ⟨a, vs, rfl, .of (ok1.sub _ _ ha), fun t ht => (p.step st1).lst q1 ok1 rs.reverse ht⟩
  · obtain ⟨ds, hm, q1⟩ := q1
    obtain ⟨vs, ho, rs⟩ := ok1.cells _ _ hm
    exact ⟨_, vs, r1.cel_of, .of ho, fun t ht => (p.step st1).lst q1 ok1 rs.reverse ht⟩
  · exact q1.elim
end
end DL
set_option Elab.async false
set_option linter.all false
set_option maxRecDepth 100000
set_option maxHeartbeats 2000000
namespace DL
open PySem PySem.Spec PyProof.Rows L2
/-! ### defaults -/
def pickI {α : Type} (xs : List α) : List Nat → List α
  | [] => []
  | i :: r => (match xs[i]? with | some u => [u] | none => []) ++ pickI xs r
theorem pickI_vals {vs : List V} {us : List Value} (r : Vals vs us) : ∀ l, Vals (pickI vs l) (pickI us l)
  | [] => .nil
  | i :: l => by
    refine Vals.append ?_ (pickI_vals r l)
    cases e : vs[i]? with
    | none => rw [r.none_of e]; exact .nil
    | some v => obtain ⟨u, h1, h2⟩ := r.get e; rw [h1]; exact .cons h2 .nil
theorem pickI_reps {K : PySem.W.Frag} {G : Hp} {vs : List V} {us : List D} (r : Reps K G vs us) : ∀ l, Reps K G (pickI vs l) (pickI us l)
  | [] => .nil
  | i :: l => by
    refine Reps.append ?_ (pickI_reps r l)
    cases e : vs[i]? with
    | none => rw [r.noneD e]; exact .nil
    | some v => obtain ⟨u, h1, h2⟩ := r.getV e; rw [h1]; exact .cons h2 .nil
section
variable {K : PySem.W.Frag} {x qual : Str} {params : Arguments} {body : List Stmt} {scope : Scope} {dvs : List V} {kws : List (Str × V)} {f : Addr} {fd : FuncData} {ps : List Str}
/-- positional defaults, no keyword-only ones: places in (positional ++ defaults ++ keywords) -/
theorem kbd_dflt (F : FunD K x qual params body scope dvs kws f fd) (n : Nat) (ks : List Str) (l : List Nat) (dD : List D) (hd : dvs ≠ []) (hD : ∀ G, Reps K G dvs dD)
    (h : ∀ (T : Addr) (kV doc pm : Value) (an : Option Addr) (cdv ct : Value) (us its ws : List Value), us.length = n → its.length = dvs.length → ws.length = ks.length →
      ∃ k, bindArgs (PySem.W.fnOf x qual params body scope (.ref T) kV doc pm an cdv ct) ⟨us, ks.zip ws⟩ = seqItems? (.ref T) >>= k ∧ k (some its.toArray) = pure (ps.zip (pickI (us ++ its ++ ws) l))) :
    KBd K fd ps n ks (fun us ws => pickI (us ++ dD ++ ws) l) := by
  obtain ⟨its, h⟩ := F.kbindsD n ks (fun us ds ws => pickI (us ++ ds ++ ws) l) hd (fun r1 r2 r3 => pickI_vals ((r1.append r2).append r3) l) h
  exact ⟨_, _, h, fun r1 r2 _ _ => pickI_reps ((r1.append (hD _)).append r2) l⟩
/-- keyword-only defaults, no positional ones -/
theorem kbd_kwo (F : FunD K x qual params body scope [] kws f fd) (n : Nat) (ks : List Str) (ms : List (Str × V)) (l : List Nat) (mD : List D) (hk : kws ≠ []) (hms : ∀ q ∈ ms, q ∈ kws) (hD : ∀ G, Reps K G (ms.map (·.2)) mD)
    (h : ∀ (D : Addr) (doc pm : Value) (an : Option Addr) (cdv ct : Value) (us mv ws : List Value), us.length = n → mv.length = ms.length → ws.length = ks.length →
      KwChain D ((ms.map (·.1)).zip mv) (bindArgs (PySem.W.fnOf x qual params body scope .none (.ref D) doc pm an cdv ct) ⟨us, ks.zip ws⟩) (ps.zip (pickI (us ++ mv ++ ws) l))) :
    KBd K fd ps n ks (fun us ws => pickI (us ++ mD ++ ws) l) := by
  obtain ⟨mv, h⟩ := F.kbinds0 n ks ms (fun us mv ws => pickI (us ++ mv ++ ws) l) hk hms (fun r1 r2 r3 => pickI_vals ((r1.append r2).append r3) l) h
  exact ⟨_, _, h, fun r1 r2 _ _ => pickI_reps ((r1.append (hD _)).append r2) l⟩
/-- both -/
theorem kbd_both (F : FunD K x qual params body scope dvs kws f fd) (n : Nat) (ks : List Str) (ms : List (Str × V)) (l : List Nat) (dD mD : List D) (hd : dvs ≠ []) (hk : kws ≠ []) (hms : ∀ q ∈ ms, q ∈ kws) (hdD : ∀ G, Reps K G dvs dD) (hD : ∀ G, Reps K G (ms.map (·.2)) mD)
    (h : ∀ (T D : Addr) (doc pm : Value) (an : Option Addr) (cdv ct : Value) (us its mv ws : List Value), us.length = n → its.length = dvs.length → mv.length = ms.length → ws.length = ks.length →
      ∃ k, bindArgs (PySem.W.fnOf x qual params body scope (.ref T) (.ref D) doc pm an cdv ct) ⟨us, ks.zip ws⟩ = seqItems? (.ref T) >>= k ∧ KwChain D ((ms.map (·.1)).zip mv) (k (some its.toArray)) (ps.zip (pickI (us ++ its ++ mv ++ ws) l))) :
    KBd K fd ps n ks (fun us ws => pickI (us ++ dD ++ mD ++ ws) l) := by
  obtain ⟨its, mv, h⟩ := F.kbinds n ks ms (fun us ds mv ws => pickI (us ++ ds ++ mv ++ ws) l) hd hk hms (fun r1 r2 r3 r4 => pickI_vals (((r1.append r2).append r3).append r4) l) h
  exact ⟨_, _, h, fun r1 r2 _ _ => pickI_reps (((r1.append (hdD _)).append (hD _)).append r2) l⟩
end
theorem fund_mkD {K : PySem.W.Frag} {x qual : Str} {params : Arguments} {body : List Stmt} {scope : Scope} {f T : Addr} {oc oc' : Value} {od od' an : Option Addr} {osl osl' : Array (Option Value)} {kV doc pm cdv ct : Value} {its : Array Value} {n : Nat} {dvs : List V}
    (l : K.lookup f = some ⟨oc, od, .func (PySem.W.fnOf x qual params body scope (.ref T) kV doc pm an cdv ct), osl⟩) (lT : K.lookup T = some ⟨oc', od', .seq its n, osl'⟩)
    (c : PySem.W.codeIn K cdv qual = true) (k : PySem.W.keepIn K (.ref f) = true) (hd : dvs ≠ []) (r : Vals dvs its.toList) : FunD K x qual params body scope dvs [] f (PySem.W.fnOf x qual params body scope (.ref T) kV doc pm an cdv ct) :=
  ⟨⟨oc, od, .ref T, kV, doc, pm, an, cdv, ct, osl, rfl, l, c, .inr ⟨hd, T, _, its.toList, n, rfl, lT, by simp, r⟩, .inl rfl⟩, k⟩
theorem fund_mkK {K : PySem.W.Frag} {x qual : Str} {params : Arguments} {body : List Stmt} {scope : Scope} {f D : Addr} {oc : Value} {od an : Option Addr} {osl : Array (Option Value)} {doc pm cdv ct : Value} {kws : List (Str × V)}
    (l : K.lookup f = some ⟨oc, od, .func (PySem.W.fnOf x qual params body scope .none (.ref D) doc pm an cdv ct), osl⟩)
    (c : PySem.W.codeIn K cdv qual = true) (k : PySem.W.keepIn K (.ref f) = true) (r : ∀ q ∈ kws, ∃ u, PySem.W.nsIn K D q.1 = some (some u) ∧ RelV q.2 u) : FunD K x qual params body scope [] kws f (PySem.W.fnOf x qual params body scope .none (.ref D) doc pm an cdv ct) :=
  ⟨⟨oc, od, .none, .ref D, doc, pm, an, cdv, ct, osl, rfl, l, c, .inl ⟨rfl, rfl⟩, .inr ⟨D, rfl, r⟩⟩, k⟩

def dBoolF : DN
  | [.bl b], M, k, _ => k (.bl b) M
  | [.int i], M, k, _ => k (.bl (i != 0)) M
  | _, _, _, _ => False
section
variable {X : Cx} {E : XK} {C f : Addr} {fd : FuncData} {ps : List Str} {φ : Ct} {k : Nat} {m : Str} {pos : Pos} {e : Expr} {τ : DE}
theorem c_bool : CallR X (.type "bool") (rA X.K E dBoolF) := by
  intro pins s σ H xs us Q I r h
  obtain ⟨s0, ds, k, xx, rfl, ok, hx, q, p, px⟩ := h
  unfold dBoolF at q
  split at q
  · obtain ⟨v, rfl, rv⟩ := hx.one
    cases rv
    exact call_bool1 pins s σ _ _ us Q I r (.inr ⟨_, rfl, p.now q ok .bl⟩)
  · obtain ⟨v, rfl, rv⟩ := hx.one
    cases rv
    exact call_bool1 pins s σ _ _ us Q I r (.inl ⟨_, rfl, p.now q ok .bl⟩)
  · exact q.elim
theorem d_propE (he : DP X E e τ) (c : Cls X.K C) (hp : ∃ pa, PropOf X.K C m pa f) (F : FnOk X.prog X.w X.K X.mg X.base (L2.CX X.prog X.w) k f fd ps (spD X.K 1 φ)) (hr : Room (k + 1) X.A) (hb : Binds X.K fd ps [])
    (hab : attributeBase e m X.env (eval e X.env) = eval e X.env := by rfl) : DP X E (.Attribute e m pos) (dUn (dPropR C φ) τ) := by
  obtain ⟨pa, hp⟩ := hp
  exact d_prop he c hp F hr hb hab
theorem one_cls {K : PySem.W.Frag} (c : Cls K C) (n : NoAttr K C m) : ∀ C' ∈ [C], Cls K C' ∧ NoAttr K C' m := fun C' h => by
  cases List.mem_singleton.mp h
  exact ⟨c, n⟩
end
/-- readings' small steps -/
theorem fldK {C : Addr} {CS : List Addr} {f : Str} {fs : List (Str × D)} {d : D} {M : Mm} {k : DK} {x : DX} (hC : C ∈ CS) (hl : fs.lookup f = some d) (q : k d M) : dFld CS f (.obj C fs) M k x := ⟨C, fs, d, rfl, hC, hl, q⟩

theorem all_cs1 {p : Addr → Prop} {a : Addr} (h1 : p a) : ∀ C ∈ [a], p C := fun C h => by cases List.mem_singleton.mp h; exact h1
theorem all_cons {p : Addr → Prop} {a : Addr} {l : List Addr} (h1 : p a) (h2 : ∀ C ∈ l, p C) : ∀ C ∈ a :: l, p C := fun C h => by
  rcases List.mem_cons.mp h with e | e
  · cases e; exact h1
  · exact h2 C e
theorem all_cs2 {p : Addr → Prop} {a b : Addr} (h1 : p a) (h2 : p b) : ∀ C ∈ [a, b], p C := all_cons h1 (all_cs1 h2)
theorem all_cs3 {p : Addr → Prop} {a b c : Addr} (h1 : p a) (h2 : p b) (h3 : p c) : ∀ C ∈ [a, b, c], p C := all_cons h1 (all_cs2 h2 h3)
theorem all_cs4 {p : Addr → Prop} {a b c d : Addr} (h1 : p a) (h2 : p b) (h3 : p c) (h4 : p d) : ∀ C ∈ [a, b, c, d], p C := all_cons h1 (all_cs3 h2 h3 h4)
/-! ### isinstance, by the classes' orders -/
theorem kit_same {K : PySem.W.Frag} {C : Addr} : PySem.W.kitOne K (.ref C) (.ref C) = some true := by
  unfold PySem.W.kitOne
  rw [if_pos (by simp)]
theorem kit_in {K : PySem.W.Frag} {t : Value} {C : Addr} {b : Bool} (hc : PySem.W.isClsIn K C = true) (ht : PySem.W.typeIn K (.ref C) = some (.type "type")) (hs : PySem.W.subIn K t (.ref C) = some b) (hb : (t == Value.ref C) = false) : PySem.W.kitOne K t (.ref C) = some b := by
  unfold PySem.W.kitOne PySem.W.kitCls
  rw [hb]
  unfold PySem.W.isClsIn at hc
  simp [hc, ht, hs]
theorem kit_ne {C C' : Addr} (h : C ≠ C') : (Value.ref C == Value.ref C') = false := by
  simp [h]
theorem kit_ty' {C : Addr} {n : String} : (Value.type n == Value.ref C) = false := by simp
theorem kit_to {K : PySem.W.Frag} {C : Addr} {T : String} {b : Bool} (hm : PySem.W.kitMeta T = true) (hs : PySem.W.subIn K (.ref C) (.type T) = some b) : PySem.W.kitOne K (.ref C) (.type T) = some b := by
  unfold PySem.W.kitOne PySem.W.kitCls
  rw [if_neg (by simp)]
  simp [hm, hs]
theorem kd_true {C : Addr} : some true = some (decide (C = C)) := by simp
theorem kd_false {C D : Addr} (h : C ≠ D) : some false = some (decide (C = D)) := by simp [h]

/-! ### return, the def's own cells forgotten -/
def mres (M m0 : Mm) : Mm := fun a => if (m0 a).isSome = true then M a else none
theorem mres_mup {M : Mm} {p : Addr} {o : MO} (h : M p = none) : mres (mup M p o) M = M := by
  funext a
  unfold mres mup
  by_cases e : a = p
  · subst e; simp [h]
  · rw [if_neg e]
    cases ea : M a <;> simp
theorem mres_self {M : Mm} : mres M M = M := by
  funext a
  unfold mres
  cases ea : M a <;> simp
theorem Ok.res {K : PySem.W.Frag} {b s : Sta} (k : Ok K s) (st : Step b s) : Ok K ⟨s.H, s.G, mres s.M b.M⟩ ∧ Step b ⟨s.H, s.G, mres s.M b.M⟩ := by
  have up : ∀ a mo, mres s.M b.M a = some mo → s.M a = some mo := fun a mo e => by
    unfold mres at e
    split at e
    · exact e
    · cases e
  refine ⟨⟨k.sub, fun a mo e => k.apart a mo (up a mo e), fun a mo e => k.cells a mo (up a mo e)⟩, ⟨st.same, fun a h => ?_, fun a o h1 h2 h3 => ?_⟩⟩
  · show (mres s.M b.M a).isSome = true
    unfold mres
    rw [if_pos h]
    exact st.dom a h
  · obtain ⟨x1, x2, x3⟩ := st.hid a o h1 h2 h3
    refine ⟨x1, x2, ?_⟩
    show mres s.M b.M a = none
    unfold mres
    split
    · exact x3
    · rfl
def dRetD (τ : DE) : DS := fun k x ρ M => τ ρ M (fun u M1 => k.rt u (mres M1 k.m0)) x
theorem s_retD {X : Cx} {E : XK} {e : Expr} {pos : Pos} {τ : DE} (he : DP X E e τ) : DPS X E (.Return (some e) pos) (dRetD τ) := ps_mono (ps_ret he) fun D σ H h => by
  obtain ⟨ρ, s, k, x, rfl, er, q, p, px⟩ := h
  obtain ⟨b, sb, ob, mb, pb⟩ := p.rt
  refine ⟨ρ, s, _, x, rfl, er, q, fun u s1 q1 st1 ok1 v1 r1 => ?_, px⟩
  have st : Step b s1 := sb.trans st1
  obtain ⟨k2, st2⟩ := ok1.res st
  exact pb u ⟨_, _, _⟩ (by rw [mb]; exact q1) st2 k2 v1 r1
end DL
set_option Elab.async false
set_option linter.all false
set_option maxRecDepth 100000
set_option maxHeartbeats 2000000
namespace DX
open PySem PySem.SeqAt
open AutoSeq1 (wpAny_loadPart')
open MeetsSeq MeetsSeq2 MeetsSeq3 SeqRoads2
section
variable {prog : Program} {w : World} {A : Around} {R : Result → Shared → Prop}
/-- two tuples of two items: the first items' answer decides whether the second ones are asked -/
theorem pair_eq {l b : Addr} {u1 u2 v1 v2 : Value} {n n2 : Nat} {dd dd2 : Option Addr} {sl sl2 : Array (Option Value)} {s : Shared}
    (hl : s.heap.get? l = some { cls := .type "tuple", dict := dd, data := .seq #[u1, u2] n, slots := sl }) (hb : s.heap.get? b = some { cls := .type "tuple", dict := dd2, data := .seq #[v1, v2] n2, slots := sl2 })
    (h : wpAny (model prog w) A.in1 (eqBool u1 v1) (fun r s' => (r = false ∧ R (.ok (.ret (.bool false))) s') ∨ (r = true ∧
      wpAny (model prog w) A.in1 (eqBool u2 v2) (fun r s' => R (.ok (.ret (.bool r))) s') (fun e s' => R (.error e) s') s')) (fun e s' => R (.error e) s') s) :
    wpAny (model prog w) A.in1 (Builtin.«tuple.__eq__» ⟨[.ref l, .ref b], []⟩) (GQ.FinOf prog w A R) (fun e s' => R (.error e) s') s := by
  have f2 := AutoSeq1.sub_tuple_tuple
  have start := h
  obtain ⟨hp, gg, dr, tk, os⟩ := s
  wp_walk using wpAny_loadPart' hl, wpAny_loadPart' hb, wpAny_forIn_list _ (fun rest st s' => st.1 = none ∧
    ((rest = [(u1, v1), (u2, v2)] ∧ wpAny (model prog w) A.in1 (eqBool u1 v1) (fun r s' => (r = false ∧ R (.ok (.ret (.bool false))) s') ∨ (r = true ∧
        wpAny (model prog w) A.in1 (eqBool u2 v2) (fun r s' => R (.ok (.ret (.bool r))) s') (fun e s' => R (.error e) s') s')) (fun e s' => R (.error e) s') s') ∨
      (rest = [(u2, v2)] ∧ wpAny (model prog w) A.in1 (eqBool u2 v2) (fun r s' => R (.ok (.ret (.bool r))) s') (fun e s' => R (.error e) s') s') ∨ (rest = [] ∧ R (.ok (.ret (.bool true))) s'))) _
  case turn =>
    rintro ⟨y, x⟩ rest st s' ⟨hst, ⟨hz, hw⟩ | ⟨hz, hw⟩ | ⟨hz, hw⟩⟩
    · cases hz
      refine wpAny_bind (wpAny_mono hw (fun r s2 q => ?_) fun _ _ x => x)
      rcases q with ⟨rfl, q⟩ | ⟨rfl, q⟩
      · wp_walk
        exact q
      · wp_walk
        exact ⟨rfl, .inr (.inl ⟨rfl, q⟩)⟩
    · cases hz
      refine wpAny_bind (wpAny_mono hw (fun r s2 q => ?_) fun _ _ x => x)
      cases r with
      | false =>
        wp_walk
        exact q
      | true =>
        wp_walk
        exact ⟨rfl, .inr (.inr ⟨rfl, q⟩)⟩
    · cases hz
  case fin =>
    rintro ⟨b1, b2⟩ s' ⟨hst, ⟨hz, hw⟩ | ⟨hz, hw⟩ | ⟨hz, hw⟩⟩
    · cases hz
    · cases hz
    · simp only at hst
      subst hst
      wp_walk
      exact hw
  case h => exact ⟨rfl, .inl ⟨rfl, start⟩⟩
theorem eq_self {a : Addr} {E : Value → Shared → Prop} {s : Shared} {Q : Bool → Shared → Prop} (h : Q true s) : wpAny (model prog w) A (eqBool (.ref a) (.ref a)) Q E s := by
  unfold eqBool
  refine wpAny_holding ?_
  refine wpAny_ite_split (fun _ => ?_) (fun z => absurd (beq_self_eq_true _) z)
  wp_walk
  exact h
theorem rc_pair {l b : Addr} {u1 u2 v1 v2 : Value} {E : Value → Shared → Prop} {s : Shared} {Q : Value → Shared → Prop} (hu : A.units < cLine) (hl : s.heap.IsTuple l #[u1, u2]) (hb : s.heap.IsTuple b #[v1, v2])
    (h : wpAny (model prog w) A.in1 (eqBool u1 v1) (fun r s' => (r = false ∧ Q (.bool false) s') ∨ (r = true ∧ wpAny (model prog w) A.in1 (eqBool u2 v2) (fun r s' => Q (.bool r) s') E s')) E s) :
    wpAny (model prog w) A (richCompare .Eq (.ref l) (.ref b)) Q E s := by
  obtain ⟨⟨c1, x1, y1, z1⟩, g1, e1, m1, d1⟩ := id hl
  obtain ⟨⟨c2, x2, y2, z2⟩, g2, e2, m2, d2⟩ := id hb
  simp only at e1 d1 e2 d2
  subst e1 d1 e2 d2
  refine wpAny_richCompare_same_room (op := .Eq) ⟨_, g1, rfl⟩ ⟨_, g2, rfl⟩ PySem.F.slot_tuple_eq (GQ.call_here PySem.F.slot_tuple_eq ⟨_, g1, rfl⟩ PySem.F.entry_tuple_eq (PySem.F.args_tuple_eq_2 _ _) ?_) hu
  refine pair_eq (R := wants (fun v s' => v ≠ .notImplemented ∧ Q v s') E) g1 g2 (wpAny_mono h (fun r s' q => ?_) fun _ _ x => x)
  rcases q with ⟨rfl, q⟩ | ⟨rfl, q⟩
  · exact .inl ⟨rfl, nofun, q⟩
  · exact .inr ⟨rfl, wpAny_mono q (fun r s2 q => ⟨nofun, q⟩) fun _ _ x => x⟩
end
end DX
namespace DL
open PySem PySem.Spec PyProof.Rows L2
def flatF (fs : List (Str × D)) : Bool := fs.all fun f => flatD f.2
theorem Rep.flat_inj {K : PySem.W.Frag} {G : Hp} {v : V} {d d' : D} (h : Rep K G v d) (h' : Rep K G v d') (f : flatD d = true) (f' : flatD d' = true) : d = d' := by
  cases h <;> cases f <;> cases h' <;> first | rfl | cases f'
theorem FRep.flat_inj {K : PySem.W.Frag} {G : Hp} : ∀ {vs : List (Str × V)} {ds es : List (Str × D)}, FRep K G vs ds → FRep K G vs es → flatF ds = true → flatF es = true → ds = es
  | _, _, _, .nil, .nil, _, _ => rfl
  | _, _, _, .cons h r, .cons h' r', f, f' => by
    unfold flatF at f f'
    rw [List.all_cons, Bool.and_eq_true] at f f'
    rw [h.flat_inj h' f.1 f'.1, FRep.flat_inj r r' f.2 f'.2]
section
variable {X : Cx} {E : XK} {k : Nat} {f C : Addr} {fd : FuncData} {ps : List Str} {φ : Ct}
/-- == of two pairs (instance with an own __eq__, int) -/
def dEqT (C : Addr) (φ : Ct) : D2 := fun x y M k xx => ∃ fs gs i j, x = .tup [.obj C fs, .int i] ∧ y = .tup [.obj C gs, .int j] ∧ flatF fs = true ∧ flatF gs = true ∧ (fs = gs → k (.bl (decide (i = j))) M) ∧
  φ [.obj C fs, .obj C gs] M (fun r M1 => ∃ b, r = .bl b ∧ k (.bl (b && decide (i = j))) M1) (fun _ _ _ => False)
theorem o_eqT (hs : PySem.W.findIn X.K (.ref C) "__eq__" = some (some (.ref f))) (hf : PySem.W.isFn X.K (.ref f) = true) (F : FnOk X.prog X.w X.K X.mg X.base (L2.CX X.prog X.w) k f fd ps (spD X.K 2 φ)) (hb : Binds X.K fd ps []) (hr : Room (k + 1) X.A) :
    OpR X (compareOp .Eq) (r2 X.K E (dEqT C φ)) := by
  intro pins s σ H x y u v Q I rx ry h
  obtain ⟨s0, dx, dy, kk, xx, rfl, ok, hdx, hdy, ⟨fs, gs, i, j, rfl, rfl, f1, f2, qs, q⟩, p, px⟩ := h
  obtain ⟨l, vs, rfl, hl, rl⟩ := hdx.tup_of
  obtain ⟨b, ws, rfl, hb', rb⟩ := hdy.tup_of
  obtain ⟨v1, v2, rfl, r1, r2⟩ := rl.two
  obtain ⟨w1, w2, rfl, r3, r4⟩ := rb.two
  obtain rfl : u = Value.ref l := rx
  obtain rfl : v = Value.ref b := ry
  obtain ⟨a, da, fv, rfl, ha, rfa⟩ := r1.obj_of
  obtain ⟨c, dc, gv, rfl, hc, rfc⟩ := r3.obj_of
  cases r2.int_of
  cases r4.int_of
  have ha' := ok.sub _ _ ha
  have hc' := ok.sub _ _ hc
  obtain ⟨its, rv, pl, hz⟩ := I.tuple (Same.seqT ok.sub hl)
  obtain ⟨jts, rw', pl', hz'⟩ := I.tuple (Same.seqT ok.sub hb')
  obtain ⟨u1, u2, rfl, ru1, ru2⟩ := rv.two
  obtain ⟨z1, z2, rfl, rz1, rz2⟩ := rw'.two
  obtain rfl : u1 = Value.ref a := ru1
  obtain rfl : z1 = Value.ref c := rz1
  obtain ⟨t1, rfl⟩ := ru2
  obtain ⟨t2, rfl⟩ := rz2
  have hr' : Room k X.A.in1 := Room.in1 hr
  show wpAny _ _ (richCompare .Eq _ _) _ _ _
  refine DX.rc_pair hr.units0 (show s.heap.IsTuple l _ from pl) (show s.heap.IsTuple b _ from pl') ?_
  have ij : (i == j) = decide (i = j) := rfl
  by_cases e : a = c
  · subst e
    rw [ha] at hc
    cases hc
    have e2 := rfa.flat_inj rfc f1 f2
    refine DX.eq_self (.inr ⟨rfl, wpAny_eqBool_int ?_⟩)
    rw [ij]
    exact ⟨.bl _, s0.H, I, rfl, p.now (qs e2) ok .bl⟩
  · refine GQ.eqBool_refG e ?_
    obtain ⟨_, O, _⟩ := ins_get I.hok ha'
    obtain ⟨_, O', _⟩ := ins_get I.hok hc'
    obtain ⟨_, J, _⟩ := O.look
    obtain ⟨_, J', _⟩ := O'.look
    obtain ⟨m, hF⟩ := I.fr
    refine PySem.W.cmp_K (op := .Eq) (tb := .ref C) hr'.units0 hF I.ok.mod.kin J J'.type (by unfold PySem.W.notFirst; simp) hs hf ?_
    have FR := F.raw hb .nil
    refine wpAny_mono (wpAny_call (SlX.run_at (Q := fun v H' => ∃ b, v = .bl b ∧ Q (.bl (b && decide (i = j))) H') (us := [.ref a, .ref c]) (ws := [.ref a, .ref c]) FR hr' I.env0.in1 (E := fun _ _ _ => False) (CX := L2.CX X.prog X.w) ?_ I (.cons rfl (.cons rfl .nil)) ⟨s0, [.obj C fs, .obj C gs], _, _, rfl, ok, .cons r1 (.cons r3 .nil), rfl, q, ?_, PostX.never⟩)) (fun w s' z => ?_) fun _ _ x => x
    · intro pins σ H s e s' I h
      obtain ⟨_, _, _, _, _, _, _, _, _, _, _, _, z⟩ := h
      exact z.elim
    · rintro d t ⟨bb, rfl, qb⟩ st okt v rv
      cases rv
      exact ⟨bb, rfl, p _ t qb st okt _ .bl⟩
    · obtain ⟨z', H', I', rz, bb, rfl, qz⟩ := z
      cases (show w = Value.bool bb from rz)
      refine ⟨bb, rfl, ?_⟩
      cases bb with
      | false => exact .inl ⟨rfl, .bl false, H', I', rfl, qz⟩
      | true =>
        refine .inr ⟨rfl, wpAny_eqBool_int ?_⟩
        rw [ij]
        exact ⟨.bl _, H', I', rfl, qz⟩
end
end DL
set_option Elab.async false
set_option linter.all false
set_option maxRecDepth 100000
set_option maxHeartbeats 2000000
namespace DL
open PySem PySem.Spec PyProof.Rows L2
section
variable {X : Cx} {CX : CXT} {E : XK} {k : Nat} {f C : Addr} {fd : FuncData} {ps : List Str} {φ : Ct} {e : Expr} {τ : DE} {pos : Pos}
/-! ### in, by the class's own __contains__ -/
def dOwnIn (neg : Bool) (C : Addr) (φ : Ct) : D2 := fun x y M k xx => (∃ fs, insOf y M = some (C, fs)) ∧ φ [y, x] M (fun r M1 => ∃ b, r = .bl b ∧ k (.bl (if neg then !b else b)) M1) xx
theorem own_in {pins : List (Addr × Obj)} {s : Shared} {σ : L2.St} {x : V} {u : Value} {Q : VK} {s0 : Sta} {dx dy : D} {kk : DK} {xx : DX} {neg : Bool} {a : Addr} (F : FnOk X.prog X.w X.K X.mg X.base CX k f fd ps (spD X.K 2 φ)) (hb : KBd X.K fd ps 2 [] (fun us _ => us)) (hr : Room k X.A) (hx : Passes CX X E)
    (I : Inv X pins σ s0.H s) (rx : RelV x u) (ok : Ok X.K s0) (hdx : Rep X.K s0.G x dx) (hdy : Rep X.K s0.G (.ref a) dy) (q : φ [dy, dx] s0.M (fun r M1 => ∃ b, r = .bl b ∧ kk (.bl (if neg then !b else b)) M1) xx) (p : Post X.K s0 kk Q) (px : PostX X.K E s0 xx) :
    wpAny (model X.prog X.w) X.A (call (.ref f) [.ref a, u]) (fun r s' => wpAny (model X.prog X.w) X.A (truthy r) (fun b => EP X pins σ Q (.bool (if neg then !b else b))) X.xe s') X.xe s := by
  refine wpAny_mono (run_D (Q := fun v H' => ∃ b, v = .bl b ∧ Q (.bl (if neg then !b else b)) H') (us := [.ref a, u]) (vs := [.ref a, x]) (ws := []) (zs := []) F hr hb hx I (.cons rfl (.cons rx .nil)) .nil ⟨s0, [dy, dx], [], _, xx, rfl, ok, .cons hdy (.cons hdx .nil), .nil, rfl, rfl, rfl, q, ?_, px⟩) (fun w s' z => ?_) fun _ _ x => x
  · rintro d t ⟨b, rfl, qb⟩ st okt v rv
    cases rv
    exact ⟨b, rfl, p _ t qb st okt _ .bl⟩
  · obtain ⟨z', H', I', rz, b, rfl, qz⟩ := z
    cases (show w = Value.bool b from rz)
    exact wpAny_truthy_bool ⟨.bl _, H', I', rfl, qz⟩
theorem o_ownIn (hs : PySem.W.findIn X.K (.ref C) "__contains__" = some (some (.ref f))) (hf : PySem.W.isFn X.K (.ref f) = true) (F : FnOk X.prog X.w X.K X.mg X.base CX k f fd ps (spD X.K 2 φ)) (hb : KBd X.K fd ps 2 [] (fun us _ => us)) (hr : Room k X.A) (hx : Passes CX X E) :
    OpR X (compareOp .In) (r2 X.K E (dOwnIn false C φ)) := by
  intro pins s σ H x y u v Q I rx ry h
  obtain ⟨s0, dx, dy, kk, xx, rfl, ok, hdx, hdy, ⟨⟨fs, hi⟩, q⟩, p, px⟩ := h
  obtain ⟨a, da, fvs, rfl, ha, rf⟩ := ins_of ok hdy hi
  obtain rfl : v = Value.ref a := ry
  obtain ⟨_, O, _⟩ := ins_get I.hok ha
  obtain ⟨_, J, _⟩ := O.look
  obtain ⟨m, hF⟩ := I.fr
  exact PySem.W.in_K hF I.ok.mod.kin J hs hf (own_in (neg := false) F hb hr hx I rx ok hdx hdy q p px)
theorem o_ownNotIn (hs : PySem.W.findIn X.K (.ref C) "__contains__" = some (some (.ref f))) (hf : PySem.W.isFn X.K (.ref f) = true) (F : FnOk X.prog X.w X.K X.mg X.base CX k f fd ps (spD X.K 2 φ)) (hb : KBd X.K fd ps 2 [] (fun us _ => us)) (hr : Room k X.A) (hx : Passes CX X E) :
    OpR X (compareOp .NotIn) (r2 X.K E (dOwnIn true C φ)) := by
  intro pins s σ H x y u v Q I rx ry h
  obtain ⟨s0, dx, dy, kk, xx, rfl, ok, hdx, hdy, ⟨⟨fs, hi⟩, q⟩, p, px⟩ := h
  obtain ⟨a, da, fvs, rfl, ha, rf⟩ := ins_of ok hdy hi
  obtain rfl : v = Value.ref a := ry
  obtain ⟨_, O, _⟩ := ins_get I.hok ha
  obtain ⟨_, J, _⟩ := O.look
  obtain ⟨m, hF⟩ := I.fr
  exact PySem.W.notIn_K hF I.ok.mod.kin J hs hf (own_in (neg := true) F hb hr hx I rx ok hdx hdy q p px)
/-- the right value's class decides: own, where it is an instance of C -/
def dSelR (C : Addr) (own g : D2) : D2 := fun x y M k xx => match insOf y M with
  | some (D, _) => if D = C then own x y M k xx else g x y M k xx
  | none => g x y M k xx
theorem o_selR {g : Value → Value → Sem Value} {own h : D2} (h1 : OpR X g (r2 X.K E own)) (h2 : OpR X g (r2 X.K E h)) : OpR X g (r2 X.K E (dSelR C own h)) := by
  intro pins s σ H x y u v Q I rx ry hh
  obtain ⟨s0, dx, dy, kk, xx, rfl, ok, hdx, hdy, q, p, px⟩ := hh
  unfold dSelR at q
  split at q
  · split at q
    · exact h1 pins s σ _ x y u v Q I rx ry ⟨s0, dx, dy, kk, xx, rfl, ok, hdx, hdy, q, p, px⟩
    · exact h2 pins s σ _ x y u v Q I rx ry ⟨s0, dx, dy, kk, xx, rfl, ok, hdx, hdy, q, p, px⟩
  · exact h2 pins s σ _ x y u v Q I rx ry ⟨s0, dx, dy, kk, xx, rfl, ok, hdx, hdy, q, p, px⟩
/-- the left value's class decides: own, where it is an instance of C -/
def dSelC (C : Addr) (own g : D2) : D2 := fun x y M k xx => match insOf x M with
  | some (D, _) => if D = C then own x y M k xx else g x y M k xx
  | none => g x y M k xx
theorem o_selC {g : Value → Value → Sem Value} {own h : D2} (h1 : OpR X g (r2 X.K E own)) (h2 : OpR X g (r2 X.K E h)) : OpR X g (r2 X.K E (dSelC C own h)) := by
  intro pins s σ H x y u v Q I rx ry hh
  obtain ⟨s0, dx, dy, kk, xx, rfl, ok, hdx, hdy, q, p, px⟩ := hh
  unfold dSelC at q
  split at q
  · split at q
    · exact h1 pins s σ _ x y u v Q I rx ry ⟨s0, dx, dy, kk, xx, rfl, ok, hdx, hdy, q, p, px⟩
    · exact h2 pins s σ _ x y u v Q I rx ry ⟨s0, dx, dy, kk, xx, rfl, ok, hdx, hdy, q, p, px⟩
  · exact h2 pins s σ _ x y u v Q I rx ry ⟨s0, dx, dy, kk, xx, rfl, ok, hdx, hdy, q, p, px⟩
/-! ### a changing list and [] -/
def dNeNil : D2 := fun x y M k _ => ∃ a ds, x = .cel a ∧ y = .lst [] ∧ M a = some (.lst ds) ∧ k (.bl (!ds.isEmpty)) M
theorem o_neNil (hu : X.A.units + 64 < cLine) : OpR X (compareOp .NotEq) (r2 X.K E dNeNil) := by
  intro pins s σ H x y u v Q I rx ry h
  obtain ⟨s0, dx, dy, kk, xx, rfl, ok, hdx, hdy, ⟨a, ds, rfl, rfl, hm, q⟩, p, px⟩ := h
  cases hdx
  obtain ⟨b, vs, rfl, hb, rs⟩ := hdy.lst_of
  cases rs
  obtain ⟨ws, ha, rw'⟩ := ok.cells _ _ hm
  obtain rfl : u = Value.ref a := rx
  obtain rfl : v = Value.ref b := ry
  obtain ⟨its, rv, pl, hz⟩ := I.list (SqL.of ha)
  obtain ⟨jts, rj, pl', hz'⟩ := I.list (SqL.of (ok.sub _ _ hb))
  cases rj
  have hl := rv.length
  have hl' := rw'.length
  show wpAny _ _ (richCompare .NotEq _ _) _ _ _
  cases ds with
  | nil =>
    have e : its = [] := List.eq_nil_of_length_eq_zero (by rw [← hl, hl']; rfl)
    subst e
    exact SeqAt.RcNeAt.lists (e := fun _ => true) pl.isList pl'.isList rfl (by omega) (fun j h1 => absurd h1 (by simp)) _ _ _ _ ⟨.bl false, s0.H, I, rfl, p.now q ok .bl⟩
  | cons d ds =>
    refine SeqAt.RcNeAt.lists_lengths pl.isList pl'.isList ?_ (by omega) _ _ _ _ ⟨.bl true, s0.H, I, rfl, p.now q ok .bl⟩
    have : its.length = ds.length + 1 := by rw [← hl, hl']; rfl
    simp [this]
/-! ### x op= e of ints -/
def dAugI (i : Nat) (g : Int → Int → Int) (τ : DE) : DS := fun k x ρ M => ∃ a, ρ[i]? = some (some (.int a)) ∧ τ ρ M (fun u M1 => ∃ b, u = .int b ∧ k.nx (ρ.set i (some (.int (g a b)))) M1) x
theorem s_augI {i : Nat} {y : Str} {op : Operator} {g : Int → Int → Int} {pos' : Pos} (ho : PIp X op (ipI g)) (hN : X.N.Nodup) (hi : X.N[i]? = some y) (hx : Loc X.env.scope y) (he : DP X E e τ) (hf : X.fn y = true ∨ X.env.scope.names.lookup y = some .local := by first | exact .inl rfl | exact .inr rfl | assumption) :
    DPS X E (.AugAssign (.Name y pos') op e pos) (dAugI i g τ) := ps_mono (ps_aug hN hi hx he ho hf) fun D σ H h => by
  obtain ⟨ρ, s, k, x, rfl, er, ⟨a, ha, q⟩, p, px⟩ := h
  obtain ⟨v, hv, rv⟩ := er.at_ _ _ ha
  cases rv.int_of
  refine ⟨.int a, hv, ρ, s, _, x, rfl, er, q, fun u s1 q1 st1 ok1 v1 r1 => ?_, px⟩
  obtain ⟨b, rfl, q1⟩ := q1
  exact ⟨a, b, rfl, r1.int_of, p.nx _ s1 q1 st1 _ ((er.step st1 ok1).set i .int)⟩
/-- xs.extend(ys) -/
def dExtend : D → List D → Mm → DK → DX → Prop
  | .cel a, [.lst es], M, k, _ => ∃ ds, M a = some (.lst ds) ∧ ds.length + es.length ≤ sizeLine ∧ k .non (mup M a (.lst (ds ++ es)))
  | _, _, _, _, _ => False
theorem m_extend : MtR X "list.extend" (rM X.K E dExtend) := by
  intro pins s σ H x xs v us Q I rx rs h
  obtain ⟨s0, dx, ds, k, xx, rfl, ok, hx, hxs, q, p, px⟩ := h
  unfold dExtend at q
  split at q
  · cases hx
    obtain ⟨ds, hm, hz, q⟩ := q
    obtain ⟨y, rfl, ry⟩ := hxs.one
    obtain ⟨b, zs, rfl, hb, rz⟩ := ry.lst_of
    obtain ⟨vs, e, r1⟩ := ok.cells _ _ hm
    obtain ⟨k4, st4⟩ := ok.put (o := .lst (vs ++ zs)) (mo := .lst (ds ++ _)) (by rw [hm]; rfl) ⟨_, rfl, r1.append rz⟩
    exact mt_extend pins s σ _ _ _ v us Q I rx rs ⟨_, b, vs, zs, rfl, rfl, e, ok.sub _ _ hb, by rw [r1.length, rz.length]; exact hz, p _ ⟨_, _, _⟩ q st4 k4 _ .non⟩
  · exact q.elim
/-! ### not e, by the class's own __bool__ -/
def dNotO (C : Addr) (φ : Ct) (τ : DE) : DE := fun ρ M k x => τ ρ M (fun u M1 => (∃ fs, insOf u M1 = some (C, fs)) ∧ φ [u] M1 (fun r M2 => ∃ b, r = .bl b ∧ k (.bl (!b)) M2) x) x
theorem d_notO (hs : PySem.W.findIn X.K (.ref C) "__bool__" = some (some (.ref f))) (hf : PySem.W.isFn X.K (.ref f) = true) (F : FnOk X.prog X.w X.K X.mg X.base CX k f fd ps (spD X.K 1 φ)) (hb : KBd X.K fd ps 1 [] (fun us _ => us)) (hr : Room k X.A) (hx : Passes CX X E)
    (h : DP X E e τ) : DP X E (.UnaryOp .Not e pos) (dNotO C φ τ) := by
  refine ⟨fun pins s σ H Q I hh => ?_⟩
  obtain ⟨ρ, s0, kk, xx, rfl, er, q, pp, px⟩ := hh
  refine UnaryOp_ (thn (h.run pins s σ s0.H (fun v H1 => ∃ s1 d, s1.H = H1 ∧ Ok X.K s1 ∧ Step s0 s1 ∧ Rep X.K s1.G v d ∧ (∃ fs, insOf d s1.M = some (C, fs)) ∧ φ [d] s1.M (fun r M2 => ∃ b, r = .bl b ∧ kk (.bl (!b)) M2) xx) I
    ⟨ρ, s0, _, xx, rfl, er, q, fun d s1 q1 st1 ok1 v1 r1 => ⟨s1, d, rfl, ok1, st1, r1, q1⟩, px⟩) fun u s1 ⟨x, H1, I1, rx, sa, d, e1, oka, sta, ra, ⟨fs, hi⟩, q1⟩ => ?_)
  subst e1
  obtain ⟨a, dx, fvs, ex, hha, rf⟩ := ins_of oka ra hi
  subst ex
  obtain rfl : u = Value.ref a := rx
  obtain ⟨_, O, _⟩ := ins_get I1.hok hha
  obtain ⟨_, J, _⟩ := O.look
  obtain ⟨m, hF⟩ := I1.fr
  refine not_of (PySem.W.truthy_K hF I1.ok.mod.kin J hs hf ?_)
  refine wpAny_mono (run_D (Q := fun v H' => ∃ b, v = .bl b ∧ Q (.bl (!b)) H') (us := [.ref a]) (vs := [.ref a]) (ws := []) (zs := []) F hr hb hx I1 (.cons rfl .nil) .nil ⟨sa, [d], [], _, xx, rfl, oka, .cons ra .nil, .nil, rfl, rfl, rfl, q1, ?_, px.step sta⟩) (fun w s' z => ?_) fun _ _ x => x
  · rintro r t ⟨b, rfl, qb⟩ st okt v rv
    cases rv
    exact ⟨b, rfl, pp _ t qb (sta.trans st) okt _ .bl⟩
  · obtain ⟨z', H', I', rz, b, rfl, qz⟩ := z
    cases (show w = Value.bool b from rz)
    exact ⟨.bl (!b), H', I', rfl, qz⟩
end
/-! ### a comprehension over a changing list -/
inductive LcKC (g : DG) (θ : DT) (ε : DE) (vs : List Nat) (ρ : DEnv) (a : Addr) (ds : List D) (M0 : Mm) (k : DK) : Prop where
  | of (hl : ds.length < sizeLine) (I : Nat → List D → Mm → Prop) (i0 : I 0 [] M0) (keep : ∀ j acc M, I j acc M → M a = some (.lst ds))
      (turn : ∀ (j : Nat) (d : D) (acc : List D) (M : Mm), ds[j]? = some d → I j acc M → g d (wipeD ρ vs) M fun ρ1 M2 => θ ρ1 M2 (fun b M3 => if b = true then ε ρ1 M3 (fun y M4 => I (j + 1) (acc ++ [y]) M4) (fun _ _ _ => False) else I (j + 1) acc M3) (fun _ _ _ => False))
      (fin : ∀ acc M, I ds.length acc M → k (.lst acc) M)
  | no (h : False)
def dLcC (τ : DE) (g : DG) (θ : DT) (ε : DE) (vs : List Nat) : DE := fun ρ M k x => τ ρ M (fun u M1 => ∃ a ds, u = .cel a ∧ M1 a = some (.lst ds) ∧ LcKC g θ ε vs ρ a ds M1 k) x
theorem up_lcC {K : PySem.W.Frag} {E : XK} {τ : DE} {g : TG} {γ : DG} {θ : DT} {ε : DE} {vs : List Nat} {σ : L2.St} {H : Hp} {Q : VK} (gp : GPair K g γ vs) (h : up K E (dLcC τ γ θ ε vs) σ H Q) : tLc (iList K (up K E τ)) g (upT K E0 θ) (up K E0 ε) vs σ H Q := by
  obtain ⟨ρ, s, k, x, rfl, er, q, p, px⟩ := h
  refine ⟨ρ, s, _, x, rfl, er, q, fun u s1 q1 st1 ok1 v1 r1 => ?_, px⟩
  obtain ⟨a, ds, rfl, hm, q1⟩ := q1
  have hv := r1.cel_of
  subst hv
  rcases q1 with ⟨hlen, I, i0, keep, turn, fin⟩ | z
  case no => exact z.elim
  have at_ : ∀ t : Sta, Ok K t → t.M a = some (.lst ds) → ∃ us, SqL K t.H a us ∧ Reps K t.G us ds := fun t ok hm => by
    obtain ⟨us, e, r⟩ := ok.cells _ _ hm
    exact ⟨us, SqL.of e, r⟩
  obtain ⟨us0, hq0, _⟩ := at_ s1 ok1 hm
  refine ⟨a, rfl, ⟨us0, hq0⟩, ?_⟩
  intro L hL
  have inv0 : ∃ (acc : List D) (vs' : List V) (s' : Sta), s'.H = upd s1.H L (.lst []) ∧ Ok K s' ∧ Step s1 s' ∧ s'.G L = none ∧ s'.M L = none ∧ s'.H L = some (.lst vs') ∧ Reps K s'.G vs' acc ∧ acc.length ≤ 0 ∧ I 0 acc s'.M := by
    obtain ⟨k1, st⟩ := ok1.hide (o := .lst []) (Step.refl s1) hL (ok1.freeG hL) (ok1.freeM hL)
    exact ⟨[], [], ⟨_, _, _⟩, rfl, k1, st, ok1.freeG hL, ok1.freeM hL, upd_same, .nil, Nat.le_refl _, i0⟩
  refine ⟨fun j m H' => m = ds.length - j ∧ j ≤ ds.length ∧ ∃ (acc : List D) (vs' : List V) (s' : Sta), s'.H = H' ∧ Ok K s' ∧ Step s1 s' ∧ s'.G L = none ∧ s'.M L = none ∧ s'.H L = some (.lst vs') ∧ Reps K s'.G vs' acc ∧ acc.length ≤ j ∧ I j acc s'.M,
    ⟨ds.length, rfl, Nat.zero_le _, inv0⟩, ?_⟩
  rintro j m H' ⟨rfl, hj, acc, vs', s', rfl, ok', st', gL, mL, hL', rs, hal, ij⟩
  obtain ⟨us, hq, ru⟩ := at_ s' ok' (keep j acc s'.M ij)
  have hul := ru.length
  by_cases hlt : j < ds.length
  · refine .inr ⟨⟨us, us[j]'(by omega), hq, by simp [hul ▸ hlt]⟩, fun H2 => ∃ (acc : List D) (vs' : List V) (s' : Sta), s'.H = H2 ∧ Ok K s' ∧ Step s1 s' ∧ s'.G L = none ∧ s'.M L = none ∧ s'.H L = some (.lst vs') ∧ Reps K s'.G vs' acc ∧ acc.length ≤ j + 1 ∧ I (j + 1) acc s'.M,
      fun H2 z => ⟨ds.length - (j + 1), by omega, rfl, hlt, z⟩, fun v H2 y => ?_⟩
    obtain ⟨d, hd⟩ : ∃ d, ds[j]? = some d := ⟨ds[j], by simp [hlt]⟩
    obtain ⟨eH, y⟩ := y
    subst eH
    obtain ⟨v', hv', rv⟩ := ru.get hd
    have y := y us hq
    rw [hv'] at y
    cases y
    have eru : ER K s' (wipe σ vs) (wipeD ρ vs) := (er.step (st1.trans st') ok').wipe vs
    refine gp.run _ d _ _ s' _ _ eru rv (turn j d acc s'.M hd ij) fun ρ3 σ3 q3 er3 w3 => ⟨w3.trans (wipe_wipe σ vs), ?_⟩
    refine ⟨ρ3, s', _, _, rfl, er3, q3, fun b s4 q4 st4 ok4 => ?_, PostX.never⟩
    obtain ⟨hL4, gL4, mL4⟩ := st4.hid L _ hL' gL mL
    cases b with
    | true =>
      rw [if_pos rfl] at q4 ⊢
      refine ⟨ρ3, s4, _, _, rfl, er3.step st4 ok4, q4, fun yd s5 q5 st5 ok5 yv ry => ?_, PostX.never⟩
      obtain ⟨hL5, gL5, mL5⟩ := st5.hid L _ hL4 gL4 mL4
      have rs5 : Reps K s5.G vs' acc := rs.same (st4.trans st5).same
      refine ⟨vs', hL5, by rw [rs5.length]; omega, ?_⟩
      obtain ⟨k6, st6⟩ := ok5.hide (o := .lst (vs' ++ [yv])) ((st'.trans st4).trans st5) hL gL5 mL5
      exact ⟨acc ++ [yd], vs' ++ [yv], ⟨_, _, _⟩, rfl, k6, st6, gL5, mL5, upd_same, rs5.append (.cons ry .nil), by simp; omega, q5⟩
    | false =>
      rw [if_neg Bool.false_ne_true] at q4 ⊢
      exact ⟨acc, vs', s4, rfl, ok4, st'.trans st4, gL4, mL4, hL4, rs.same st4.same, by omega, q4⟩
  · have ej : j = ds.length := by omega
    subst ej
    refine .inl ⟨⟨us, hq, by omega⟩, ?_⟩
    obtain ⟨k6, st6, sm⟩ := ok'.shown st' hL gL mL hL'
    exact p _ ⟨s'.H, upd s'.G L (.lst vs'), s'.M⟩ (fin acc s'.M ij) (st1.trans st6) k6 _ (.lst upd_same (rs.same sm))
section
variable {X : Cx} {CX : CXT} {E : XK} {k n nn i : Nat} {f C pp : Addr} {mc : Value} {fd : FuncData} {ps ks N : List Str} {φ : Ct} {x m pv : Str} {p pos apos : Pos} {e o : Expr} {es : List Expr} {kws : List Keyword} {αa ακ : DA} {τ : DE} {gD : List D → List D → List D}
theorem d_lcC {tg elt : Expr} {ifs : List Expr} {scope : Scope} {own : List (Str × Nat)} {g : TG} {γ : DG} {θ : DT} {ε : DE} (hc : X.calm = true) (hN : X.N.Nodup) (hi : DP X E e τ) (ok : BlkOk X.N X.env.scope scope own) (gp : GPair X.K g γ (own.map (·.2)))
    (hg : ∀ (s : Shared) (H : Hp) (C : Addr) (cl : List (Str × Addr)) (fp : List Addr), PG (X.blk s H scope (compEnvC scope cl C X.env) fp) tg g) (ht : ∀ (s : Shared) (H : Hp) (C : Addr) (cl : List (Str × Addr)) (fp : List Addr), DPTs (X.blk s H scope (compEnvC scope cl C X.env) fp) E0 ifs θ)
    (he : ∀ (s : Shared) (H : Hp) (C : Addr) (cl : List (Str × Addr)) (fp : List Addr), DP (X.blk s H scope (compEnvC scope cl C X.env) fp) E0 elt ε) (hs : ∀ x, foldedSetIterable e X.env x = pure x := by intro _; rfl) :
    DP X E (.ListComp elt [⟨tg, e, ifs, 0⟩] scope pos) (dLcC τ γ θ ε (own.map (·.2))) := pe_mono (pe_lc (tt := upT X.K E0 θ) (te := up X.K E0 ε) hc hN (pi_list hi) ok hg ht he hs) fun _ _ _ h => up_lcC gp h
/-! ### static methods -/
structure CSta (K : PySem.W.Frag) (C : Addr) (mc : Value) (m : Str) (p f : Addr) : Prop where
  at_ : PySem.W.findCls K (.ref C) mc m = some (.get (.builtin "staticmethod.__get__") (.ref p) .none (.ref C))
  rc : ∃ rest, PySem.W.recIn K p "staticmethod" = some (.ref f :: rest)
  kp : PySem.W.keepIn K (.ref f) = true
theorem d_smeth {pl : Sem Bool} {p1 : Pos} (r : ClX.CRead X.K C mc) (c : ∃ pp, CSta X.K C mc m pp f) (F : FnOk X.prog X.w X.K X.mg X.base CX k f fd ps (spD X.K nn φ)) (hr : Room k X.A) (hg : Gl X x) (hm : X.mg x = some (.ref C)) (hb : KBd X.K fd ps n ks gD) (hgl : ∀ us ws : List D, us.length = n → ws.length = ks.length → (gD us ws).length = nn) (hx : Passes CX X E)
    (ha : DPA X E (e :: es) αa) (hkw : DPK X E kws ακ) (hall : (backToKw pos (keywordEach kws X.env)).all (·.1.isSome) = true := by rfl) (hks : (backToKw pos (keywordEach kws X.env)).filterMap (·.1) = ks := by rfl)
    (hdb : (x == ("__debug__" : Str)) = false := by decide) (he : starEach (e :: es) X.env = (false, eval e X.env) :: starEach es X.env := by rfl)
    (hpl : ((backTo pos (starEach (e :: es) X.env)).any (·.1) || (backToKw pos (keywordEach kws X.env)).any (·.1.isNone)) = false := by rfl)
    (ht : eval (.Call (.Attribute (.Name x p1) m apos) (e :: es) kws pos) X.env = (do
      let ov ← eval (.Name x p1) X.env
      standAt apos.atName
      let (f, first) ← holding [ov] (getMethod ov m pl)
      callWith pos f first (backTo pos (starEach (e :: es) X.env)) (backToKw pos (keywordEach kws X.env))) := by rfl) :
    DP X E (.Call (.Attribute (.Name x p1) m apos) (e :: es) kws pos) (dCallK n ks.length φ gD αa ακ) := by
  refine ⟨fun pins s σ H Q I h => ?_⟩
  obtain ⟨ρ, s0, kk, xx, rfl, er, q, ppp, px⟩ := h
  obtain ⟨pp, c⟩ := c
  refine PySem.W.methodCall_KW (pl := pl) (ld_glob I hg hm ?_ hdb) ht
  obtain ⟨rest, hp⟩ := c.rc
  refine PySem.W.method_cls I.kIn r.ga ?_
  refine PySem.W.cls_bind I.kIn r.rd c.at_ ?_
  refine wpAny_call (PySem.W.sm_get (s := { s with toks := s.toks + 1 }) I.kIn hp (PySem.W.handed_on rfl ?_))
  have I0 : Inv X pins σ s0.H { s with toks := s.toks + 1 } := I.tok _
  refine PySem.W.callWith_KW (first := []) (h₀ := X.base) I.ok.mod.kin c.kp hall (thn (ha.run pos pins _ σ s0.H (fun vs H1 => ∃ s1 ds, s1.H = H1 ∧ Ok X.K s1 ∧ Step s0 s1 ∧ Reps X.K s1.G vs ds ∧ ακ ρ s1.M (fun zs M2 => ds.length = n ∧ zs.length = ks.length ∧ φ (gD ds zs) M2 kk xx) xx) I0 ⟨ρ, s0, _, xx, rfl, er, q, fun ds s1 q1 st1 ok1 vs r1 => ⟨s1, ds, rfl, ok1, st1, r1, q1⟩, px⟩) fun us s1 ⟨vs, H1, I1, r, s2, ds, e2, ok2, st2, r2, q2⟩ => ?_) hpl he
  subst e2
  refine thn (hkw.run pos pins s1 σ s2.H (fun zs H2 => ∃ s3 zd, s3.H = H2 ∧ Ok X.K s3 ∧ Step s2 s3 ∧ Reps X.K s3.G zs zd ∧ ds.length = n ∧ zd.length = ks.length ∧ φ (gD ds zd) s3.M kk xx) I1 ⟨ρ, s2, _, xx, rfl, er.step st2 ok2, q2, fun zd s3 q3 st3 ok3 zs r3 => ⟨s3, zd, rfl, ok3, st3, r3, q3⟩, px.step st2⟩) fun ws s3 ⟨zs, H2, I2, rz, s4, zd, e4, ok4, st4, r4, l4, l5, q4⟩ => ⟨I2.kIn, ?_⟩
  subst e4
  rw [hks]
  exact run_D F hr hb hx I2 r rz ⟨s4, ds, zd, kk, xx, rfl, ok4, r2.same st4.same, r4, l4, l5, hgl _ _ l4 l5, q4, ppp.step (st2.trans st4), px.step (st2.trans st4)⟩
/-! ### defs with a star parameter, as classmethods -/
def spS (K : PySem.W.Frag) (n : Nat) (φ : Ct) : Sp := fun vs H Q E => ∃ s ds k x, s.H = H ∧ Ok K s ∧ Reps K s.G vs ds ∧ n ≤ ds.length ∧ ds.length ≤ sizeLine ∧ φ (ds.take n ++ [.tup (ds.drop n)]) s.M k x ∧ Post K s k Q ∧ PostX K E s x
theorem fn_DS {P : Program} {w : World} {K : PySem.W.Frag} {mg : Str → Option Value} {base : Heap} {y qual : Str} {params : Arguments} {body : List Stmt} {scope : Scope} (F : FunD K y qual params body scope [] [] f fd) (S : FnScope N (ps ++ [pv]) scope) (hn : n = ps.length)
    (hb : ∀ (kV doc pm : Value) (an : Option Addr) (cdv ct : Value) (us rest : List Value), us.length = ps.length → bindArgs (PySem.W.fnOf y qual params body scope .none kV doc pm an cdv ct) ⟨us ++ rest, []⟩ = (newTuple rest >>= fun t => pure (ps.zip us ++ [(pv, t)])))
    (h : ∀ (cdv : Value) (A : Around) (outer : List Env) (s : Shared) (H : Hp) (E : XK), Room k (A.deeper (envOfC qual scope s.heap.objs.size f cdv)) →
      Passes (L2.CX P w) (cxOf (L2.CX P w) P w K mg base N qual scope f cdv A outer s H E) E → PassesOwn (model P w) (cxOf (L2.CX P w) P w K mg base N qual scope f cdv A outer s H E).A (cxOf (L2.CX P w) P w K mg base N qual scope f cdv A outer s H E).env (cxOf (L2.CX P w) P w K mg base N qual scope f cdv A outer s H E).xe →
      ∃ τ, DPB (cxOf (L2.CX P w) P w K mg base N qual scope f cdv A outer s H E) E body τ ∧
        ∀ (ds : List D) (M : Mm) (kk : DK) (x : DX), ds.length = n + 1 → φ ds M kk x → τ { nx := fun _ M => kk .non M, rt := kk, m0 := M } x (startD N ds) M) : FnR P w K mg base (L2.CX P w) (k + 1) f (spS K n φ) := by
  obtain ⟨oc, od, dV, kV, doc, pm, an, cdv, ct, osl, rfl, lk, hcd, hD, hK⟩ := F.ex
  rcases hD with ⟨_, rfl⟩ | ⟨e, _⟩
  case inr => exact absurd rfl e
  have G := StX.fn_star (P := P) (w := w) (mg := mg) (base := base) (CX := L2.CX P w) (k := k) (sp := spD K (n + 1) φ) (ps := ps) (pv := pv) lk hcd S StX.cxUp (hb kV doc pm an cdv ct) fun A outer s H vs Q E hr q => by
    obtain ⟨τ, ht, hq⟩ := h cdv A outer s H E hr (pass_own rfl rfl rfl rfl) (passes_of rfl)
    refine ⟨_, ht, ?_⟩
    obtain ⟨s0, ds, kk, xx, rfl, o, r, hl, f, p, px⟩ := q
    exact ⟨_, s0, _, xx, rfl, er_start o r, hq ds s0.M kk xx hl f, ⟨fun ρ t q st σ er => p _ t q st er.ok _ .non, ⟨s0, Step.refl s0, o, rfl, p⟩, fun _ _ z => z.elim, fun _ _ z => z.elim⟩, px⟩
  intro A outer s H us vs Q E hr e0 r q
  refine G A outer s H us vs Q E hr e0 r ?_
  obtain ⟨s0, ds, kk, xx, rfl, o, r, hl, hz, f, p, px⟩ := q
  have hlen := r.length
  refine ⟨vs.take n, vs.drop n, (List.take_append_drop n vs).symm, by rw [List.length_take, hlen, ← hn]; omega, by rw [List.length_drop, hlen]; omega, fun q hq => ?_⟩
  obtain ⟨k2, st2⟩ := o.new (o := .tup (vs.drop n)) hq
  refine ⟨⟨_, _, _⟩, _, kk, xx, rfl, k2, ?_, ?_, f, p.step st2, px.step st2⟩
  · exact ((r.take n).same st2.same).append (.cons (.tup (SqT.of upd_same) ((r.drop n).same st2.same)) .nil)
  · rw [List.length_append, List.length_take]
    show min n ds.length + 1 = n + 1
    omega
def dCMeth (C : Addr) (φ : Ct) (α : DA) : DE := fun ρ M k x => α ρ M (fun ds M1 => ds.length < sizeLine ∧ φ [.cel C, .tup ds] M1 k x) x
theorem d_cmeth {pl : Sem Bool} {p1 : Pos} (r : ClX.CRead X.K C mc) (c : ∃ pp, ClX.CMet X.K C mc m pp f) (F : FnR X.prog X.w X.K X.mg X.base CX k f (spS X.K 1 φ)) (hr : Room k X.A) (hg : Gl X x) (hm : X.mg x = some (.ref C)) (hx : Passes CX X E) (ha : DPA X E (e :: es) αa)
    (hd : (x == ("__debug__" : Str)) = false := by decide)
    (hst : starEach (e :: es) X.env = (false, eval e X.env) :: starEach es X.env := by rfl) (hpl : (backTo pos (starEach es X.env)).any (·.1) = false := by rfl)
    (ht : eval (.Call (.Attribute (.Name x p1) m apos) (e :: es) [] pos) X.env = (do
      let ov ← eval (.Name x p1) X.env
      standAt apos.atName
      let (f, first) ← holding [ov] (getMethod ov m pl)
      callWith pos f first (backTo pos (starEach (e :: es) X.env)) (backToKw pos (keywordEach [] X.env))) := by rfl) :
    DP X E (.Call (.Attribute (.Name x p1) m apos) (e :: es) [] pos) (dCMeth C φ αa) := by
  obtain ⟨pp, c⟩ := c
  refine pe_mono (ClX.pe_cmeth (pe_glob (v := .ref C) hg hm rfl hd) r c F hr hx ha hst hpl ht) fun σ H Q h => ?_
  obtain ⟨ρ, s, k, xx, rfl, er, q, p, px⟩ := h
  refine ⟨rfl, ρ, s, _, xx, rfl, er, q, fun ds s1 q1 st1 ok1 vs r1 => ?_, px⟩
  exact ⟨s1, .cel C :: ds, k, xx, rfl, ok1, .cons .cel r1, by simp, q1.1, q1.2, p.step st1, px.step st1⟩
/-! ### a class in a local name, called -/
def dMakeV (i : Nat) (C : Addr) (n m : Nat) (φ : Ct) (gD : List D → List D → List D) (α κ : DA) : DE := fun ρ M k x => ρ[i]? = some (some (.cel C)) ∧ dMake C n m φ gD α κ ρ M k x
theorem d_makeV (Mk : Mk X.K C f) (F : FnOk X.prog X.w X.K X.mg X.base CX k f fd ps (spD X.K nn φ)) (hr : Room (k + 1) X.A) (hN : X.N[i]? = some x) (hv : Vis X.env.scope x) (hb : KBd X.K fd ps (n + 1) ks gD) (hgl : ∀ us ws : List D, us.length = n + 1 → ws.length = ks.length → (gD us ws).length = nn) (hx : Passes CX X E)
    (ha : DPA X E (e :: es) αa) (hkw : DPK X E kws ακ) (hall : (backToKw pos (keywordEach kws X.env)).all (·.1.isSome) = true := by rfl) (hks : (backToKw pos (keywordEach kws X.env)).filterMap (·.1) = ks := by rfl)
    (hdb : (x == ("__debug__" : Str)) = false := by decide) (hcd : (x == ("__classdict__" : Str)) = false := by decide) (he : starEach (e :: es) X.env = (false, eval e X.env) :: starEach es X.env := by rfl)
    (hpl : ((backTo pos (starEach (e :: es) X.env)).any (·.1) || (backToKw pos (keywordEach kws X.env)).any (·.1.isNone)) = false := by rfl) :
    DP X E (.Call (.Name x p) (e :: es) kws pos) (dMakeV i C n ks.length φ gD αa ακ) := by
  obtain ⟨g, gV, hb, hrep⟩ := hb.ex
  refine ⟨fun pins s σ H Q I h => ?_⟩
  obtain ⟨ρ, s0, kk, xx, rfl, er, ⟨hv0, q⟩, pp, px⟩ := h
  obtain ⟨v, hv1, rv⟩ := er.at_ _ _ hv0
  cases rv.cel_of
  refine wpAny_Call_Name_kw (thn ((pe_var (pos := p) hN hv hdb hcd).run pins s σ s0.H (fun v H1 => v = .ref C ∧ H1 = s0.H) I ⟨.ref C, hv1, rfl, rfl⟩) fun u s1 ⟨v, H1, I1, r1, q1⟩ => ?_)
  obtain ⟨rfl, rfl⟩ := q1
  obtain rfl : u = Value.ref C := r1
  refine PySem.W.callWith_KW (h₀ := X.base) I.ok.mod.kin Mk.kp hall (thn (ha.run pos pins s1 σ s0.H (fun vs H1 => ∃ sa ds, sa.H = H1 ∧ Ok X.K sa ∧ Step s0 sa ∧ Reps X.K sa.G vs ds ∧ ακ ρ sa.M (fun zs M2 => ds.length = n ∧ zs.length = ks.length ∧ mkC C φ gD ds zs M2 kk xx) xx) I1 ⟨ρ, s0, _, xx, rfl, er, q, fun ds s1 q1 st1 ok1 vs r1 => ⟨s1, ds, rfl, ok1, st1, r1, q1⟩, px⟩) fun us s2 ⟨vs, H2, I2, r, sa, ds, ea, oka, sta, ra, qa⟩ => ?_) hpl he
  subst ea
  refine thn (hkw.run pos pins s2 σ sa.H (fun zs H2 => ∃ sb zd, sb.H = H2 ∧ Ok X.K sb ∧ Step sa sb ∧ Reps X.K sb.G zs zd ∧ ds.length = n ∧ zd.length = ks.length ∧ mkC C φ gD ds zd sb.M kk xx) I2 ⟨ρ, sa, _, xx, rfl, er.step sta oka, qa, fun zd s3 q3 st3 ok3 zs r3 => ⟨s3, zd, rfl, ok3, st3, r3, q3⟩, px.step sta⟩) fun ws s3 ⟨zs, H3, I3, rz, sb, zd, eb, okb, stb, rb, l1, l2, qb⟩ => ⟨I3.kIn, ?_⟩
  subst eb
  rw [hks]
  have st := sta.trans stb
  exact run_makeN Mk F hr hb hx I3 r rz (ra.length.trans l1) (rb.length.trans l2) (mk_sp hrep hgl okb (ra.same stb.same) rb l1 l2 qb (pp.step st) (px.step st))
end
end DL
set_option Elab.async false
set_option linter.all false
set_option maxRecDepth 100000
set_option maxHeartbeats 2000000
namespace DL
open PySem PySem.Spec PyProof.Rows L2
section
variable {X : Cx} {E : XK}
/-- a list, changing or not -/
def lstOf : D → Mm → Option (List D)
  | .lst ds, _ => some ds
  | .cel a, M => match M a with
    | some (.lst ds) => some ds
    | _ => none
  | _, _ => none
theorem lst_at {K : PySem.W.Frag} {s : Sta} {v : V} {d : D} {ds : List D} (ok : Ok K s) (r : Rep K s.G v d) (h : lstOf d s.M = some ds) : ∃ a vs, v = .ref a ∧ s.H a = some (.lst vs) ∧ Reps K s.G vs ds := by
  cases r with
  | lst h1 r1 => cases h; exact ⟨_, _, rfl, ok.sub _ _ h1, r1⟩
  | @cel a =>
    simp only [lstOf] at h
    split at h
    · rename_i ds' hm
      cases h
      obtain ⟨vs, e, r⟩ := ok.cells _ _ hm
      exact ⟨a, vs, rfl, e, r⟩
    · cases h
  | _ => cases h
theorem lstOf_cel {M : Mm} {p : Addr} {ds : List D} (h : M p = some (.lst ds)) : lstOf (.cel p) M = some ds := by
  simp only [lstOf, h]
/-- xs == [], xs != [] -/
def dEqE (neg : Bool) : D2 := fun x y M k _ => y = .lst [] ∧ ∃ ds, lstOf x M = some ds ∧ k (.bl (if neg then !ds.isEmpty else ds.isEmpty)) M
theorem o_neE (hu : X.A.units + 64 < cLine) : OpR X (compareOp .NotEq) (r2 X.K E (dEqE true)) := by
  intro pins s σ H x y u v Q I rx ry h
  obtain ⟨s0, dx, dy, kk, xx, rfl, ok, hdx, hdy, ⟨rfl, ds, hm, q⟩, p, px⟩ := h
  obtain ⟨b, vs, rfl, hb, rs⟩ := hdy.lst_of
  cases rs
  obtain ⟨a, ws, rfl, ha, rw'⟩ := lst_at ok hdx hm
  obtain rfl : u = Value.ref a := rx
  obtain rfl : v = Value.ref b := ry
  obtain ⟨its, rv, pl, hz⟩ := I.list (SqL.of ha)
  obtain ⟨jts, rj, pl', hz'⟩ := I.list (SqL.of (ok.sub _ _ hb))
  cases rj
  have hl := rv.length
  have hl' := rw'.length
  show wpAny _ _ (richCompare .NotEq _ _) _ _ _
  cases ds with
  | nil =>
    have e : its = [] := List.eq_nil_of_length_eq_zero (by rw [← hl, hl']; rfl)
    subst e
    exact SeqAt.RcNeAt.lists (e := fun _ => true) pl.isList pl'.isList rfl (by omega) (fun j h1 => absurd h1 (by simp)) _ _ _ _ ⟨.bl false, s0.H, I, rfl, p.now q ok .bl⟩
  | cons d ds =>
    refine SeqAt.RcNeAt.lists_lengths pl.isList pl'.isList ?_ (by omega) _ _ _ _ ⟨.bl true, s0.H, I, rfl, p.now q ok .bl⟩
    have : its.length = ds.length + 1 := by rw [← hl, hl']; rfl
    simp [this]
theorem o_eqE (hu : X.A.units + 64 < cLine) : OpR X (compareOp .Eq) (r2 X.K E (dEqE false)) := by
  intro pins s σ H x y u v Q I rx ry h
  obtain ⟨s0, dx, dy, kk, xx, rfl, ok, hdx, hdy, ⟨rfl, ds, hm, q⟩, p, px⟩ := h
  obtain ⟨b, vs, rfl, hb, rs⟩ := hdy.lst_of
  cases rs
  obtain ⟨a, ws, rfl, ha, rw'⟩ := lst_at ok hdx hm
  obtain rfl : u = Value.ref a := rx
  obtain rfl : v = Value.ref b := ry
  obtain ⟨its, rv, pl, hz⟩ := I.list (SqL.of ha)
  obtain ⟨jts, rj, pl', hz'⟩ := I.list (SqL.of (ok.sub _ _ hb))
  cases rj
  have hl := rv.length
  have hl' := rw'.length
  show wpAny _ _ (richCompare .Eq _ _) _ _ _
  cases ds with
  | nil =>
    have e : its = [] := List.eq_nil_of_length_eq_zero (by rw [← hl, hl']; rfl)
    subst e
    exact SeqAt.RcAt.lists (e := fun _ => true) pl.isList pl'.isList rfl (by omega) (fun j h1 => absurd h1 (by simp)) _ _ _ _ ⟨.bl true, s0.H, I, rfl, p.now q ok .bl⟩
  | cons d ds =>
    refine SeqAt.RcAt.lists_lengths pl.isList pl'.isList ?_ (by omega) _ _ _ _ ⟨.bl false, s0.H, I, rfl, p.now q ok .bl⟩
    have : its.length = ds.length + 1 := by rw [← hl, hl']; rfl
    simp [this]
end
end DL
set_option Elab.async false
set_option linter.all false
namespace RT
/-- lowest terms, a positive bottom -/
def nrm (a b : Int) : Int × Int := if b < 0 then (a.fdiv (0 - (Int.gcd a b : Int)), b.fdiv (0 - (Int.gcd a b : Int))) else (a.fdiv (Int.gcd a b), b.fdiv (Int.gcd a b))
structure Nf (a b : Int) : Prop where
  pos : 0 < b
  one : Int.gcd a b = 1
theorem gcd_pos {a b : Int} (h : b ≠ 0) : 0 < Int.gcd a b := Int.gcd_pos_of_ne_zero_right a h
/-- the parts of a fraction -/
theorem parts {a b : Int} (h : b ≠ 0) : ∃ a' b' : Int, a = (Int.gcd a b : Int) * a' ∧ b = (Int.gcd a b : Int) * b' ∧ Int.gcd a' b' = 1 := by
  obtain ⟨a', ha⟩ := Int.gcd_dvd_left (a := a) (b := b)
  obtain ⟨b', hb⟩ := Int.gcd_dvd_right (a := a) (b := b)
  refine ⟨a', b', ha, hb, ?_⟩
  have e : Int.gcd ((Int.gcd a b : Int) * a') ((Int.gcd a b : Int) * b') = (Int.gcd a b : Int).natAbs * Int.gcd a' b' := Int.gcd_mul_left _ _ _
  rw [← ha, ← hb, Int.natAbs_natCast] at e
  have g0 := gcd_pos (a := a) h
  exact Nat.eq_of_mul_eq_mul_left g0 (by rw [← e, Nat.mul_one])
theorem nrm_spec {a b : Int} (h : b ≠ 0) : Nf (nrm a b).1 (nrm a b).2 ∧ (nrm a b).1 * b = a * (nrm a b).2 := by
  obtain ⟨a', b', ha, hb, h1⟩ := parts (a := a) h
  have g0 : (0 : Int) < (Int.gcd a b : Int) := Int.natCast_pos.mpr (gcd_pos h)
  generalize hg : (Int.gcd a b : Int) = g at ha hb g0
  have b0 : b' ≠ 0 := fun z => by rw [z, Int.mul_zero] at hb; exact h hb
  unfold nrm
  rw [hg]
  split
  · rename_i hlt
    have e1 : a.fdiv (0 - g) = -a' := by
      rw [ha, show g * a' = (0 - g) * (-a') by rw [Int.zero_sub, Int.neg_mul_neg]]
      exact Int.mul_fdiv_cancel_left _ (by omega)
    have e2 : b.fdiv (0 - g) = -b' := by
      rw [hb, show g * b' = (0 - g) * (-b') by rw [Int.zero_sub, Int.neg_mul_neg]]
      exact Int.mul_fdiv_cancel_left _ (by omega)
    rw [e1, e2]
    have bn : b' < 0 := by
      rcases Int.lt_or_lt_of_ne b0 with z | z
      · exact z
      · have := Int.mul_pos g0 z
        omega
    refine ⟨⟨by show 0 < -b'; omega, by show Int.gcd (-a') (-b') = 1; rw [Int.gcd_neg, Int.neg_gcd]; exact h1⟩, ?_⟩
    show -a' * b = a * -b'
    rw [ha, hb, Int.neg_mul, Int.mul_neg, Int.mul_left_comm, Int.mul_assoc]
  · rename_i hlt
    have e1 : a.fdiv g = a' := by rw [ha]; exact Int.mul_fdiv_cancel_left _ (by omega)
    have e2 : b.fdiv g = b' := by rw [hb]; exact Int.mul_fdiv_cancel_left _ (by omega)
    rw [e1, e2]
    have bp : 0 < b' := by
      rcases Int.lt_or_lt_of_ne b0 with z | z
      · have := Int.mul_neg_of_pos_of_neg g0 z
        omega
      · exact z
    refine ⟨⟨bp, h1⟩, ?_⟩
    show a' * b = a * b'
    rw [ha, hb, Int.mul_left_comm, Int.mul_assoc]
theorem nrm_nf {a b : Int} (h : b ≠ 0) : Nf (nrm a b).1 (nrm a b).2 := (nrm_spec h).1
theorem nrm_val {a b : Int} (h : b ≠ 0) : (nrm a b).1 * b = a * (nrm a b).2 := (nrm_spec h).2
theorem cop_dvd {a b d : Int} (h : b ∣ a * d) (g : Int.gcd a b = 1) : b ∣ d := by
  have h' : b.natAbs ∣ a.natAbs * d.natAbs := by rw [← Int.natAbs_mul]; exact Int.natAbs_dvd_natAbs.mpr h
  have c : Nat.Coprime b.natAbs a.natAbs := by
    show Nat.gcd _ _ = 1
    rw [Nat.gcd_comm]
    exact g
  exact Int.natAbs_dvd_natAbs.mp (c.dvd_of_dvd_mul_left h')
theorem nf_eq {a b c d : Int} (h1 : Nf a b) (h2 : Nf c d) (e : a * d = c * b) : a = c ∧ b = d := by
  have p1 := h1.pos
  have p2 := h2.pos
  have d1 : b ∣ d := cop_dvd (a := a) ⟨c, by rw [e, Int.mul_comm]⟩ h1.one
  have d2 : d ∣ b := cop_dvd (a := c) ⟨a, by rw [← e, Int.mul_comm]⟩ h2.one
  have eb : b = d := by
    have l1 := Int.le_of_dvd p2 d1
    have l2 := Int.le_of_dvd p1 d2
    omega
  subst eb
  refine ⟨?_, rfl⟩
  exact Int.eq_of_mul_eq_mul_right (by omega) e
theorem nrm_of_nf {a b : Int} (h : Nf a b) : nrm a b = (a, b) := by
  have p := h.pos
  obtain ⟨e1, e2⟩ := nf_eq (nrm_nf (a := a) (b := b) (by omega)) h (nrm_val (by omega))
  exact Prod.ext e1 e2
end RT
set_option Elab.async false
set_option linter.all false
namespace RT
/-- a cut: a ratio and 0 (ahead of it) or 1 (behind it) -/
structure Cut where
  a : Int
  b : Int
  k : Int
def Cut.lt (x y : Cut) : Prop := x.a * y.b < y.a * x.b ∨ (x.a * y.b = y.a * x.b ∧ x.k < y.k)
instance (x y : Cut) : Decidable (Cut.lt x y) := inferInstanceAs (Decidable (_ ∨ _ ∧ _))
structure Cut.Ok (x : Cut) : Prop where
  nf : Nf x.a x.b
  k01 : x.k = 0 ∨ x.k = 1
def geC (f : Cut) (p q : Int) : Prop := f.a * q < p * f.b ∨ (f.a * q = p * f.b ∧ f.k = 0)
def leC (c : Cut) (p q : Int) : Prop := p * c.b < c.a * q ∨ (p * c.b = c.a * q ∧ c.k = 1)
def inI (f : Cut) (l : Option Cut) (p q : Int) : Prop := geC f p q ∧ ∀ c, l = some c → leC c p q
theorem fd_spec {a b : Int} (h : 0 < b) : a.fdiv b * b ≤ a ∧ a < a.fdiv b * b + b := by
  rw [Int.fdiv_eq_ediv_of_nonneg _ (by omega)]
  have h1 := Int.ediv_mul_le a (show b ≠ 0 by omega)
  have h2 := Int.lt_ediv_add_one_mul_self a h
  constructor
  · exact h1
  · rw [Int.add_mul, Int.one_mul] at h2; exact h2
theorem lt_of_mul {x y b : Int} (h : x * b < y * b) (hb : 0 < b) : x < y := Int.lt_of_mul_lt_mul_right h (by omega)
theorem le_of_mul {x y b : Int} (h : x * b ≤ y * b) (hb : 0 < b) : x ≤ y := Int.le_of_mul_le_mul_right h hb
def least (f : Cut) : Int := if f.k = 0 then -((-f.a).fdiv f.b) else f.a.fdiv f.b + 1
theorem least_ge {f : Cut} (h : f.Ok) : geC f (least f) 1 := by
  have b0 := h.nf.pos
  unfold geC least
  split
  · rename_i e
    have := fd_spec (a := -f.a) b0
    by_cases z : f.a * 1 = -(-f.a).fdiv f.b * f.b
    · exact .inr ⟨z, e⟩
    · left
      have e2 : -(-f.a).fdiv f.b * f.b = -((-f.a).fdiv f.b * f.b) := Int.neg_mul _ _
      rw [e2] at z ⊢
      omega
  · have := fd_spec (a := f.a) b0
    left
    rw [Int.add_mul]
    omega
theorem least_le {f : Cut} (h : f.Ok) {m : Int} (hm : geC f m 1) : least f ≤ m := by
  have b0 := h.nf.pos
  unfold least
  unfold geC at hm
  split
  · rename_i e
    have := fd_spec (a := -f.a) b0
    have e2 : (-(-f.a).fdiv f.b - 1) * f.b = -((-f.a).fdiv f.b * f.b) - f.b := by rw [Int.sub_mul, Int.neg_mul, Int.one_mul]
    have : (-(-f.a).fdiv f.b - 1) * f.b < m * f.b := by rw [e2]; omega
    have := lt_of_mul this b0
    omega
  · rename_i e
    have := fd_spec (a := f.a) b0
    have : f.a.fdiv f.b * f.b < m * f.b := by omega
    have := lt_of_mul this b0
    omega
theorem least_low {f : Cut} (h : f.Ok) (f0 : 0 ≤ f.a) {p q : Int} (q0 : 0 < q) (hp : geC f p q) : least f ≤ p := by
  refine least_le h ?_
  have b0 := h.nf.pos
  have : f.a * 1 ≤ f.a * q := Int.mul_le_mul_of_nonneg_left (by omega) f0
  unfold geC at hp ⊢
  by_cases z : f.a * 1 < p * f.b
  · exact .inl z
  · right
    rcases hp with hp | ⟨hp, e⟩
    · omega
    · exact ⟨by omega, e⟩
/-- one turn of the search: no whole number lies in the interval -/
structure Turn (f c : Cut) (w : Int) (f' : Cut) (l' : Option Cut) : Prop where
  w_eq : w = f.a.fdiv f.b
  f_eq : f' = ⟨c.b, c.a - w * c.b, 1 - c.k⟩
  l_eq : l' = if f.a - w * f.b = 0 then none else some ⟨f.b, f.a - w * f.b, 1 - f.k⟩
structure IOk (f : Cut) (l : Option Cut) : Prop where
  cf : f.Ok
  f0 : 0 ≤ f.a
  cl : ∀ c, l = some c → c.Ok ∧ Cut.lt f c
theorem gcd_sub {a b w : Int} : Int.gcd (a - w * b) b = Int.gcd a b := by
  have e : a - w * b = a + b * (-w) := by rw [Int.mul_neg, Int.mul_comm]; rfl
  rw [e]
  exact Int.gcd_add_mul_left_left _ _ _
/-- what a turn's numbers are -/
theorem turn_num {f c : Cut} (h : IOk f (some c)) (hn : ¬ Cut.lt ⟨least f, 1, 0⟩ c) : 0 ≤ f.a.fdiv f.b ∧ f.a.fdiv f.b * c.b < c.a ∧ 0 ≤ f.a - f.a.fdiv f.b * f.b ∧ f.a - f.a.fdiv f.b * f.b < f.b ∧ c.a ≤ f.a.fdiv f.b * c.b + c.b ∧ (f.a = f.a.fdiv f.b * f.b → f.k = 1) := by
  obtain ⟨hc, hl⟩ := h.cl c rfl
  have b0 := h.cf.nf.pos
  have d0 := hc.nf.pos
  have fs := fd_spec (a := f.a) b0
  have f0 := h.f0
  have k1 := h.cf.k01
  have k2 := hc.k01
  generalize hw : f.a.fdiv f.b = w at *
  have w0 : 0 ≤ w := by
    have : 0 * f.b < (w + 1) * f.b := by rw [Int.zero_mul, Int.add_mul, Int.one_mul]; omega
    have := lt_of_mul this b0
    omega
  unfold Cut.lt at hn hl
  simp only at hn
  -- where the low end is whole and within, the least whole number is there
  have key : f.a = w * f.b → f.k = 1 := by
    intro e
    rcases k1 with z | z
    · exfalso
      apply hn
      have en : least f = w := by
        unfold least
        rw [if_pos z]
        have g2 := fd_spec (a := -f.a) b0
        have : (-f.a).fdiv f.b = -w := by
          rw [e, show -(w * f.b) = (-w) * f.b by rw [Int.neg_mul]]
          exact Int.mul_fdiv_cancel _ (by omega)
        omega
      rw [en]
      rcases hl with hl | ⟨hl, hk⟩
      · left
        have : (w * c.b) * f.b < (c.a * 1) * f.b := by rw [e] at hl; grind
        exact lt_of_mul this b0
      · right
        refine ⟨?_, by omega⟩
        have : (w * c.b) * f.b = (c.a * 1) * f.b := by rw [e] at hl; grind
        exact Int.eq_of_mul_eq_mul_right (by omega) this
    · exact z
  have en : least f = w + 1 := by
    have l1 := least_ge h.cf
    have l2 := least_le h.cf (m := w + 1) (by unfold geC; left; rw [Int.add_mul]; omega)
    unfold geC at l1
    by_cases z : least f = w + 1
    · exact z
    · exfalso
      have : least f ≤ w := by omega
      have : least f * f.b ≤ w * f.b := Int.mul_le_mul_of_nonneg_right this (by omega)
      have e : f.a = w * f.b := by omega
      have := key e
      omega
  rw [en] at hn
  refine ⟨w0, ?_, by omega, by omega, ?_, key⟩
  · rcases hl with hl | ⟨hl, hk⟩
    · have : (w * c.b) * f.b < c.a * f.b := by
        have : (w * f.b) * c.b ≤ f.a * c.b := Int.mul_le_mul_of_nonneg_right fs.1 (by omega)
        grind
      exact lt_of_mul this b0
    · have ne : f.a ≠ w * f.b := fun e => by have := key e; omega
      have : (w * c.b) * f.b < c.a * f.b := by
        have : (w * f.b) * c.b < f.a * c.b := Int.mul_lt_mul_of_pos_right (by omega) d0
        grind
      exact lt_of_mul this b0
  · have : ¬ ((w + 1) * c.b < c.a * 1) := fun z => hn (.inl z)
    rw [Int.add_mul] at this
    omega
theorem turn_ok {f c f' : Cut} {l' : Option Cut} {w : Int} (h : IOk f (some c)) (hn : ¬ Cut.lt ⟨least f, 1, 0⟩ c) (t : Turn f c w f' l') : IOk f' l' := by
  obtain ⟨w0, h1, h2, h3, h4, h5⟩ := turn_num h hn
  obtain ⟨hc, hl⟩ := h.cl c rfl
  have k1 := h.cf.k01
  have k2 := hc.k01
  obtain ⟨rfl, rfl, rfl⟩ := t
  generalize hw : f.a.fdiv f.b = w at *
  refine ⟨⟨⟨by show 0 < c.a - w * c.b; omega, ?_⟩, by show 1 - c.k = 0 ∨ 1 - c.k = 1; omega⟩, Int.le_of_lt hc.nf.pos, ?_⟩
  · show Int.gcd c.b (c.a - w * c.b) = 1
    rw [Int.gcd_comm, gcd_sub]
    exact hc.nf.one
  · intro c' e
    split at e
    · cases e
    · rename_i z
      cases e
      refine ⟨⟨⟨by show 0 < f.a - w * f.b; omega, ?_⟩, by show 1 - f.k = 0 ∨ 1 - f.k = 1; omega⟩, ?_⟩
      · show Int.gcd f.b (f.a - w * f.b) = 1
        rw [Int.gcd_comm, gcd_sub]
        exact h.cf.nf.one
      · unfold Cut.lt at hl ⊢
        simp only
        rcases hl with hl | ⟨hl, hk⟩
        · left; grind
        · right; exact ⟨by grind, by omega⟩
/-- forth: what lies in the interval lies in the turn's -/
theorem turn_forth {f c f' : Cut} {l' : Option Cut} {w : Int} (h : IOk f (some c)) (hn : ¬ Cut.lt ⟨least f, 1, 0⟩ c) (t : Turn f c w f' l') {p q : Int} (q0 : 0 < q) (hi : inI f (some c) p q) : 0 < p - w * q ∧ inI f' l' q (p - w * q) := by
  obtain ⟨w0, h1, h2, h3, h4, h5⟩ := turn_num h hn
  obtain ⟨hc, hl⟩ := h.cl c rfl
  have b0 := h.cf.nf.pos
  obtain ⟨rfl, rfl, rfl⟩ := t
  generalize hw : f.a.fdiv f.b = w at *
  obtain ⟨g, g2⟩ := hi
  have g2 := g2 c rfl
  unfold geC at g
  unfold leC at g2
  refine ⟨?_, ?_, ?_⟩
  · have : (w * q) * f.b < p * f.b := by
      have z : (w * f.b) * q ≤ f.a * q := Int.mul_le_mul_of_nonneg_right (by omega) (by omega)
      rcases g with g | ⟨g, e⟩
      · grind
      · have ne : f.a ≠ w * f.b := fun x => by have := h5 x; omega
        have : (w * f.b) * q < f.a * q := Int.mul_lt_mul_of_pos_right (by omega) q0
        grind
    have := lt_of_mul this b0
    omega
  · unfold geC
    simp only
    rcases g2 with g2 | ⟨g2, e⟩
    · left; grind
    · right; exact ⟨by grind, by omega⟩
  · intro c' e
    split at e
    · cases e
    · cases e
      unfold leC
      simp only
      rcases g with g | ⟨g, e⟩
      · left; grind
      · right; exact ⟨by grind, by omega⟩
/-- back -/
theorem turn_back {f c f' : Cut} {l' : Option Cut} {w : Int} (h : IOk f (some c)) (hn : ¬ Cut.lt ⟨least f, 1, 0⟩ c) (t : Turn f c w f' l') {s u : Int} (s0 : 0 < s) (u0 : 0 < u) (hi : inI f' l' s u) : inI f (some c) (w * s + u) s := by
  obtain ⟨w0, h1, h2, h3, h4, h5⟩ := turn_num h hn
  have b0 := h.cf.nf.pos
  have k1 := h.cf.k01
  have k2 := (h.cl c rfl).1.k01
  obtain ⟨rfl, rfl, rfl⟩ := t
  generalize hw : f.a.fdiv f.b = w at *
  obtain ⟨g, g2⟩ := hi
  refine ⟨?_, ?_⟩
  · unfold geC
    by_cases z : f.a - w * f.b = 0
    · left
      have : 0 < u * f.b := Int.mul_pos u0 b0
      have e : f.a = w * f.b := by omega
      rw [e]
      grind
    · have g2 := g2 _ (if_neg z)
      unfold leC at g2
      simp only at g2
      rcases g2 with g2 | ⟨g2, e⟩
      · left; grind
      · right; exact ⟨by grind, by omega⟩
  · intro c' e
    cases e
    unfold geC at g
    unfold leC
    simp only at g
    rcases g with g | ⟨g, e⟩
    · left; grind
    · right; exact ⟨by grind, by omega⟩
/-- the simplest ratio -/
structure Best (f : Cut) (l : Option Cut) (p q : Int) : Prop where
  q0 : 0 < q
  p0 : 0 < p
  one : Int.gcd p q = 1
  ins : inI f l p q
  low : ∀ p' q', 0 < q' → 0 < p' → inI f l p' q' → p ≤ p' ∧ q ≤ q'
theorem best_base {f : Cut} {l : Option Cut} (h : IOk f l) (hf : 0 < least f) (hl : ∀ c, l = some c → Cut.lt ⟨least f, 1, 0⟩ c) : Best f l (least f) 1 := by
  refine ⟨by decide, hf, Int.gcd_one_right _, ⟨least_ge h.cf, fun c e => ?_⟩, fun p' q' q0 p0 hi => ⟨least_low h.cf h.f0 q0 hi.1, by omega⟩⟩
  have k := (h.cl c e).1.k01
  have := hl c e
  unfold Cut.lt at this
  unfold leC
  simp only at this
  rcases this with z | ⟨z, z2⟩
  · exact .inl z
  · exact .inr ⟨z, by omega⟩
theorem best_turn {f c f' : Cut} {l' : Option Cut} {w s u : Int} (h : IOk f (some c)) (hn : ¬ Cut.lt ⟨least f, 1, 0⟩ c) (t : Turn f c w f' l') (b : Best f' l' s u) : Best f (some c) (w * s + u) s := by
  have w0 : 0 ≤ w := by rw [t.w_eq]; exact (turn_num h hn).1
  have : 0 ≤ w * s := Int.mul_nonneg w0 (Int.le_of_lt b.p0)
  refine ⟨b.p0, by have := b.q0; omega, ?_, turn_back h hn t b.p0 b.q0 b.ins, fun p' q' q0 p0 hi => ?_⟩
  · rw [show w * s + u = u - (-w) * s by rw [Int.neg_mul]; omega, gcd_sub, Int.gcd_comm]
    exact b.one
  · obtain ⟨h1, h2⟩ := turn_forth h hn t q0 hi
    obtain ⟨l1, l2⟩ := b.low q' (p' - w * q') h1 q0 h2
    refine ⟨?_, l1⟩
    have : w * s ≤ w * q' := Int.mul_le_mul_of_nonneg_left l1 w0
    omega
end RT
set_option Elab.async false
set_option linter.all false
namespace RT
def Pos (f : Cut) : Prop := 0 < f.a ∨ f.k = 1
theorem least_pos {f : Cut} (h : f.Ok) (f0 : 0 ≤ f.a) (p : Pos f) : 0 < least f := by
  have b0 := h.nf.pos
  have g := least_ge h
  unfold geC at g
  have : 0 * f.b < least f * f.b := by
    rw [Int.zero_mul]
    rcases g with g | ⟨g, e⟩
    · omega
    · rcases p with p | p
      · omega
      · omega
  exact lt_of_mul this b0
def Sz (B : Int) (f : Cut) (l : Option Cut) : Prop := f.a ≤ B ∧ f.b ≤ B ∧ ∀ c, l = some c → c.a ≤ B ∧ c.b ≤ B
/-- the turns so far -/
inductive Chain (B : Int) (f0 : Cut) (l0 : Option Cut) : List Int → Cut → Option Cut → Prop
  | nil : Chain B f0 l0 [] f0 l0
  | snoc {ws : List Int} {f c f' : Cut} {l' : Option Cut} {w : Int} (h : Chain B f0 l0 ws f (some c)) (hi : IOk f (some c)) (hp : Pos f) (hn : ¬ Cut.lt ⟨least f, 1, 0⟩ c) (t : Turn f c w f' l') (z : Sz B f (some c)) : Chain B f0 l0 (ws ++ [w]) f' l'
theorem Chain.empty {B : Int} {f0 : Cut} {l0 : Option Cut} {ws : List Int} {f : Cut} {l : Option Cut} (h : Chain B f0 l0 ws f l) (e : ws = []) : f = f0 ∧ l = l0 := by
  cases h with
  | nil => exact ⟨rfl, rfl⟩
  | snoc => simp at e
theorem fdiv_le {a b : Int} (h : 0 < b) (h0 : 0 ≤ a) : a.fdiv b ≤ a := by
  have := fd_spec (a := a) h
  by_cases z : a.fdiv b ≤ 0
  · omega
  · have : a.fdiv b * 1 ≤ a.fdiv b * b := Int.mul_le_mul_of_nonneg_left (by omega) (by omega)
    omega
theorem Sz.turn {B : Int} {f c f' : Cut} {l' : Option Cut} {w : Int} (h : IOk f (some c)) (hn : ¬ Cut.lt ⟨least f, 1, 0⟩ c) (t : Turn f c w f' l') (z : Sz B f (some c)) : Sz B f' l' ∧ 0 ≤ w ∧ w ≤ B := by
  obtain ⟨w0, h1, h2, h3, h4, h5⟩ := turn_num h hn
  have d0 := (h.cl c rfl).1.nf.pos
  have b0 := h.cf.nf.pos
  obtain ⟨z1, z2, z3⟩ := z
  obtain ⟨z3, z4⟩ := z3 c rfl
  have wl := fdiv_le b0 h.f0
  obtain ⟨rfl, rfl, rfl⟩ := t
  generalize hw : f.a.fdiv f.b = w at *
  have : 0 ≤ w * c.b := Int.mul_nonneg w0 (by omega)
  refine ⟨⟨z4, by show c.a - w * c.b ≤ B; omega, fun c' e => ?_⟩, w0, by omega⟩
  split at e
  · cases e
  · cases e
    exact ⟨z2, by show f.a - w * f.b ≤ B; omega⟩
def LenOk (B : Int) (n : Nat) (f : Cut) (l : Option Cut) : Prop := ∀ c, l = some c → 2 ^ (n / 2) * c.b ≤ B ∧ (n = 0 → f.b ≤ B) ∧ (1 ≤ n → f.b ≤ f.a ∧ 2 ^ ((n - 1) / 2) * f.a ≤ B)
theorem LenOk.turn {B : Int} {n : Nat} {f c f' : Cut} {l' : Option Cut} {w : Int} (h : IOk f (some c)) (hn : ¬ Cut.lt ⟨least f, 1, 0⟩ c) (t : Turn f c w f' l') (z : LenOk B n f (some c)) : LenOk B (n + 1) f' l' := by
  obtain ⟨w0, h1, h2, h3, h4, h5⟩ := turn_num h hn
  have d0 := (h.cl c rfl).1.nf.pos
  have b0 := h.cf.nf.pos
  have fs := fd_spec (a := f.a) b0
  obtain ⟨z1, z2, z3⟩ := z c rfl
  obtain ⟨rfl, rfl, rfl⟩ := t
  generalize hw : f.a.fdiv f.b = w at *
  intro c' e
  split at e
  · cases e
  · cases e
    refine ⟨?_, by omega, fun _ => ⟨by show c.a - w * c.b ≤ c.b; omega, by show 2 ^ ((n + 1 - 1) / 2) * c.b ≤ B; rw [Nat.add_sub_cancel]; exact z1⟩⟩
    show 2 ^ ((n + 1) / 2) * (f.a - w * f.b) ≤ B
    by_cases n0 : n = 0
    · subst n0
      have := z2 rfl
      show 2 ^ 0 * (f.a - w * f.b) ≤ B
      rw [Int.pow_zero, Int.one_mul]
      omega
    · obtain ⟨z3, z4⟩ := z3 (by omega)
      have w1 : 1 ≤ w := by
        by_cases q : w = 0
        · rw [q, Int.zero_mul] at fs; omega
        · omega
      have : 1 * f.b ≤ w * f.b := Int.mul_le_mul_of_nonneg_right w1 (by omega)
      have r2 : 2 * (f.a - w * f.b) ≤ f.a := by omega
      have e : (n + 1) / 2 = (n - 1) / 2 + 1 := by omega
      rw [e, Int.pow_succ, Int.mul_assoc]
      exact Int.le_trans (Int.mul_le_mul_of_nonneg_left r2 (Int.le_of_lt (Int.pow_pos (by decide)))) z4
theorem LenOk.few {B : Int} {n m : Nat} {f c : Cut} (z : LenOk B n f (some c)) (c0 : 0 < c.b) (hB : B < 2 ^ m) : n < 2 * m + 1 := by
  obtain ⟨z1, _⟩ := z c rfl
  have : (2 : Int) ^ (n / 2) * 1 ≤ 2 ^ (n / 2) * c.b := Int.mul_le_mul_of_nonneg_left (by omega) (Int.le_of_lt (Int.pow_pos (by decide)))
  have h : (2 : Int) ^ (n / 2) < 2 ^ m := by omega
  have h' : 2 ^ (n / 2) < 2 ^ m := by exact_mod_cast h
  have := (Nat.pow_lt_pow_iff_right (by decide : 1 < 2)).mp h'
  omega
theorem best_sz {B : Int} {f : Cut} {l : Option Cut} {p q : Int} (h : IOk f l) (z : Sz B f l) (b : Best f l p q) : p ≤ 2 * B + 1 ∧ q ≤ 2 * B + 1 := by
  have b0 := h.cf.nf.pos
  have f0 := h.f0
  obtain ⟨z1, z2, z3⟩ := z
  have p0 := b.p0
  have q0 := b.q0
  cases l with
  | none =>
    obtain ⟨l1, l2⟩ := b.low (f.a + 1) 1 (by decide) (by omega) ⟨by
      left
      have : (f.a + 1) * 1 ≤ (f.a + 1) * f.b := Int.mul_le_mul_of_nonneg_left (by omega) (by omega)
      omega, fun c e => by cases e⟩
    omega
  | some c =>
    obtain ⟨hc, hl⟩ := h.cl c rfl
    have d0 := hc.nf.pos
    obtain ⟨z3, z4⟩ := z3 c rfl
    have k1 := h.cf.k01
    have k2 := hc.k01
    unfold Cut.lt at hl
    have c0 : 0 < c.a := by
      have := b.ins.2 c rfl
      unfold leC at this
      have : 0 < p * c.b := Int.mul_pos p0 d0
      have : 0 * q < c.a * q := by omega
      exact lt_of_mul this q0
    rcases hl with hl | ⟨hl, hk⟩
    · obtain ⟨l1, l2⟩ := b.low (f.a + c.a) (f.b + c.b) (by omega) (by omega) ⟨by left; grind, fun c' e => by cases e; left; grind⟩
      omega
    · have a0 : 0 < f.a := by
        have : 0 < c.a * f.b := Int.mul_pos c0 b0
        have : 0 * c.b < f.a * c.b := by omega
        exact lt_of_mul this d0
      obtain ⟨l1, l2⟩ := b.low f.a f.b b0 a0 ⟨by right; exact ⟨rfl, by omega⟩, fun c' e => by cases e; right; exact ⟨hl, by omega⟩⟩
      omega

theorem last_nonneg {f c : Cut} (h : IOk f (some c)) : 0 ≤ c.a := by
  obtain ⟨hc, hl⟩ := h.cl c rfl
  have b0 := h.cf.nf.pos
  have d0 := hc.nf.pos
  have : 0 ≤ f.a * c.b := Int.mul_nonneg h.f0 (by omega)
  unfold Cut.lt at hl
  have : 0 * f.b ≤ c.a * f.b := by omega
  exact le_of_mul this b0
theorem nf_one {n : Int} : Nf n 1 := ⟨by decide, Int.gcd_one_right _⟩
theorem nf_int {n w b : Int} (h : Nf n b) : Nf (n * 1 - w * b) (b * 1) := by
  rw [Int.mul_one, Int.mul_one]
  exact ⟨h.pos, by rw [gcd_sub]; exact h.one⟩
theorem nrm_int {n w b : Int} (h : Nf n b) : nrm (n * 1 - w * b) (b * 1) = (n - w * b, b) := by
  rw [nrm_of_nf (nf_int h), Int.mul_one, Int.mul_one]
end RT
set_option Elab.async false
set_option linter.all false
namespace RT
/-- the simplest ratio between two cuts, whatever its sign -/
structure Best2 (f c : Cut) (p q : Int) : Prop where
  q0 : 0 < q
  one : Int.gcd p q = 1
  ins : inI f (some c) p q
  low : ∀ p' q', 0 < q' → inI f (some c) p' q' → p.natAbs ≤ p'.natAbs ∧ q ≤ q'
def mir (c : Cut) : Cut := ⟨0 - c.a, c.b, 1 - c.k⟩
theorem pos_of_ge {f : Cut} (h : f.Ok) (f0 : 0 ≤ f.a) (hp : Pos f) {p q : Int} (q0 : 0 < q) (g : geC f p q) : 0 < p := by
  have b0 := h.nf.pos
  have : 0 ≤ f.a * q := Int.mul_nonneg f0 (by omega)
  have : 0 * f.b < p * f.b := by
    rw [Int.zero_mul]
    rcases g with g | ⟨g, e⟩
    · omega
    · rcases hp with hp | hp
      · have := Int.mul_pos hp q0
        omega
      · omega
  exact lt_of_mul this b0
theorem two_zero {f c : Cut} (hf : f.Ok) (hc : c.Ok) (h1 : Cut.lt f ⟨0, 1, 1⟩) (h2 : Cut.lt ⟨0, 1, 0⟩ c) : Best2 f c 0 1 := by
  have k1 := hf.k01
  have k2 := hc.k01
  unfold Cut.lt at h1 h2
  simp only at h1 h2
  refine ⟨by decide, rfl, ⟨?_, fun c' e => ?_⟩, fun p' q' h _ => ⟨Nat.zero_le _, by omega⟩⟩
  · unfold geC
    rcases h1 with h | ⟨h, k⟩
    · exact .inl h
    · exact .inr ⟨h, by omega⟩
  · cases e
    unfold leC
    rcases h2 with h | ⟨h, k⟩
    · exact .inl h
    · exact .inr ⟨h, by omega⟩
theorem two_pos {f c : Cut} (hf : f.Ok) (hc : c.Ok) (hl : Cut.lt f c) (h1 : ¬ Cut.lt f ⟨0, 1, 1⟩) : IOk f (some c) ∧ Pos f ∧ ∀ p q, Best f (some c) p q → Best2 f c p q := by
  have k1 := hf.k01
  unfold Cut.lt at h1
  simp only at h1
  have f0 : 0 ≤ f.a := by
    by_cases z : f.a < 0
    · exact absurd (.inl (by omega)) h1
    · omega
  have hp : Pos f := by
    by_cases z : f.a = 0
    · right
      have : ¬ f.k < 1 := fun k => h1 (.inr ⟨by omega, k⟩)
      omega
    · left; omega
  refine ⟨⟨hf, f0, fun c' e => by cases e; exact ⟨hc, hl⟩⟩, hp, fun p q b => ⟨b.q0, b.one, b.ins, fun p' q' q0 hi => ?_⟩⟩
  have p0 := pos_of_ge hf f0 hp q0 hi.1
  obtain ⟨l1, l2⟩ := b.low p' q' q0 p0 hi
  have := b.p0
  exact ⟨by omega, l2⟩
theorem mir_ok {c : Cut} (h : c.Ok) : (mir c).Ok := ⟨⟨h.nf.pos, by show Int.gcd (0 - c.a) c.b = 1; rw [Int.zero_sub, Int.neg_gcd]; exact h.nf.one⟩, by have := h.k01; show 1 - c.k = 0 ∨ 1 - c.k = 1; omega⟩
theorem mir_lt {f c : Cut} (h : Cut.lt f c) : Cut.lt (mir c) (mir f) := by
  unfold Cut.lt mir at *
  simp only
  rcases h with h | ⟨h, k⟩
  · left; grind
  · right; exact ⟨by grind, by omega⟩
theorem mir_ge {c : Cut} (h : c.Ok) {p q : Int} (g : leC c p q) : geC (mir c) (0 - p) q := by
  have k := h.k01
  unfold leC at g
  unfold geC mir
  simp only
  rcases g with g | ⟨g, e⟩
  · left; grind
  · right; exact ⟨by grind, by omega⟩
theorem mir_le {f : Cut} (h : f.Ok) {p q : Int} (g : geC f p q) : leC (mir f) (0 - p) q := by
  have k := h.k01
  unfold geC at g
  unfold leC mir
  simp only
  rcases g with g | ⟨g, e⟩
  · left; grind
  · right; exact ⟨by grind, by omega⟩
theorem mir_mir (c : Cut) : mir (mir c) = c := by
  unfold mir
  simp only
  rw [show (0 : Int) - (0 - c.a) = c.a by omega, show (1 : Int) - (1 - c.k) = c.k by omega]
theorem two_neg {f c : Cut} (hf : f.Ok) (hc : c.Ok) (hl : Cut.lt f c) (h2 : ¬ Cut.lt ⟨0, 1, 0⟩ c) : IOk (mir c) (some (mir f)) ∧ Pos (mir c) ∧ ∀ p q, Best (mir c) (some (mir f)) p q → Best2 f c (0 - p) q := by
  have k1 := hc.k01
  unfold Cut.lt at h2
  simp only at h2
  have f0 : c.a ≤ 0 := by
    by_cases z : 0 < c.a
    · exact absurd (.inl (by omega)) h2
    · omega
  have hp : Pos (mir c) := by
    by_cases z : c.a = 0
    · right
      have : ¬ 0 < c.k := fun k => h2 (.inr ⟨by omega, k⟩)
      show 1 - c.k = 1
      omega
    · left; show 0 < 0 - c.a; omega
  have g0 : 0 ≤ (mir c).a := by show 0 ≤ 0 - c.a; omega
  refine ⟨⟨mir_ok hc, g0, fun c' e => by cases e; exact ⟨mir_ok hf, mir_lt hl⟩⟩, hp, fun p q b => ⟨b.q0, ?_, ⟨?_, fun c' e => ?_⟩, fun p' q' q0 hi => ?_⟩⟩
  · rw [Int.zero_sub, Int.neg_gcd]; exact b.one
  · have := mir_ge (mir_ok hf) (b.ins.2 _ rfl)
    rw [mir_mir] at this
    exact this
  · cases e
    have := mir_le (mir_ok hc) b.ins.1
    rw [mir_mir] at this
    exact this
  · have i1 := mir_ge hc (hi.2 c rfl)
    have i2 := mir_le hf hi.1
    have p0 := pos_of_ge (mir_ok hc) g0 hp q0 i1
    obtain ⟨l1, l2⟩ := b.low (0 - p') q' q0 p0 ⟨i1, fun c' e => by cases e; exact i2⟩
    have := b.p0
    exact ⟨by omega, l2⟩
/-- the numbers of a cut are not too great -/
structure CB (B : Int) (c : Cut) : Prop where
  lo : -B ≤ c.a
  hi : c.a ≤ B
  bb : c.b ≤ B
theorem CB.mir {B : Int} {c : Cut} (h : CB B c) : CB B (mir c) := ⟨by have := h.hi; show -B ≤ 0 - c.a; omega, by have := h.lo; show 0 - c.a ≤ B; omega, h.bb⟩
theorem CB.sz {B : Int} {f c : Cut} (h : CB B f) (h' : CB B c) : Sz B f (some c) := ⟨h.hi, h.bb, fun c' e => by cases e; exact ⟨h'.hi, h'.bb⟩⟩
end RT
set_option Elab.async false
set_option linter.all false
namespace RT
theorem nrm_sz {a b : Int} (h : b ≠ 0) : (nrm a b).1.natAbs ≤ a.natAbs ∧ (nrm a b).2 ≤ b.natAbs := by
  obtain ⟨n, v⟩ := nrm_spec (a := a) h
  have p := n.pos
  generalize (nrm a b).1 = x at *
  generalize (nrm a b).2 = y at *
  constructor
  · by_cases z : a = 0
    · rw [z, Int.zero_mul] at v
      rcases Int.mul_eq_zero.mp v with e | e
      · rw [e, z]; exact Nat.le_refl _
      · exact absurd e h
    · have d : x ∣ a := cop_dvd (a := y) ⟨b, by rw [v, Int.mul_comm]⟩ (by rw [Int.gcd_comm]; exact n.one)
      exact Nat.le_of_dvd (by omega) (Int.natAbs_dvd_natAbs.mpr d)
  · have d : y ∣ b := cop_dvd (a := x) ⟨a, by rw [v, Int.mul_comm]⟩ n.one
    have := Nat.le_of_dvd (by omega) (Int.natAbs_dvd_natAbs.mpr d)
    omega
/-- membership as the law tells it -/
def inB (f c : Cut) (p q : Int) : Bool := !decide (Cut.lt ⟨p, q, 0⟩ f) && !decide (Cut.lt c ⟨p, q, 1⟩)
theorem inB_iff {f c : Cut} (hf : f.Ok) (hc : c.Ok) {p q : Int} : inB f c p q = true ↔ inI f (some c) p q := by
  have k1 := hf.k01
  have k2 := hc.k01
  unfold inB inI geC leC
  simp only [Bool.and_eq_true, Bool.not_eq_true', decide_eq_false_iff_not, Option.some.injEq, forall_eq']
  unfold Cut.lt
  simp only
  constructor
  · rintro ⟨h1, h2⟩
    constructor <;> omega
  · rintro ⟨h1, h2⟩
    constructor <;> omega
theorem best_in {f c : Cut} (hf : f.Ok) (hc : c.Ok) {p q : Int} (b : Best2 f c p q) : inB f c p q = true := (inB_iff hf hc).mpr b.ins
theorem best_out {f c : Cut} (hf : f.Ok) (hc : c.Ok) {p q p' q' : Int} (b : Best2 f c p q) (q0 : 0 < q') (h : q' < q ∨ p'.natAbs < p.natAbs) : inB f c p' q' = false := by
  cases e : inB f c p' q' with
  | false => rfl
  | true =>
    obtain ⟨l1, l2⟩ := b.low p' q' q0 ((inB_iff hf hc).mp e)
    omega
def areaOk (B : Int) (f c : Cut) : Prop := f.Ok ∧ c.Ok ∧ Cut.lt f c ∧ CB B f ∧ CB B c
/-- two ratios, the first not above the second -/
theorem two_lt {a b c d i j : Int} (n1 : Nf a b) (n2 : Nf c d) (h : a * d ≤ c * b) (e : ¬ (a = c ∧ b = d)) : Cut.lt ⟨a, b, i⟩ ⟨c, d, j⟩ := by
  left
  show a * d < c * b
  have : a * d ≠ c * b := fun z => e (nf_eq n1 n2 z)
  omega
theorem add_le {a b c d : Int} (b0 : 0 < b) (c0 : 0 ≤ c) (d0 : 0 < d) : a * (nrm (a * d + c * b) (b * d)).2 ≤ (nrm (a * d + c * b) (b * d)).1 * b := by
  have hbd : 0 < b * d := Int.mul_pos b0 d0
  obtain ⟨n, v⟩ := nrm_spec (a := a * d + c * b) (b := b * d) (by omega)
  have p := n.pos
  generalize (nrm (a * d + c * b) (b * d)).1 = x at *
  generalize (nrm (a * d + c * b) (b * d)).2 = y at *
  refine le_of_mul (b := d) ?_ d0
  have : 0 ≤ c * b * y := Int.mul_nonneg (Int.mul_nonneg c0 (by omega)) (by omega)
  grind
theorem best2_sz {B : Int} {f c : Cut} {p q : Int} (z : areaOk B f c) (b : Best2 f c p q) : p.natAbs ≤ 2 * B ∧ q ≤ 2 * B := by
  obtain ⟨hf, hc, hl, zf, zc⟩ := z
  have b0 := hf.nf.pos
  have d0 := hc.nf.pos
  have k1 := hf.k01
  have k2 := hc.k01
  have u1 := zf.lo
  have u2 := zf.hi
  have u3 := zf.bb
  have v1 := zc.lo
  have v2 := zc.hi
  have v3 := zc.bb
  unfold Cut.lt at hl
  rcases hl with hl | ⟨hl, hk⟩
  · obtain ⟨l1, l2⟩ := b.low (f.a + c.a) (f.b + c.b) (by omega) ⟨by left; grind, fun c' e => by cases e; left; grind⟩
    omega
  · obtain ⟨l1, l2⟩ := b.low f.a f.b b0 ⟨by right; exact ⟨rfl, by omega⟩, fun c' e => by cases e; right; exact ⟨hl, by omega⟩⟩
    omega
end RT
set_option Elab.async false
set_option linter.all false
namespace SP
/-- a line of cuts; some of them stand just ahead of a point, and between two cuts there is one -/
class Lin (C : Type) where
  lt : C → C → Prop
  dec : ∀ a b, Decidable (lt a b)
  irr : ∀ a, ¬ lt a a
  trans : ∀ {a b c}, lt a b → lt b c → lt a c
  tri : ∀ a b, lt a b ∨ a = b ∨ lt b a
  Pt : C → Prop
  dense : ∀ {a b}, lt a b → ∃ x, Pt x ∧ ¬ lt x a ∧ lt x b
section
variable {C : Type} [Lin C]
open Lin
instance (a b : C) : Decidable (lt a b) := dec a b
theorem le_lt {a b c : C} (h1 : ¬ lt b a) (h2 : lt b c) : lt a c := by
  rcases tri a b with h | h | h
  · exact trans h h2
  · rw [h]; exact h2
  · exact absurd h h1
theorem lt_le {a b c : C} (h1 : lt a b) (h2 : ¬ lt c b) : lt a c := by
  rcases tri b c with h | h | h
  · exact trans h1 h
  · rw [← h]; exact h1
  · exact absurd h h2
theorem le_trans {a b c : C} (h1 : ¬ lt b a) (h2 : ¬ lt c b) : ¬ lt c a := fun h => by
  have := lt_le h h1
  exact h2 this
theorem asym {a b : C} (h : lt a b) : ¬ lt b a := fun h2 => irr a (trans h h2)
theorem le_antisymm {a b : C} (h1 : ¬ lt a b) (h2 : ¬ lt b a) : a = b := by
  rcases tri a b with h | h | h
  · exact absurd h h1
  · exact h
  · exact absurd h h2
def mx (a b : C) : C := if lt a b then b else a
def mn (a b : C) : C := if lt b a then b else a
theorem mx_le {a b x : C} : ¬ lt x (mx a b) ↔ ¬ lt x a ∧ ¬ lt x b := by
  unfold mx
  split
  · rename_i h
    exact ⟨fun z => ⟨le_trans (asym h) z, z⟩, fun z => z.2⟩
  · rename_i h
    exact ⟨fun z => ⟨z, le_trans h z⟩, fun z => z.1⟩
theorem lt_mx {a b x : C} : lt x (mx a b) ↔ lt x a ∨ lt x b := by
  unfold mx
  split
  · rename_i h
    exact ⟨.inr, fun z => z.elim (fun z => trans z h) id⟩
  · rename_i h
    exact ⟨.inl, fun z => z.elim id (fun z => lt_le z h)⟩
theorem lt_mn {a b x : C} : lt x (mn a b) ↔ lt x a ∧ lt x b := by
  unfold mn
  split
  · rename_i h
    exact ⟨fun z => ⟨trans z h, z⟩, fun z => z.2⟩
  · rename_i h
    exact ⟨fun z => ⟨z, lt_le z h⟩, fun z => z.1⟩
theorem mx_cases (a b : C) : mx a b = a ∨ mx a b = b := by unfold mx; split <;> simp
theorem mn_cases (a b : C) : mn a b = a ∨ mn a b = b := by unfold mn; split <;> simp
/-- a span: from a cut to a later one -/
def mem1 (s : C × C) (x : C) : Prop := ¬ lt x s.1 ∧ lt x s.2
def mem (S : List (C × C)) (x : C) : Prop := ∃ s ∈ S, mem1 s x
theorem mem_nil {x : C} : ¬ mem ([] : List (C × C)) x := fun ⟨_, h, _⟩ => by cases h
theorem mem_cons {s : C × C} {S : List (C × C)} {x : C} : mem (s :: S) x ↔ mem1 s x ∨ mem S x := by
  constructor
  · rintro ⟨t, h, m⟩
    rcases List.mem_cons.mp h with e | e
    · rw [e] at m; exact .inl m
    · exact .inr ⟨t, e, m⟩
  · rintro (h | ⟨t, h, m⟩)
    · exact ⟨s, List.mem_cons_self, h⟩
    · exact ⟨t, List.mem_cons_of_mem _ h, m⟩
theorem mem_append {S T : List (C × C)} {x : C} : mem (S ++ T) x ↔ mem S x ∨ mem T x := by
  constructor
  · rintro ⟨t, h, m⟩
    rcases List.mem_append.mp h with e | e
    · exact .inl ⟨t, e, m⟩
    · exact .inr ⟨t, e, m⟩
  · rintro (⟨t, h, m⟩ | ⟨t, h, m⟩)
    · exact ⟨t, List.mem_append.mpr (.inl h), m⟩
    · exact ⟨t, List.mem_append.mpr (.inr h), m⟩
/-- ascending spans that do not touch, all behind a cut -/
inductive After : Option C → List (C × C) → Prop
  | nil {a : Option C} : After a []
  | cons {a : Option C} {s : C × C} {S : List (C × C)} (h0 : ∀ c, a = some c → lt c s.1) (h1 : lt s.1 s.2) (h2 : After (some s.2) S) : After a (s :: S)
abbrev Canon (S : List (C × C)) : Prop := After none S
theorem After.behind {c : C} {S : List (C × C)} (h : After (some c) S) : ∀ {x}, mem S x → lt c x ∨ (lt c x) := by
  intro x hx
  induction S generalizing c with
  | nil => exact absurd hx mem_nil
  | cons s S ih =>
    cases h with
    | cons h0 h1 h2 =>
      rcases mem_cons.mp hx with m | m
      · exact .inl (lt_le (h0 c rfl) m.1)
      · rcases ih h2 m with z | z <;> exact .inl (trans (h0 c rfl) (trans h1 z))
theorem After.free {a : Option C} {S : List (C × C)} (h : After a S) : After none S := by
  cases h with
  | nil => exact .nil
  | cons h0 h1 h2 => exact .cons (fun c e => by cases e) h1 h2
/-- a set has one such form -/
theorem canon_eq : ∀ {a : Option C} {S T : List (C × C)}, After a S → After a T → (∀ x, Pt x → (mem S x ↔ mem T x)) → S = T := by
  intro a S
  induction S generalizing a with
  | nil =>
    intro T _ hT h
    cases hT with
    | nil => rfl
    | @cons _ t T h0 h1 h2 =>
      obtain ⟨x, px, x1, x2⟩ := dense h1
      exact absurd ((h x px).mpr (mem_cons.mpr (.inl ⟨x1, x2⟩))) mem_nil
  | cons s S ih =>
    intro T hS hT h
    cases hS with
    | cons h0 h1 h2 =>
    cases hT with
    | nil =>
      obtain ⟨x, px, x1, x2⟩ := dense h1
      exact absurd ((h x px).mp (mem_cons.mpr (.inl ⟨x1, x2⟩))) mem_nil
    | @cons _ t T g0 g1 g2 =>
      -- the first cuts
      have low : ∀ {u : C × C} {U : List (C × C)} {x : C}, lt u.1 u.2 → After (some u.2) U → mem (u :: U) x → ¬ lt x u.1 := by
        intro u U x k1 k2 hm
        rcases mem_cons.mp hm with m | m
        · exact m.1
        · rcases k2.behind m with z | z <;> exact asym (trans k1 z)
      have ef : s.1 = t.1 := by
        refine le_antisymm (fun z => ?_) (fun z => ?_)
        · obtain ⟨x, px, x1, x2⟩ := dense (show lt s.1 (mn s.2 t.1) from lt_mn.mpr ⟨h1, z⟩)
          have x3 := lt_mn.mp x2
          exact low g1 g2 ((h x px).mp (mem_cons.mpr (.inl ⟨x1, x3.1⟩))) x3.2
        · obtain ⟨x, px, x1, x2⟩ := dense (show lt t.1 (mn t.2 s.1) from lt_mn.mpr ⟨g1, z⟩)
          have x3 := lt_mn.mp x2
          exact low h1 h2 ((h x px).mpr (mem_cons.mpr (.inl ⟨x1, x3.1⟩))) x3.2
      -- the last cuts
      have gap : ∀ {u : C × C} {U : List (C × C)} {m : C}, After (some u.2) U → lt u.2 m → ∃ x, Pt x ∧ ¬ lt x u.2 ∧ lt x m ∧ ¬ mem (u :: U) x := by
        intro u U m k2 z
        cases k2 with
        | nil =>
          obtain ⟨x, px, x1, x2⟩ := dense z
          refine ⟨x, px, x1, x2, fun hm => ?_⟩
          rcases mem_cons.mp hm with m | m
          · exact x1 m.2
          · exact mem_nil m
        | @cons _ v V j0 j1 j2 =>
          obtain ⟨x, px, x1, x2⟩ := dense (show lt u.2 (mn m v.1) from lt_mn.mpr ⟨z, j0 _ rfl⟩)
          have x3 := lt_mn.mp x2
          refine ⟨x, px, x1, x3.1, fun hm => ?_⟩
          rcases mem_cons.mp hm with m | m
          · exact x1 m.2
          · exact low j1 j2 m x3.2
      have el : s.2 = t.2 := by
        refine le_antisymm (fun z => ?_) (fun z => ?_)
        · obtain ⟨x, px, x1, x2, x3⟩ := gap h2 z
          exact x3 ((h x px).mpr (mem_cons.mpr (.inl ⟨by rw [← ef]; exact le_trans (asym h1) x1, x2⟩)))
        · obtain ⟨x, px, x1, x2, x3⟩ := gap g2 z
          exact x3 ((h x px).mp (mem_cons.mpr (.inl ⟨by rw [ef]; exact le_trans (asym g1) x1, x2⟩)))
      have e : s = t := Prod.ext ef el
      subst e
      refine congrArg (s :: ·) (ih h2 g2 fun x px => ?_)
      have hx := h x px
      constructor
      · intro m
        rcases mem_cons.mp (hx.mp (mem_cons.mpr (.inr m))) with z | z
        · rcases h2.behind m with y | y <;> exact absurd z.2 (asym y)
        · exact z
      · intro m
        rcases mem_cons.mp (hx.mpr (mem_cons.mpr (.inr m))) with z | z
        · rcases g2.behind m with y | y <;> exact absurd z.2 (asym y)
        · exact z
end
end SP
set_option Elab.async false
set_option linter.all false
namespace SP
section
variable {C : Type} [Lin C]
open Lin
theorem After.snoc : ∀ {a : Option C} {F : List (C × C)} {s : C × C}, After a F → (∀ t, F.getLast? = some t → lt t.2 s.1) → (F = [] → ∀ c, a = some c → lt c s.1) → lt s.1 s.2 → After a (F ++ [s])
  | _, [], s, _, _, h2, h3 => .cons (h2 rfl) h3 .nil
  | _, t :: F, s, .cons h0 h1 h2, hl, _, h3 => by
    refine .cons h0 h1 (After.snoc h2 (fun u hu => ?_) (fun e c hc => ?_) h3)
    · cases F with
      | nil => cases hu
      | cons v V => exact hl u (by rw [List.getLast?_cons_cons]; exact hu)
    · subst e
      cases hc
      exact hl t rfl
theorem After.init : ∀ {a : Option C} {F : List (C × C)} {s : C × C}, After a (F ++ [s]) → After a F ∧ lt s.1 s.2
  | _, [], s, .cons h0 h1 h2 => ⟨.nil, h1⟩
  | _, t :: F, s, .cons h0 h1 h2 => by
    obtain ⟨i, j⟩ := After.init h2
    exact ⟨.cons h0 h1 i, j⟩
theorem After.grow : ∀ {a : Option C} {F : List (C × C)} {l : C × C} {m : C}, After a (F ++ [l]) → ¬ lt m l.2 → After a (F ++ [(l.1, m)])
  | _, [], l, m, .cons h0 h1 h2, hm => .cons h0 (lt_le h1 hm) .nil
  | _, t :: F, l, m, .cons h0 h1 h2, hm => .cons h0 h1 (After.grow h2 hm)
/-- spans by their first cuts -/
def Srt (S : List (C × C)) : Prop := S.Pairwise fun s t => ¬ lt t.1 s.1
def Val (S : List (C × C)) : Prop := ∀ s ∈ S, lt s.1 s.2
/-- what the merging holds so far -/
structure Mrg (done : List (C × C)) (F : List (C × C)) : Prop where
  can : Canon F
  mem : ∀ x, SP.mem F x ↔ SP.mem done x
  fst : ∀ t ∈ F, ∃ s ∈ done, t.1 = s.1
  all : ∀ P : C → Prop, (∀ s ∈ done, P s.1 ∧ P s.2) → ∀ t ∈ F, P t.1 ∧ P t.2
theorem Mrg.nil : Mrg ([] : List (C × C)) [] := ⟨.nil, fun _ => Iff.rfl, nofun, fun _ _ => nofun⟩
theorem mem_one {s : C × C} {x : C} : mem [s] x ↔ mem1 s x := by
  rw [mem_cons]
  exact ⟨fun h => h.elim id fun z => absurd z mem_nil, .inl⟩
theorem Mrg.next {done F : List (C × C)} {s : C × C} (h : Mrg done F) (hs : lt s.1 s.2) (hl : ∀ t, F.getLast? = some t → lt t.2 s.1) : Mrg (done ++ [s]) (F ++ [s]) := by
  refine ⟨h.can.snoc hl (fun _ c e => by cases e) hs, fun x => ?_, fun t ht => ?_, fun P hP t ht => ?_⟩
  · rw [mem_append, mem_append, h.mem x]
  · rcases List.mem_append.mp ht with z | z
    · obtain ⟨u, hu, e⟩ := h.fst t z
      exact ⟨u, List.mem_append.mpr (.inl hu), e⟩
    · exact ⟨t, List.mem_append.mpr (.inr z), rfl⟩
  · rcases List.mem_append.mp ht with z | z
    · exact h.all P (fun u hu => hP u (List.mem_append.mpr (.inl hu))) t z
    · exact hP t (List.mem_append.mpr (.inr z))
theorem Mrg.join {done F : List (C × C)} {l s : C × C} (h : Mrg done (F ++ [l])) (hs : lt s.1 s.2) (hf : ¬ lt s.1 l.1) (hl : ¬ lt l.2 s.1) : Mrg (done ++ [s]) (F ++ [(l.1, mx l.2 s.2)]) := by
  refine ⟨h.can.grow (fun z => (mx_le (x := mx l.2 s.2)).mp (irr _) |>.1 z), fun x => ?_, fun t ht => ?_, fun P hP t ht => ?_⟩
  · rw [mem_append, mem_append, ← h.mem x, mem_append, mem_one, mem_one, mem_one]
    have key : mem1 (l.1, mx l.2 s.2) x ↔ mem1 l x ∨ mem1 s x := by
      unfold mem1
      simp only
      rw [lt_mx]
      constructor
      · rintro ⟨h1, h2 | h2⟩
        · exact .inl ⟨h1, h2⟩
        · by_cases z : lt x l.2
          · exact .inl ⟨h1, z⟩
          · exact .inr ⟨le_trans hl z, h2⟩
      · rintro (⟨h1, h2⟩ | ⟨h1, h2⟩)
        · exact ⟨h1, .inl h2⟩
        · exact ⟨le_trans hf h1, .inr h2⟩
    rw [key, or_assoc]
  · rcases List.mem_append.mp ht with z | z
    · obtain ⟨u, hu, e⟩ := h.fst t (List.mem_append.mpr (.inl z))
      exact ⟨u, List.mem_append.mpr (.inl hu), e⟩
    · cases List.mem_singleton.mp z
      obtain ⟨u, hu, e⟩ := h.fst l (List.mem_append.mpr (.inr (List.mem_singleton.mpr rfl)))
      exact ⟨u, List.mem_append.mpr (.inl hu), e⟩
  · have h1 := h.all P (fun u hu => hP u (List.mem_append.mpr (.inl hu)))
    rcases List.mem_append.mp ht with z | z
    · exact h1 t (List.mem_append.mpr (.inl z))
    · cases List.mem_singleton.mp z
      refine ⟨(h1 l (List.mem_append.mpr (.inr (List.mem_singleton.mpr rfl)))).1, ?_⟩
      rcases mx_cases l.2 s.2 with e | e
      · show P (mx l.2 s.2)
        rw [e]
        exact (h1 l (List.mem_append.mpr (.inr (List.mem_singleton.mpr rfl)))).2
      · show P (mx l.2 s.2)
        rw [e]
        exact (hP s (List.mem_append.mpr (.inr (List.mem_singleton.mpr rfl)))).2
/-- putting a span at its place -/
theorem Srt.put {F G : List (C × C)} {s : C × C} (h : Srt (F ++ G)) (h1 : ∀ t ∈ F, ¬ lt s.1 t.1) (h2 : ∀ t ∈ G, ¬ lt t.1 s.1) : Srt (F ++ s :: G) := by
  unfold Srt at *
  rw [List.pairwise_append] at h ⊢
  refine ⟨h.1, List.pairwise_cons.mpr ⟨h2, h.2.1⟩, fun a ha b hb => ?_⟩
  rcases List.mem_cons.mp hb with e | e
  · subst e; exact h1 a ha
  · exact h.2.2 a ha b e
theorem mem_put {F G : List (C × C)} {s : C × C} {x : C} : mem (F ++ s :: G) x ↔ mem (F ++ G) x ∨ mem1 s x := by
  rw [mem_append, mem_cons, mem_append]
  constructor
  · rintro (h | h | h)
    · exact .inl (.inl h)
    · exact .inr h
    · exact .inl (.inr h)
  · rintro ((h | h) | h)
    · exact .inl h
    · exact .inr (.inr h)
    · exact .inr (.inl h)
/-- two spans' common part, what is left of one -/
def cut2 (f l : C) : List (C × C) := if lt f l then [(f, l)] else []
theorem mem_cut2 {f l x : C} : mem (cut2 f l) x ↔ ¬ lt x f ∧ lt x l := by
  unfold cut2
  split
  · rw [mem_one]; exact Iff.rfl
  · rename_i h
    exact ⟨fun z => absurd z mem_nil, fun z => absurd (le_lt z.1 z.2) h⟩
theorem val_cut2 {f l : C} : Val (cut2 f l) := fun s hs => by
  unfold cut2 at hs
  split at hs
  · rename_i h
    cases List.mem_singleton.mp hs
    exact h
  · cases hs
theorem mem_common {s t : C × C} {x : C} : mem (cut2 (mx s.1 t.1) (mn s.2 t.2)) x ↔ mem1 s x ∧ mem1 t x := by
  rw [mem_cut2, mx_le, lt_mn]
  unfold mem1
  constructor
  · rintro ⟨⟨a, b⟩, c, d⟩; exact ⟨⟨a, c⟩, b, d⟩
  · rintro ⟨⟨a, c⟩, b, d⟩; exact ⟨⟨a, b⟩, c, d⟩
theorem mem_without {s t : C × C} {x : C} : mem (cut2 s.1 (mn s.2 t.1) ++ cut2 (mx s.1 t.2) s.2) x ↔ mem1 s x ∧ ¬ mem1 t x := by
  rw [mem_append, mem_cut2, mem_cut2, lt_mn, mx_le]
  unfold mem1
  constructor
  · rintro (⟨a, b, c⟩ | ⟨⟨a, b⟩, c⟩)
    · exact ⟨⟨a, b⟩, fun z => z.1 c⟩
    · exact ⟨⟨a, c⟩, fun z => b z.2⟩
  · rintro ⟨⟨a, b⟩, c⟩
    by_cases z : lt x t.1
    · exact .inl ⟨a, b, z⟩
    · exact .inr ⟨⟨a, fun y => c ⟨z, y⟩⟩, b⟩
end
end SP
set_option Elab.async false
set_option linter.all false
namespace SP
open RT
/-- cuts in lowest terms -/
abbrev OC : Type := {c : Cut // c.Ok}
theorem cut_trans {x y z : Cut} (hx : x.Ok) (hy : y.Ok) (hz : z.Ok) (h1 : Cut.lt x y) (h2 : Cut.lt y z) : Cut.lt x z := by
  have b0 := hx.nf.pos
  have d0 := hy.nf.pos
  have f0 := hz.nf.pos
  unfold Cut.lt at *
  have e1 : (x.a * z.b) * y.b = (x.a * y.b) * z.b := by grind
  have e2 : (z.a * x.b) * y.b = (z.a * y.b) * x.b := by grind
  have e3 : (y.a * x.b) * z.b = (y.a * z.b) * x.b := by grind
  have m1 : x.a * y.b < y.a * x.b → (x.a * y.b) * z.b < (y.a * x.b) * z.b := fun h => Int.mul_lt_mul_of_pos_right h f0
  have m2 : y.a * z.b < z.a * y.b → (y.a * z.b) * x.b < (z.a * y.b) * x.b := fun h => Int.mul_lt_mul_of_pos_right h b0
  rcases h1 with h1 | ⟨h1, k1⟩
  · have n1 := m1 h1
    left
    refine lt_of_mul (b := y.b) ?_ d0
    rcases h2 with h2 | ⟨h2, k2⟩
    · have n2 := m2 h2
      omega
    · rw [h2] at e3
      omega
  · rcases h2 with h2 | ⟨h2, k2⟩
    · have n2 := m2 h2
      left
      refine lt_of_mul (b := y.b) ?_ d0
      rw [h1] at e1
      omega
    · right
      refine ⟨?_, by omega⟩
      refine Int.eq_of_mul_eq_mul_right (show y.b ≠ 0 by omega) ?_
      rw [e1, e2, h1, e3, h2]
theorem cut_tri {x y : Cut} (hx : x.Ok) (hy : y.Ok) : Cut.lt x y ∨ x = y ∨ Cut.lt y x := by
  unfold Cut.lt
  by_cases h1 : x.a * y.b < y.a * x.b
  · exact .inl (.inl h1)
  · by_cases h2 : y.a * x.b < x.a * y.b
    · exact .inr (.inr (.inl h2))
    · have e : x.a * y.b = y.a * x.b := by omega
      obtain ⟨e1, e2⟩ := nf_eq hx.nf hy.nf e
      by_cases h3 : x.k < y.k
      · exact .inl (.inr ⟨e, h3⟩)
      · by_cases h4 : y.k < x.k
        · exact .inr (.inr (.inr ⟨e.symm, h4⟩))
        · refine .inr (.inl ?_)
          have e3 : x.k = y.k := by omega
          cases x
          cases y
          simp only at e1 e2 e3
          subst e1 e2 e3
          rfl
theorem cut_dense {x y : Cut} (hx : x.Ok) (hy : y.Ok) (h : Cut.lt x y) : ∃ z : Cut, z.Ok ∧ z.k = 0 ∧ ¬ Cut.lt z x ∧ Cut.lt z y := by
  have b0 := hx.nf.pos
  have d0 := hy.nf.pos
  have h' := h
  unfold Cut.lt at h
  rcases h with h | ⟨h, k⟩
  · have hb : x.b + y.b ≠ 0 := by omega
    have n := nrm_nf (a := x.a + y.a) hb
    have v := nrm_val (a := x.a + y.a) hb
    have n0 := n.pos
    generalize (nrm (x.a + y.a) (x.b + y.b)).1 = p at *
    generalize (nrm (x.a + y.a) (x.b + y.b)).2 = q at *
    have s0 : 0 < x.b + y.b := by omega
    refine ⟨⟨p, q, 0⟩, ⟨n, .inl rfl⟩, rfl, ?_, ?_⟩
    · have : x.a * q < p * x.b := by
        refine lt_of_mul (b := x.b + y.b) ?_ s0
        have m : (x.a * y.b) * q < (y.a * x.b) * q := Int.mul_lt_mul_of_pos_right h n0
        have e : p * x.b * (x.b + y.b) = (x.a + y.a) * q * x.b := by rw [← v]; grind
        rw [e]
        grind
      unfold Cut.lt
      simp only
      omega
    · left
      show p * y.b < y.a * q
      refine lt_of_mul (b := x.b + y.b) ?_ s0
      have m : (x.a * y.b) * q < (y.a * x.b) * q := Int.mul_lt_mul_of_pos_right h n0
      have e : p * y.b * (x.b + y.b) = (x.a + y.a) * q * y.b := by rw [← v]; grind
      rw [e]
      grind
  · have k1 := hx.k01
    have k2 := hy.k01
    refine ⟨x, hx, by omega, ?_, h'⟩
    unfold Cut.lt
    omega
instance : Lin OC where
  lt a b := Cut.lt a.1 b.1
  dec a b := inferInstance
  irr a := by unfold Cut.lt; omega
  trans {a b c} h1 h2 := cut_trans a.2 b.2 c.2 h1 h2
  tri a b := by
    rcases cut_tri a.2 b.2 with h | h | h
    · exact .inl h
    · exact .inr (.inl (Subtype.ext h))
    · exact .inr (.inr h)
  Pt a := a.1.k = 0
  dense {a b} h := by
    obtain ⟨z, h1, h2, h3, h4⟩ := cut_dense a.2 b.2 h
    exact ⟨⟨z, h1⟩, h2, h3, h4⟩
end SP
set_option Elab.async false
set_option linter.all false
namespace SP
section
variable {C : Type} [Lin C]
open Lin
def cm (S T : List (C × C)) : List (C × C) := S.flatMap fun s => T.flatMap fun t => cut2 (mx s.1 t.1) (mn s.2 t.2)
def wo1 (s t : C × C) : List (C × C) := cut2 s.1 (mn s.2 t.1) ++ cut2 (mx s.1 t.2) s.2
def wo (S : List (C × C)) (t : C × C) : List (C × C) := S.flatMap fun s => wo1 s t
def woL (S T : List (C × C)) : List (C × C) := T.foldl wo S
theorem mem_flat {α : Type} {f : α → List (C × C)} {S : List α} {x : C} : mem (S.flatMap f) x ↔ ∃ s ∈ S, mem (f s) x := by
  constructor
  · rintro ⟨t, h, m⟩
    obtain ⟨s, hs, ht⟩ := List.mem_flatMap.mp h
    exact ⟨s, hs, t, ht, m⟩
  · rintro ⟨s, hs, t, ht, m⟩
    exact ⟨t, List.mem_flatMap.mpr ⟨s, hs, ht⟩, m⟩
theorem mem_cm {S T : List (C × C)} {x : C} : mem (cm S T) x ↔ mem S x ∧ mem T x := by
  unfold cm
  rw [mem_flat]
  constructor
  · rintro ⟨s, hs, m⟩
    obtain ⟨t, ht, m⟩ := mem_flat.mp m
    obtain ⟨m1, m2⟩ := mem_common.mp m
    exact ⟨⟨s, hs, m1⟩, t, ht, m2⟩
  · rintro ⟨⟨s, hs, m1⟩, t, ht, m2⟩
    exact ⟨s, hs, mem_flat.mpr ⟨t, ht, mem_common.mpr ⟨m1, m2⟩⟩⟩
theorem mem_wo {S : List (C × C)} {t : C × C} {x : C} : mem (wo S t) x ↔ mem S x ∧ ¬ mem1 t x := by
  unfold wo
  rw [mem_flat]
  constructor
  · rintro ⟨s, hs, m⟩
    obtain ⟨m1, m2⟩ := mem_without.mp m
    exact ⟨⟨s, hs, m1⟩, m2⟩
  · rintro ⟨⟨s, hs, m1⟩, m2⟩
    exact ⟨s, hs, mem_without.mpr ⟨m1, m2⟩⟩
theorem mem_woL {S T : List (C × C)} {x : C} : mem (woL S T) x ↔ mem S x ∧ ¬ mem T x := by
  unfold woL
  induction T generalizing S with
  | nil => exact ⟨fun h => ⟨h, mem_nil⟩, fun h => h.1⟩
  | cons t T ih =>
    rw [List.foldl_cons, ih, mem_wo, mem_cons]
    constructor
    · rintro ⟨⟨a, b⟩, c⟩; exact ⟨a, fun z => z.elim b c⟩
    · rintro ⟨a, b⟩; exact ⟨⟨a, fun z => b (.inl z)⟩, fun z => b (.inr z)⟩
theorem all_cut2 {P : C → Prop} {f l : C} (h1 : P f) (h2 : P l) : ∀ u ∈ cut2 f l, lt u.1 u.2 ∧ P u.1 ∧ P u.2 := by
  intro u hu
  unfold cut2 at hu
  split at hu
  · rename_i h
    cases List.mem_singleton.mp hu
    exact ⟨h, h1, h2⟩
  · cases hu
theorem p_mx {P : C → Prop} {a b : C} (h1 : P a) (h2 : P b) : P (mx a b) := by
  rcases mx_cases a b with e | e <;> rw [e] <;> assumption
theorem p_mn {P : C → Prop} {a b : C} (h1 : P a) (h2 : P b) : P (mn a b) := by
  rcases mn_cases a b with e | e <;> rw [e] <;> assumption
theorem all_cm {P : C → Prop} {S T : List (C × C)} (hS : ∀ s ∈ S, P s.1 ∧ P s.2) (hT : ∀ s ∈ T, P s.1 ∧ P s.2) : ∀ u ∈ cm S T, lt u.1 u.2 ∧ P u.1 ∧ P u.2 := by
  intro u hu
  obtain ⟨s, hs, hu⟩ := List.mem_flatMap.mp hu
  obtain ⟨t, ht, hu⟩ := List.mem_flatMap.mp hu
  exact all_cut2 (p_mx (hS s hs).1 (hT t ht).1) (p_mn (hS s hs).2 (hT t ht).2) u hu
theorem all_wo1 {P : C → Prop} {s t : C × C} (h1 : P s.1 ∧ P s.2) (h2 : P t.1 ∧ P t.2) : ∀ u ∈ wo1 s t, lt u.1 u.2 ∧ P u.1 ∧ P u.2 := by
  intro u hu
  rcases List.mem_append.mp hu with hu | hu
  · exact all_cut2 h1.1 (p_mn h1.2 h2.1) u hu
  · exact all_cut2 (p_mx h1.1 h2.2) h1.2 u hu
theorem all_wo {P : C → Prop} {S : List (C × C)} {t : C × C} (hS : ∀ s ∈ S, P s.1 ∧ P s.2) (ht : P t.1 ∧ P t.2) : ∀ u ∈ wo S t, lt u.1 u.2 ∧ P u.1 ∧ P u.2 := by
  intro u hu
  obtain ⟨s, hs, hu⟩ := List.mem_flatMap.mp hu
  exact all_wo1 (hS s hs) ht u hu
theorem len_cut2 {f l : C} : (cut2 f l).length ≤ 1 := by
  unfold cut2
  split <;> simp
theorem len_flat {α β : Type} {f : α → List β} {n : Nat} : ∀ {S : List α}, (∀ s ∈ S, (f s).length ≤ n) → (S.flatMap f).length ≤ S.length * n
  | [], _ => by simp
  | s :: S, h => by
    rw [List.flatMap_cons, List.length_append, List.length_cons, Nat.add_mul, Nat.one_mul]
    have h1 := h s List.mem_cons_self
    have h2 := len_flat (S := S) fun t ht => h t (List.mem_cons_of_mem _ ht)
    omega
theorem len_cm {S T : List (C × C)} : (cm S T).length ≤ S.length * T.length := by
  refine len_flat fun s _ => ?_
  have := len_flat (f := fun t : C × C => cut2 (mx s.1 t.1) (mn s.2 t.2)) (n := 1) (S := T) fun t _ => len_cut2
  omega
theorem After.weak {a : Option C} {c : C} {S : List (C × C)} (h : After (some c) S) (ha : ∀ d, a = some d → ¬ lt c d) : After a S := by
  cases h with
  | nil => exact .nil
  | cons h0 h1 h2 => exact .cons (fun d e => le_lt (ha d e) (h0 c rfl)) h1 h2
theorem wo1_parts {s t : C × C} (ht : lt t.1 t.2) {a : Option C} {R : List (C × C)} (h0 : ∀ c, a = some c → lt c s.1) (h1 : lt s.1 s.2) (hR : After (some s.2) R) : After a (wo1 s t ++ R) := by
  unfold wo1 cut2
  have hm1 : ¬ lt t.1 (mn s.2 t.1) := fun z => irr _ (lt_mn.mp z).2
  have hm2 : ¬ lt s.2 (mn s.2 t.1) := fun z => irr _ (lt_mn.mp z).1
  have hx := mx_le.mp (irr (mx s.1 t.2))
  by_cases A : lt s.1 (mn s.2 t.1)
  · rw [if_pos A]
    by_cases B : lt (mx s.1 t.2) s.2
    · rw [if_pos B]
      exact .cons h0 A (.cons (fun c e => by cases e; exact lt_le (le_lt hm1 ht) hx.2) B hR)
    · rw [if_neg B]
      exact .cons h0 A (hR.weak fun d e => by cases e; exact hm2)
  · rw [if_neg A]
    by_cases B : lt (mx s.1 t.2) s.2
    · rw [if_pos B]
      exact .cons (fun c e => lt_le (h0 c e) hx.1) B hR
    · rw [if_neg B]
      exact hR.weak fun d e => asym (trans (h0 d e) h1)
theorem wo_after {t : C × C} (ht : lt t.1 t.2) : ∀ {a : Option C} {S : List (C × C)}, After a S → After a (wo S t)
  | _, [], _ => .nil
  | _, s :: S, .cons h0 h1 h2 => by
    show After _ (List.flatMap _ (s :: S))
    rw [List.flatMap_cons]
    exact wo1_parts ht h0 h1 (wo_after ht h2)
theorem woL_after {T : List (C × C)} (hT : Val T) {a : Option C} {S : List (C × C)} (h : After a S) : After a (woL S T) := by
  unfold woL
  induction T generalizing S with
  | nil => exact h
  | cons t T ih => exact ih (fun s hs => hT s (List.mem_cons_of_mem _ hs)) (wo_after (hT t List.mem_cons_self) h)
theorem len_wo1 {s t : C × C} (h : ¬ (lt s.1 t.1 ∧ lt t.2 s.2)) : (wo1 s t).length ≤ 1 := by
  unfold wo1 cut2
  by_cases A : lt s.1 (mn s.2 t.1)
  · rw [if_pos A]
    by_cases B : lt (mx s.1 t.2) s.2
    · exact absurd ⟨(lt_mn.mp A).2, le_lt (mx_le.mp (irr (mx s.1 t.2))).2 B⟩ h
    · rw [if_neg B]; simp
  · rw [if_neg A]
    split <;> simp
theorem len_wo0 {t : C × C} (ht : lt t.1 t.2) : ∀ {c : C} {S : List (C × C)}, After (some c) S → ¬ lt c t.1 → (wo S t).length ≤ S.length
  | _, [], _, _ => by simp [wo]
  | c, s :: S, .cons h0 h1 h2, hc => by
    show (List.flatMap _ (s :: S)).length ≤ _
    rw [List.flatMap_cons, List.length_append, List.length_cons]
    have n1 : ¬ lt s.1 t.1 := le_trans hc (asym (h0 c rfl))
    have a := len_wo1 (s := s) (t := t) fun z => n1 z.1
    have b := len_wo0 ht h2 (le_trans n1 (asym h1))
    unfold wo at b
    omega
theorem len_wo {t : C × C} (ht : lt t.1 t.2) : ∀ {a : Option C} {S : List (C × C)}, After a S → (wo S t).length ≤ S.length + 1
  | _, [], _ => by simp [wo]
  | _, s :: S, .cons h0 h1 h2 => by
    show (List.flatMap _ (s :: S)).length ≤ _
    rw [List.flatMap_cons, List.length_append, List.length_cons]
    by_cases z : lt s.1 t.1 ∧ lt t.2 s.2
    · have a : (wo1 s t).length ≤ 2 := by
        unfold wo1
        rw [List.length_append]
        have := len_cut2 (f := s.1) (l := mn s.2 t.1)
        have := len_cut2 (f := mx s.1 t.2) (l := s.2)
        omega
      have b := len_wo0 ht h2 (asym (trans ht z.2))
      unfold wo at b
      omega
    · have a := len_wo1 z
      have b := len_wo ht h2
      unfold wo at b
      omega
theorem len_woL {T : List (C × C)} (hT : Val T) {a : Option C} {S : List (C × C)} (h : After a S) : (woL S T).length ≤ S.length + T.length := by
  unfold woL
  induction T generalizing S with
  | nil => exact Nat.le_refl _
  | cons t T ih =>
    have h1 := len_wo (hT t List.mem_cons_self) h
    have h2 := ih (fun s hs => hT s (List.mem_cons_of_mem _ hs)) (wo_after (hT t List.mem_cons_self) h)
    rw [List.foldl_cons, List.length_cons]
    omega
/-- a span put behind all that are not behind it -/
theorem srt_take {F : List (C × C)} {s : C × C} (h : Srt F) (n : Nat) (h1 : ∀ t ∈ F.take n, ¬ lt s.1 t.1) (h2 : ∀ t ∈ F.drop n, lt s.1 t.1) : Srt (F.take n ++ [s] ++ F.drop n) := by
  rw [List.append_assoc]
  exact Srt.put (F := F.take n) (G := F.drop n) (s := s) (by rw [List.take_append_drop]; exact h) h1 fun t ht => asym (h2 t ht)
theorem srt_le {F : List (C × C)} (h : Srt F) {i j : Nat} {s t : C × C} (hi : F[i]? = some s) (hj : F[j]? = some t) (hij : i ≤ j) : ¬ lt t.1 s.1 := by
  by_cases e : i = j
  · subst e
    rw [hi] at hj
    cases hj
    exact irr _
  · obtain ⟨li, ei⟩ := List.getElem?_eq_some_iff.mp hi
    obtain ⟨lj, ej⟩ := List.getElem?_eq_some_iff.mp hj
    have := (List.pairwise_iff_getElem.mp h) i j li lj (by omega)
    rw [ei, ej] at this
    exact this
theorem srt_here {F : List (C × C)} {s : C × C} (h : Srt F) (n : Nat) (hn : n ≤ F.length) (h2 : ∀ t ∈ F.drop n, lt s.1 t.1) (h1 : n = 0 ∨ ∃ t, F[n - 1]? = some t ∧ ¬ lt s.1 t.1) : Srt (F.take n ++ [s] ++ F.drop n) := by
  refine srt_take h n (fun t ht => ?_) h2
  rcases h1 with rfl | ⟨u, hu, nu⟩
  · simp at ht
  · obtain ⟨i, hi, e⟩ := List.mem_iff_getElem.mp ht
    rw [List.length_take] at hi
    have e2 : F[i]? = some t := by
      rw [← e, List.getElem_take]
      simp
    exact le_trans (srt_le h e2 hu (by omega)) nu
theorem srt_count {s : C × C} : ∀ {F : List (C × C)}, Srt F → (∀ t ∈ F.take (F.filter fun t => !decide (lt s.1 t.1)).length, ¬ lt s.1 t.1) ∧ ∀ t ∈ F.drop (F.filter fun t => !decide (lt s.1 t.1)).length, lt s.1 t.1
  | [], _ => by simp
  | u :: F, h => by
    have h' := List.pairwise_cons.mp h
    by_cases z : lt s.1 u.1
    · have e : (u :: F).filter (fun t => !decide (lt s.1 t.1)) = [] := by
        rw [List.filter_eq_nil_iff]
        intro t ht
        rcases List.mem_cons.mp ht with e | e
        · subst e; simp [z]
        · have := lt_le z (h'.1 t e)
          simp [this]
      rw [e]
      refine ⟨by simp, fun t ht => ?_⟩
      have ht : t ∈ u :: F := by simpa using ht
      rcases List.mem_cons.mp ht with e | e
      · subst e; exact z
      · exact lt_le z (h'.1 t e)
    · have ih := srt_count (s := s) h'.2
      have e : (u :: F).filter (fun t => !decide (lt s.1 t.1)) = u :: F.filter fun t => !decide (lt s.1 t.1) := by
        rw [List.filter_cons, if_pos (by simp [z])]
      rw [e, List.length_cons]
      refine ⟨fun t ht => ?_, fun t ht => ?_⟩
      · rw [List.take_succ_cons] at ht
        rcases List.mem_cons.mp ht with e | e
        · subst e; exact z
        · exact ih.1 t e
      · rw [List.drop_succ_cons] at ht
        exact ih.2 t ht
/-- what merging gives -/
structure Mg (S F : List (C × C)) : Prop where
  can : Canon F
  mem : ∀ x, SP.mem F x ↔ SP.mem S x
  all : ∀ P : C → Prop, (∀ s ∈ S, P s.1 ∧ P s.2) → ∀ t ∈ F, P t.1 ∧ P t.2
  len : F.length ≤ S.length
theorem After.val : ∀ {a : Option C} {S : List (C × C)}, After a S → Val S
  | _, [], _ => fun s hs => by cases hs
  | _, t :: S, .cons h0 h1 h2 => fun s hs => by
    rcases List.mem_cons.mp hs with e | e
    · subst e; exact h1
    · exact After.val h2 s e
theorem Mg.same {S T F G : List (C × C)} (h1 : Mg S F) (h2 : Mg T G) (h : ∀ x, Pt x → (SP.mem S x ↔ SP.mem T x)) : F = G :=
  canon_eq h1.can h2.can fun x px => (h1.mem x).trans ((h x px).trans (h2.mem x).symm)
theorem Mg.self {S F : List (C × C)} (h1 : Mg S F) (h : Canon S) : F = S := canon_eq h1.can h fun x _ => h1.mem x
theorem mem_perm {S T : List (C × C)} (h : S.Perm T) {x : C} : mem S x ↔ mem T x :=
  ⟨fun ⟨s, hs, m⟩ => ⟨s, h.mem_iff.mp hs, m⟩, fun ⟨s, hs, m⟩ => ⟨s, h.mem_iff.mpr hs, m⟩⟩
theorem Mg.of {S T F : List (C × C)} (h : Mrg T F) (p : T.Perm S) (hl : F.length ≤ T.length) : Mg S F :=
  ⟨h.can, fun x => (h.mem x).trans (mem_perm p), fun P hP => h.all P fun s hs => hP s (p.mem_iff.mp hs), by rw [← p.length_eq]; exact hl⟩
end
open RT
/-- the point p / q -/
def pt {p q : Int} (n : Nf p q) : OC := ⟨⟨p, q, 0⟩, ⟨n, .inl rfl⟩⟩
theorem mem1_pt {s : OC × OC} {p q : Int} (n : Nf p q) : mem1 s (pt n) ↔ inB s.1.1 s.2.1 p q = true := by
  unfold mem1 inB
  have k := s.2.2.k01
  simp only [Bool.and_eq_true, Bool.not_eq_true', decide_eq_false_iff_not]
  refine and_congr Iff.rfl ?_
  show Cut.lt ⟨p, q, 0⟩ s.2.1 ↔ ¬ Cut.lt s.2.1 ⟨p, q, 1⟩
  unfold Cut.lt
  simp only
  omega
theorem mem_pt {S : List (OC × OC)} {p q : Int} (n : Nf p q) : mem S (pt n) ↔ S.any (fun s => inB s.1.1 s.2.1 p q) = true := by
  rw [List.any_eq_true]
  exact ⟨fun ⟨s, hs, m⟩ => ⟨s, hs, (mem1_pt n).mp m⟩, fun ⟨s, hs, m⟩ => ⟨s, hs, (mem1_pt n).mpr m⟩⟩
theorem pt_of {x : OC} (h : Lin.Pt x) : ∃ (p q : Int) (n : Nf p q), x = pt n := by
  obtain ⟨⟨p, q, k⟩, ok⟩ := x
  have hk : k = 0 := h
  subst hk
  exact ⟨p, q, ok.nf, rfl⟩
end SP
set_option Elab.async false
set_option linter.all false
set_option maxRecDepth 100000
set_option maxHeartbeats 2000000
namespace GSw
open PySem
def stuckF (f : Frame) : Frame := .ret (fun _ => .unsupported "") none false [] f.where_.1 f.where_.2 []
def stuckG : GenState → GenState
  | .suspended _ l c p fs cl => .suspended (fun _ => .unsupported "") l c p (fs.map stuckF) cl
  | x => x
theorem seen_stuck (x : GenState) : (stuckG x).seen = x.seen := by
  cases x with
  | suspended k l c p fs cl =>
    show (GenStatus.suspended, some ((c, p) :: (fs.map stuckF).map Frame.where_)) = (GenStatus.suspended, some ((c, p) :: fs.map Frame.where_))
    rw [List.map_map]
    congr 4
  | _ => rfl
theorem bare_stuck (x : GenState) : (stuckG x).bare = x.bare := by cases x <;> rfl
theorem no_unsup {M : Model} {Γ : Ctx} {p : Pos} {y : String} {s s' : Shared} {e : End} : ∀ {fs : List Frame}, ¬ Runs M Γ p (.unsupported y) fs s e s' := by
  have h0 : ∀ {Γ : Ctx} {p : Pos} {s s' : Shared} {e : End}, ¬ Runs M Γ p (.unsupported y) [] s e s' := fun h => by cases h
  intro fs h
  cases fs with
  | nil => exact h0 h
  | cons f r => cases h with
    | segRet a _ => exact h0 a
    | segGen a _ => exact h0 a
    | segSuspOut _ a => exact h0 a
    | segSuspGen _ a _ _ => exact h0 a
/-- the same, but for the sleeping ones of S -/
structure Sw (S : Nat → Prop) (s₂ s : Shared) : Prop where
  heap : s₂.heap = s.heap
  drawn : s₂.drawn = s.drawn
  toks : s₂.toks = s.toks
  os : s₂.os = s.os
  size : s₂.gens.size = s.gens.size
  on : ∀ i, S i → ∃ k l c p fs cl, s.gens[i]? = some (.suspended k l c p fs cl) ∧ s₂.gens[i]? = some (stuckG (.suspended k l c p fs cl))
  off : ∀ i, ¬ S i → s₂.gens[i]? = s.gens[i]?
def NF (S : Nat → Prop) (fs : List Frame) : Prop := ∀ f ∈ fs, ∀ g k l c p, f = .gen g k l c p → ¬ S g
def NG (S : Nat → Prop) (s : Shared) : Prop := ∀ i k l c p fs cl, ¬ S i → s.gens[i]? = some (.suspended k l c p fs cl) → NF S fs
def NE (S : Nat → Prop) : End → Prop
  | .susp _ _ _ _ _ _ fs => NF S fs
  | _ => True
theorem NF.nil {S : Nat → Prop} : NF S [] := fun f h => by cases h
theorem NF.app {S : Nat → Prop} {a b : List Frame} (h1 : NF S a) (h2 : NF S b) : NF S (a ++ b) := fun f h => (List.mem_append.mp h).elim (h1 f) (h2 f)
theorem NF.ret {S : Nat → Prop} {k : Result → Sem PySem.Fin} {h : Option Value} {g : Bool} {l : List Value} {c : Code} {p : Pos} {kp : List Value} : NF S [.ret k h g l c p kp] := fun f hf => by
  simp only [List.mem_cons, List.not_mem_nil, or_false] at hf
  subst hf
  intro _ _ _ _ _ e
  cases e
theorem NF.tail {S : Nat → Prop} {f : Frame} {fs : List Frame} (h : NF S (f :: fs)) : NF S fs := fun x hx => h x (List.mem_cons_of_mem _ hx)
theorem get_set {s : Shared} {g i : Nat} {x : GenState} : (s.setGen g x).gens[i]? = if i = g then (if g < s.gens.size then some x else none) else s.gens[i]? := by
  show (s.gens.setIfInBounds g x)[i]? = _
  rw [Array.getElem?_setIfInBounds]
  by_cases h : g = i
  · subst h; simp
  · rw [if_neg h, if_neg (Ne.symm h)]
theorem Sw.set {S : Nat → Prop} {s₂ s : Shared} (w : Sw S s₂ s) {g : Nat} (hg : ¬ S g) (x : GenState) : Sw S (s₂.setGen g x) (s.setGen g x) := by
  refine ⟨w.heap, w.drawn, w.toks, w.os, by simp [Shared.setGen, w.size], fun i hi => ?_, fun i hi => ?_⟩
  · have ne : i ≠ g := fun e => hg (e ▸ hi)
    rw [get_set, get_set, if_neg ne, if_neg ne]
    exact w.on i hi
  · rw [get_set, get_set, w.size]
    by_cases e : i = g
    · rw [if_pos e, if_pos e]
    · rw [if_neg e, if_neg e]; exact w.off i hi
theorem NG.set {S : Nat → Prop} {s : Shared} (h : NG S s) {g : Nat} {x : GenState} (hx : ∀ k l c p fs cl, x = .suspended k l c p fs cl → NF S fs) : NG S (s.setGen g x) := fun i k l c p fs cl hi e => by
  rw [get_set] at e
  by_cases ei : i = g
  · rw [if_pos ei] at e
    split at e
    · exact hx _ _ _ _ _ _ (Option.some.inj e)
    · cases e
  · rw [if_neg ei] at e
    exact h i k l c p fs cl hi e
theorem NE.gen {S : Nat → Prop} {e : End} (h : NE S e) : ∀ k l c p fs cl, e.genState = .suspended k l c p fs cl → NF S fs := by
  intro k l c p fs cl eq
  cases e with
  | ret r => cases eq
  | susp v g l0 k0 c0 p0 fs0 => cases eq; exact h
theorem Sw.get {S : Nat → Prop} {s₂ s : Shared} (w : Sw S s₂ s) {g : Nat} {st : GenState} (e : s₂.gens[g]? = some st) (h : ∀ k l c p fs cl, st ≠ .suspended k l c p fs cl) : ¬ S g ∧ s.gens[g]? = some st := by
  have hg : ¬ S g := fun hs => by
    obtain ⟨k, l, c, p, fs, cl, _, e2⟩ := w.on g hs
    rw [e] at e2
    exact h _ _ _ _ _ _ (Option.some.inj e2)
  exact ⟨hg, by rw [← w.off g hg]; exact e⟩
theorem Sw.look {S : Nat → Prop} {s₂ s : Shared} (w : Sw S s₂ s) {g : Nat} {st : GenState} (e : s₂.gens[g]? = some st) : ∃ st', s.gens[g]? = some st' ∧ st.seen = st'.seen := by
  by_cases hg : S g
  · obtain ⟨k, l, c, p, fs, cl, e1, e2⟩ := w.on g hg
    rw [e] at e2
    cases Option.some.inj e2
    exact ⟨_, e1, seen_stuck _⟩
  · exact ⟨st, by rw [← w.off g hg]; exact e, rfl⟩
theorem Sw.push {S : Nat → Prop} {s₂ s : Shared} (w : Sw S s₂ s) (c : Code) : Sw S { s₂ with gens := s₂.gens.push (.fresh c) } { s with gens := s.gens.push (.fresh c) } := by
  refine ⟨w.heap, w.drawn, w.toks, w.os, by show (s₂.gens.push _).size = (s.gens.push _).size; rw [Array.size_push, Array.size_push, w.size], fun i hi => ?_, fun i hi => ?_⟩
  · obtain ⟨k, l, c', p, fs, cl, e1, e2⟩ := w.on i hi
    have h1 : i < s.gens.size := (Array.getElem?_eq_some_iff.mp e1).1
    refine ⟨k, l, c', p, fs, cl, ?_, ?_⟩
    · show (s.gens.push _)[i]? = _
      rw [Array.getElem?_push, if_neg (by omega)]; exact e1
    · show (s₂.gens.push _)[i]? = _
      rw [Array.getElem?_push, if_neg (by rw [w.size]; omega)]; exact e2
  · show (s₂.gens.push _)[i]? = (s.gens.push _)[i]?
    rw [Array.getElem?_push, Array.getElem?_push, w.size]
    split
    · rfl
    · exact w.off i hi
theorem NG.push {S : Nat → Prop} {s : Shared} (h : NG S s) (c : Code) : NG S { s with gens := s.gens.push (.fresh c) } := fun i k l c' p fs cl hi e => by
  have e : (s.gens.push (.fresh c))[i]? = some (.suspended k l c' p fs cl) := e
  rw [Array.getElem?_push] at e
  split at e
  · cases e
  · exact h i k l c' p fs cl hi e
theorem split_nf {S : Nat → Prop} : ∀ {fs pre rest : List Frame} {g : Nat} {k : GenResult → Sem PySem.Fin} {c : Code} {p : Pos}, splitAtGen fs = some (pre, (g, k, c, p), rest) → NF S fs → NF S pre ∧ ¬ S g ∧ NF S rest
  | [], _, _, _, _, _, _, h, _ => by cases h
  | .gen g0 k0 l0 c0 p0 :: r, pre, rest, g, k, c, p, h, n => by
    cases h
    exact ⟨.nil, n _ List.mem_cons_self _ _ _ _ _ rfl, n.tail⟩
  | .ret a b c0 d e0 f0 g0 :: r, pre, rest, g, k, c, p, h, n => by
    have h : (splitAtGen r).map (fun (fs, b', r') => (Frame.ret a b c0 d e0 f0 g0 :: fs, b', r')) = some (pre, (g, k, c, p), rest) := h
    rw [Option.map_eq_some_iff] at h
    obtain ⟨⟨fs, b', r'⟩, h1, h2⟩ := h
    cases h2
    obtain ⟨q1, q2, q3⟩ := split_nf h1 n.tail
    exact ⟨fun f hf => by
      rcases List.mem_cons.mp hf with rfl | hf
      · intro _ _ _ _ _ e; cases e
      · exact q1 f hf, q2, q3⟩
theorem set_at {s : Shared} {g i : Nat} {x : GenState} (h : i ≠ g) : (s.setGen g x).gens[i]? = s.gens[i]? := by rw [get_set, if_neg h]
theorem set_atS {S : Nat → Prop} {s : Shared} {g i : Nat} {x : GenState} (hg : ¬ S g) (hi : S i) : (s.setGen g x).gens[i]? = s.gens[i]? := set_at fun e => hg (e ▸ hi)
/-- a run that never wakes the sleeping ones of S goes the same way where they can be woken -/
theorem swap {M : Model} {S : Nat → Prop} {Γ : Ctx} {p : Pos} {t : Sem PySem.Fin} {fs : List Frame} {s₂ s₂' : Shared} {e : End} (h : Runs M Γ p t fs s₂ e s₂') :
    ∀ s, Sw S s₂ s → NF S fs → NG S s₂ → ∃ s', Sw S s₂' s' ∧ Runs M Γ p t fs s e s' ∧ NG S s₂' ∧ NE S e ∧ ∀ i, S i → s'.gens[i]? = s.gens[i]? := by
  induction h with
  | done => intro s w f n; exact ⟨s, w, .done, n, trivial, fun _ _ => rfl⟩
  | raise => intro s w f n; exact ⟨s, w, .raise, n, trivial, fun _ _ => rfl⟩
  | again hq _ ih => intro s w f n; obtain ⟨s', w', r, n', ne, u⟩ := ih s w f n; exact ⟨s', w', .again hq r, n', ne, u⟩
  | rule _ ih => intro s w f n; obtain ⟨s', w', r, n', ne, u⟩ := ih s w f n; exact ⟨s', w', .rule r, n', ne, u⟩
  | «at» _ ih => intro s w f n; obtain ⟨s', w', r, n', ne, u⟩ := ih s w f n; exact ⟨s', w', .at r, n', ne, u⟩
  | load hl _ ih => intro s w f n; obtain ⟨s', w', r, n', ne, u⟩ := ih s w f n; exact ⟨s', w', .load (w.heap ▸ hl) r, n', ne, u⟩
  | update hl _ ih =>
    intro s w f n
    obtain ⟨s', w', r, n', ne, u⟩ := ih { s with heap := s.heap.update _ _ } ⟨by show _ = _; rw [w.heap], w.drawn, w.toks, w.os, w.size, w.on, w.off⟩ f n
    exact ⟨s', w', .update (w.heap ▸ hl) r, n', ne, u⟩
  | loadIfAlive _ ih => intro s w f n; obtain ⟨s', w', r, n', ne, u⟩ := ih s w f n; exact ⟨s', w', .loadIfAlive (w.heap ▸ r), n', ne, u⟩
  | point _ ih => intro s w f n; obtain ⟨s', w', r, n', ne, u⟩ := ih s w f n; exact ⟨s', w', .point r, n', ne, u⟩
  | alloc _ ih =>
    intro s w f n
    obtain ⟨s', w', r, n', ne, u⟩ := ih { s with heap := s.heap.push _ } ⟨by show _ = _; rw [w.heap], w.drawn, w.toks, w.os, w.size, w.on, w.off⟩ f n
    rw [w.heap] at r
    exact ⟨s', w', .alloc r, n', ne, u⟩
  | fresh _ ih =>
    intro s w f n
    obtain ⟨s', w', r, n', ne, u⟩ := ih { s with toks := s.toks + 1 } ⟨w.heap, w.drawn, by show _ = _; rw [w.toks], w.os, w.size, w.on, w.off⟩ f n
    rw [w.toks] at r
    exact ⟨s', w', .fresh r, n', ne, u⟩
  | ask _ ih => intro s w f n; obtain ⟨s', w', r, n', ne, u⟩ := ih s w f n; exact ⟨s', w', .ask r, n', ne, u⟩
  | choose hn _ ih =>
    intro s w f n
    obtain ⟨s', w', r, n', ne, u⟩ := ih { s with drawn := s.drawn.bump _ } ⟨w.heap, by show _ = _; rw [w.drawn], w.toks, w.os, w.size, w.on, w.off⟩ f n
    rw [w.drawn] at r
    exact ⟨s', w', .choose hn r, n', ne, u⟩
  | os _ ih =>
    intro s w f n
    obtain ⟨s', w', r, n', ne, u⟩ := ih { s with os := (Os.step s.os _).1 } ⟨w.heap, w.drawn, w.toks, by show _ = _; rw [w.os], w.size, w.on, w.off⟩ f n
    rw [w.os] at r
    exact ⟨s', w', .os r, n', ne, u⟩
  | handled _ ih => intro s w f n; obtain ⟨s', w', r, n', ne, u⟩ := ih s w f n; exact ⟨s', w', .handled r, n', ne, u⟩
  | genState hs _ ih =>
    intro s w f n
    obtain ⟨s', w', r, n', ne, u⟩ := ih s w f n
    obtain ⟨st', e1, e2⟩ := w.look hs
    rw [e2] at r
    exact ⟨s', w', .genState e1 r, n', ne, u⟩
  | stack _ ih => intro s w f n; obtain ⟨s', w', r, n', ne, u⟩ := ih s w f n; exact ⟨s', w', .stack r, n', ne, u⟩
  | thread _ ih => intro s w f n; obtain ⟨s', w', r, n', ne, u⟩ := ih s w f n; exact ⟨s', w', .thread r, n', ne, u⟩
  | newGen _ ih =>
    intro s w f n
    obtain ⟨s', w', r, n', ne, u⟩ := ih _ (w.push _) f (n.push _)
    rw [w.size] at r
    refine ⟨s', w', .newGen r, n', ne, fun i hi => (u i hi).trans ?_⟩
    obtain ⟨k, l, c', p, fs, cl, e1, e2⟩ := w.on i hi
    have h1 : i < s.gens.size := (Array.getElem?_eq_some_iff.mp e1).1
    show (s.gens.push _)[i]? = _
    rw [Array.getElem?_push, if_neg (by omega)]
  | call _ _ ih1 ih2 =>
    intro s w f n
    obtain ⟨s1, w1, r1, n1, _, u1⟩ := ih1 s w .nil n
    obtain ⟨s', w', r, n', ne, u⟩ := ih2 s1 w1 .nil n1
    exact ⟨s', w', .call r1 r, n', ne, fun i hi => (u i hi).trans (u1 i hi)⟩
  | callSusp _ ih =>
    intro s w f n
    obtain ⟨s', w', r, n', ne, u⟩ := ih s w .nil n
    exact ⟨s', w', .callSusp r, n', NF.app ne .ret, u⟩
  | yield => intro s w f n; exact ⟨s, w, .yield, n, NF.nil, fun _ _ => rfl⟩
  | resumeFresh hs _ hq _ ih1 ih2 =>
    intro s w f n
    obtain ⟨hg, e1⟩ := w.get hs (fun _ _ _ _ _ _ z => by cases z)
    obtain ⟨s1, w1, r1, n1, ne1, u1⟩ := ih1 _ (w.set hg .running) .nil (n.set fun _ _ _ _ _ _ z => by cases z)
    obtain ⟨s', w', r, n', ne, u⟩ := ih2 _ (w1.set hg _) .nil (n1.set ne1.gen)
    exact ⟨s', w', .resumeFresh e1 r1 hq r, n', ne, fun i hi => by rw [u i hi, set_atS hg hi, u1 i hi, set_atS hg hi]⟩
  | @resumeSuspended _ _ g _ _ _ _ _ _ _ _ _ _ _ _ _ _ hs hr hq _ ih1 ih2 =>
    intro s w f n
    by_cases hg : S g
    · obtain ⟨k, l, c, p, fs, cl, e1, e2⟩ := w.on g hg
      rw [hs] at e2
      cases Option.some.inj e2
      exact absurd hr no_unsup
    · have e1 := (w.off g hg).symm.trans hs
      obtain ⟨s1, w1, r1, n1, ne1, u1⟩ := ih1 _ (w.set hg .running) (n _ _ _ _ _ _ _ hg hs) (n.set fun _ _ _ _ _ _ z => by cases z)
      obtain ⟨s', w', r, n', ne, u⟩ := ih2 _ (w1.set hg _) .nil (n1.set ne1.gen)
      exact ⟨s', w', .resumeSuspended e1 r1 hq r, n', ne, fun i hi => by rw [u i hi, set_atS hg hi, u1 i hi, set_atS hg hi]⟩
  | resumeJustStarted hs hv _ ih =>
    intro s w f n
    obtain ⟨_, e1⟩ := w.get hs (fun _ _ _ _ _ _ z => by cases z)
    obtain ⟨s', w', r, n', ne, u⟩ := ih s w f n
    exact ⟨s', w', .resumeJustStarted e1 hv r, n', ne, u⟩
  | resumeThrowFresh hs _ ih =>
    intro s w f n
    obtain ⟨hg, e1⟩ := w.get hs (fun _ _ _ _ _ _ z => by cases z)
    obtain ⟨s', w', r, n', ne, u⟩ := ih _ (w.set hg .finished) f (n.set fun _ _ _ _ _ _ z => by cases z)
    exact ⟨s', w', .resumeThrowFresh e1 r, n', ne, fun i hi => by rw [u i hi, set_atS hg hi]⟩
  | resumeRunning hs _ ih =>
    intro s w f n
    obtain ⟨_, e1⟩ := w.get hs (fun _ _ _ _ _ _ z => by cases z)
    obtain ⟨s', w', r, n', ne, u⟩ := ih s w f n
    exact ⟨s', w', .resumeRunning e1 r, n', ne, u⟩
  | resumeFinished hs _ ih =>
    intro s w f n
    obtain ⟨_, e1⟩ := w.get hs (fun _ _ _ _ _ _ z => by cases z)
    obtain ⟨s', w', r, n', ne, u⟩ := ih s w f n
    exact ⟨s', w', .resumeFinished e1 r, n', ne, u⟩
  | segRet _ _ ih1 ih2 =>
    intro s w f n
    obtain ⟨s1, w1, r1, n1, _, u1⟩ := ih1 s w .nil n
    obtain ⟨s', w', r, n', ne, u⟩ := ih2 s1 w1 f.tail n1
    exact ⟨s', w', .segRet r1 r, n', ne, fun i hi => (u i hi).trans (u1 i hi)⟩
  | segGen _ _ ih1 ih2 =>
    intro s w f n
    have hg := f _ List.mem_cons_self _ _ _ _ _ rfl
    obtain ⟨s1, w1, r1, n1, _, u1⟩ := ih1 s w .nil n
    obtain ⟨s', w', r, n', ne, u⟩ := ih2 _ (w1.set hg .finished) f.tail (n1.set fun _ _ _ _ _ _ z => by cases z)
    exact ⟨s', w', .segGen r1 r, n', ne, fun i hi => by rw [u i hi, set_atS hg hi, u1 i hi]⟩
  | segSuspOut hs _ ih =>
    intro s w f n
    obtain ⟨s', w', r, n', ne, u⟩ := ih s w .nil n
    exact ⟨s', w', .segSuspOut hs r, n', NF.app ne f, u⟩
  | segSuspGen hs _ hq _ ih1 ih2 =>
    intro s w f n
    obtain ⟨q1, hg, q3⟩ := split_nf hs f
    obtain ⟨s1, w1, r1, n1, ne1, u1⟩ := ih1 s w .nil n
    obtain ⟨s', w', r, n', ne, u⟩ := ih2 _ (w1.set hg _) q3 (n1.set fun _ _ _ _ _ _ z => by cases z; exact NF.app ne1 q1)
    exact ⟨s', w', .segSuspGen hs r1 hq r, n', ne, fun i hi => by rw [u i hi, set_atS hg hi, u1 i hi]⟩
end GSw
set_option Elab.async false
set_option linter.all false
set_option maxRecDepth 100000
set_option maxHeartbeats 2000000
namespace GSw
open PySem
open Sem (wp)
variable {S : Nat → Prop}
theorem wakes_swap {M : Model} {Γ : Ctx} {p : Pos} {g : Nat} {r : Resume} {s₂ s₂' : Shared} {res : GenResult} (h : Wakes M Γ p g r s₂ res s₂') {s : Shared} (w : Sw S s₂ s) (n : NG S s₂) :
    ∃ s', Sw S s₂' s' ∧ Wakes M Γ p g r s res s' ∧ NG S s₂' ∧ ∀ i, S i → s'.gens[i]? = s.gens[i]? := by
  by_cases hg : S g
  · obtain ⟨k, l, c, p', fs, cl, e1, e2⟩ := w.on g hg
    unfold Wakes at h
    rw [e2] at h
    obtain ⟨_, _, hr, _⟩ := h
    exact absurd hr no_unsup
  · have e := w.off g hg
    unfold Wakes at h ⊢
    rw [e] at h
    cases hs : s.gens[g]? with
    | none => rw [hs] at h; exact h.elim
    | some st =>
      rw [hs] at h
      have hs2 : s₂.gens[g]? = some st := e.trans hs
      cases st with
      | fresh c =>
        cases r with
        | throw x =>
          obtain ⟨rfl, rfl⟩ := h
          exact ⟨_, w.set hg .finished, ⟨rfl, rfl⟩, n.set (fun _ _ _ _ _ _ z => by cases z), fun i hi => set_atS hg hi⟩
        | send v =>
          cases v with
          | none =>
            obtain ⟨e1, s1, hr, hq, rfl, rfl⟩ := h
            obtain ⟨s1', w1, r1, n1, ne1, u1⟩ := swap hr _ (w.set hg .running) .nil (n.set fun _ _ _ _ _ _ z => by cases z)
            exact ⟨_, w1.set hg _, ⟨e1, s1', r1, hq, rfl, rfl⟩, n1.set ne1.gen, fun i hi => by rw [set_atS hg hi, u1 i hi, set_atS hg hi]⟩
          | _ =>
            obtain ⟨rfl, rfl⟩ := h
            exact ⟨s, w, ⟨rfl, rfl⟩, n, fun _ _ => rfl⟩
      | suspended k l c p' fs cl =>
        obtain ⟨e1, s1, hr, hq, rfl, rfl⟩ := h
        obtain ⟨s1', w1, r1, n1, ne1, u1⟩ := swap hr _ (w.set hg .running) (n _ _ _ _ _ _ _ hg hs2) (n.set fun _ _ _ _ _ _ z => by cases z)
        exact ⟨_, w1.set hg _, ⟨e1, s1', r1, hq, rfl, rfl⟩, n1.set ne1.gen, fun i hi => by rw [set_atS hg hi, u1 i hi, set_atS hg hi]⟩
      | running => obtain ⟨rfl, rfl⟩ := h; exact ⟨s, w, ⟨rfl, rfl⟩, n, fun _ _ => rfl⟩
      | finished => obtain ⟨rfl, rfl⟩ := h; exact ⟨s, w, ⟨rfl, rfl⟩, n, fun _ _ => rfl⟩
/-- what is kept -/
structure Kept (S : Nat → Prop) (G0 : Nat → Option GenState) (s₂ s : Shared) : Prop where
  w : Sw S s₂ s
  n : NG S s₂
  g : ∀ i, S i → s.gens[i]? = G0 i
variable {G0 : Nat → Option GenState}
theorem Kept.heap {s₂ s : Shared} (k : Kept S G0 s₂ s) (f : Heap → Heap) : Kept S G0 { s₂ with heap := f s₂.heap } { s with heap := f s.heap } := ⟨⟨by show f s₂.heap = f s.heap; rw [k.w.heap], k.w.drawn, k.w.toks, k.w.os, k.w.size, k.w.on, k.w.off⟩, k.n, k.g⟩
theorem Kept.toks {s₂ s : Shared} (k : Kept S G0 s₂ s) : Kept S G0 { s₂ with toks := s₂.toks + 1 } { s with toks := s.toks + 1 } := ⟨⟨k.w.heap, k.w.drawn, by show s₂.toks + 1 = s.toks + 1; rw [k.w.toks], k.w.os, k.w.size, k.w.on, k.w.off⟩, k.n, k.g⟩
theorem Kept.drawn {s₂ s : Shared} (k : Kept S G0 s₂ s) (src : Source) : Kept S G0 { s₂ with drawn := s₂.drawn.bump src } { s with drawn := s.drawn.bump src } := ⟨⟨k.w.heap, by show s₂.drawn.bump src = s.drawn.bump src; rw [k.w.drawn], k.w.toks, k.w.os, k.w.size, k.w.on, k.w.off⟩, k.n, k.g⟩
theorem Kept.push {s₂ s : Shared} (k : Kept S G0 s₂ s) (c : Code) : Kept S G0 { s₂ with gens := s₂.gens.push (.fresh c) } { s with gens := s.gens.push (.fresh c) } := ⟨k.w.push c, k.n.push c, fun i hi => by
  obtain ⟨_, _, _, _, _, _, e1, _⟩ := k.w.on i hi
  have h1 : i < s.gens.size := (Array.getElem?_eq_some_iff.mp e1).1
  show (s.gens.push _)[i]? = _
  rw [Array.getElem?_push, if_neg (by omega)]
  exact k.g i hi⟩
theorem wp_swap {α : Type} (M : Model) (Γ : Ctx) (t : Sem α) : ∀ (Q : α → Pos → Shared → Prop) (E : Value → Pos → Shared → Prop) (p : Pos) (s₂ s : Shared), Kept S G0 s₂ s → wp M Γ t Q E p s₂ →
    wp M Γ t (fun a p' s' => ∃ s₂', Kept S G0 s₂' s' ∧ Q a p' s₂') (fun e p' s' => ∃ s₂', Kept S G0 s₂' s' ∧ E e p' s₂') p s := by
  induction t with
  | pure a => intro Q E p s₂ s w h; exact ⟨s₂, w, h⟩
  | raise e => intro Q E p s₂ s w h; exact ⟨s₂, w, h⟩
  | unsupported _ => intro Q E p s₂ s w h; exact h
  | finish _ => intro Q E p s₂ s w h; exact h
  | rule _ k ih => intro Q E p s₂ s w h; exact ih () Q E p s₂ s w h
  | «at» p' k ih => intro Q E p s₂ s w h; exact ih () Q E p' s₂ s w h
  | load a _ k ih => intro Q E p s₂ s w h; obtain ⟨o, ho, h⟩ := h; exact ⟨o, w.w.heap ▸ ho, ih o Q E p s₂ s w h⟩
  | update a _ f k ih => intro Q E p s₂ s w h; exact ⟨w.w.heap ▸ h.1, ih () Q E p _ _ (w.heap fun x => x.update a f) h.2⟩
  | loadIfAlive a k ih =>
    intro Q E p s₂ s w h
    have h' : wp M Γ (k (s₂.heap.get? a)) Q E p s₂ := h
    have := ih _ Q E p s₂ s w h'
    rw [w.w.heap] at this
    exact this
  | point _ k ih => intro Q E p s₂ s w h; exact ih () Q E p s₂ s w h
  | register _ _ => intro Q E p s₂ s w h; exact h
  | alloc o k ih =>
    intro Q E p s₂ s w h
    have h' : wp M Γ (k s₂.heap.objs.size) Q E p { s₂ with heap := s₂.heap.push o } := h
    have := ih _ Q E p _ _ (w.heap fun x => x.push o) h'
    rw [w.w.heap] at this
    exact this
  | fresh k ih =>
    intro Q E p s₂ s w h
    have h' : wp M Γ (k s₂.toks) Q E p { s₂ with toks := s₂.toks + 1 } := h
    have := ih _ Q E p _ _ w.toks h'
    rw [w.w.toks] at this
    exact this
  | ask k ih => intro Q E p s₂ s w h; exact ih _ Q E p s₂ s w h
  | choose src m k ih =>
    intro Q E p s₂ s w h
    have := ih _ Q E p _ _ (w.drawn src) h.2
    rw [w.w.drawn] at this
    exact ⟨h.1, this⟩
  | os q _ k ih =>
    intro Q E p s₂ s w h
    have h' : wp M Γ (k (Os.step s₂.os q).2) Q E p { s₂ with os := (Os.step s₂.os q).1 } := h
    have := ih _ Q E p { s₂ with os := (Os.step s₂.os q).1 } { s with os := (Os.step s.os q).1 } ⟨⟨w.w.heap, w.w.drawn, w.w.toks, by show (Os.step s₂.os q).1 = (Os.step s.os q).1; rw [w.w.os], w.w.size, w.w.on, w.w.off⟩, w.n, w.g⟩ h'
    rw [w.w.os] at this
    exact this
  | call c hd _ _ k ih =>
    intro Q E p s₂ s w h
    obtain ⟨r, s', hr, h⟩ := h
    obtain ⟨s1, w1, r1, n1, _, u1⟩ := swap hr s w.w .nil w.n
    exact ⟨r, s1, r1, ih r Q E p s' s1 ⟨w1, n1, fun i hi => (u1 i hi).trans (w.g i hi)⟩ h⟩
  | handled own k ih => intro Q E p s₂ s w h; exact ih _ Q E p s₂ s w h
  | genState g k ih =>
    intro Q E p s₂ s w h
    obtain ⟨st, hs, h⟩ := h
    obtain ⟨st', e1, e2⟩ := w.w.look hs
    rw [e2] at h
    exact ⟨st', e1, ih _ Q E p s₂ s w h⟩
  | newGen c k ih =>
    intro Q E p s₂ s w h
    have h' : wp M Γ (k s₂.gens.size) Q E p { s₂ with gens := s₂.gens.push (.fresh c) } := h
    have := ih _ Q E p _ _ (w.push c) h'
    rw [w.w.size] at this
    exact this
  | resume g r _ k ih =>
    intro Q E p s₂ s w h
    obtain ⟨res, s', hw, h⟩ := h
    obtain ⟨s1, w1, r1, n1, u1⟩ := wakes_swap hw w.w w.n
    exact ⟨res, s1, r1, ih res Q E p s' s1 ⟨w1, n1, fun i hi => (u1 i hi).trans (w.g i hi)⟩ h⟩
  | yield _ _ _ _ => intro Q E p s₂ s w h; exact h
  | stack k ih => intro Q E p s₂ s w h; exact ih _ Q E p s₂ s w h
  | fork _ _ => intro Q E p s₂ s w h; exact h
  | thread k ih => intro Q E p s₂ s w h; exact ih _ Q E p s₂ s w h
  | await _ _ _ _ _ => intro Q E p s₂ s w h; exact h
/-- a promise, used where generators sleep -/
theorem wpAny_swap {α : Type} {M : Model} {A : Around} {t : Sem α} {Q : α → Shared → Prop} {E : Value → Shared → Prop} {s₂ s : Shared} (w : Kept S G0 s₂ s) (h : wpAny M A t Q E s₂) :
    wpAny M A t (fun a s' => ∃ s₂', Kept S G0 s₂' s' ∧ Q a s₂') (fun e s' => ∃ s₂', Kept S G0 s₂' s' ∧ E e s₂') s := fun Γ p hΓ => wp_swap M Γ t _ _ p s₂ s w (h Γ p hΓ)
/-- the sleeping ones of a state -/
def Sleeps (s : Shared) (i : Nat) : Prop := ∃ k l c p fs cl, s.gens[i]? = some (.suspended k l c p fs cl)
def lull (s : Shared) : Shared := { s with gens := s.gens.map stuckG }
theorem lull_kept (s : Shared) : Kept (Sleeps s) (fun i => s.gens[i]?) (lull s) s := by
  refine ⟨⟨rfl, rfl, rfl, rfl, by simp [lull], fun i ⟨k, l, c, p, fs, cl, e⟩ => ⟨k, l, c, p, fs, cl, e, ?_⟩, fun i hi => ?_⟩, fun i k l c p fs cl hi e => ?_, fun _ _ => rfl⟩
  · show (s.gens.map stuckG)[i]? = _
    rw [Array.getElem?_map, e]
    rfl
  · show (s.gens.map stuckG)[i]? = _
    rw [Array.getElem?_map]
    cases e : s.gens[i]? with
    | none => rfl
    | some x =>
      cases x with
      | suspended k l c p fs cl => exact absurd ⟨k, l, c, p, fs, cl, e⟩ hi
      | _ => rfl
  · have e : (s.gens.map stuckG)[i]? = some (.suspended k l c p fs cl) := e
    rw [Array.getElem?_map] at e
    cases e2 : s.gens[i]? with
    | none => rw [e2] at e; cases e
    | some x =>
      cases x with
      | suspended k l c p fs cl => exact absurd ⟨k, l, c, p, fs, cl, e2⟩ hi
      | fresh c => rw [e2] at e; cases e
      | running => rw [e2] at e; cases e
      | finished => rw [e2] at e; cases e
end GSw
set_option Elab.async false
set_option linter.all false
set_option maxRecDepth 100000
set_option maxHeartbeats 2000000
namespace GSw
open PySem PySem.Spec PyProof.Rows L2
theorem bare_lull {s : Shared} (h : AllBare s.gens) : AllBare (lull s).gens := fun y hy => by
  obtain ⟨x, hx, rfl⟩ := Array.mem_map.mp (show y ∈ s.gens.map stuckG from hy)
  rw [bare_stuck]
  exact h x hx
theorem inv_lull {X : Cx} {pins : List (Addr × Obj)} {σ : L2.St} {H : Hp} {s : Shared} (I : Inv X pins σ H s) : Inv X pins σ H (lull s) :=
  ⟨I.ok, I.os, bare_lull I.bare, I.base, I.loc, I.cell, I.free, I.freeC, I.pin, I.hok, I.len⟩
theorem bare_back {S : Nat → Prop} {G0 : Nat → Option GenState} {s₂ s : Shared} (h : AllBare s₂.gens) (k : Kept S G0 s₂ s) (hb : ∀ i, S i → ∀ y, G0 i = some y → y.bare = true) : AllBare s.gens := fun y hy => by
  obtain ⟨i, hi, e⟩ := Array.getElem_of_mem hy
  have e1 : s.gens[i]? = some y := by rw [Array.getElem?_eq_getElem hi, e]
  by_cases hs : S i
  · exact hb i hs y (by rw [← k.g i hs]; exact e1)
  · have e2 := (k.w.off i hs).trans e1
    exact h y (Array.mem_of_getElem? e2)
theorem inv_back {S : Nat → Prop} {G0 : Nat → Option GenState} {X : Cx} {pins : List (Addr × Obj)} {σ : L2.St} {H : Hp} {s₂ s : Shared} (I : Inv X pins σ H s₂) (k : Kept S G0 s₂ s) (hb : ∀ i, S i → ∀ y, G0 i = some y → y.bare = true) : Inv X pins σ H s := by
  have e := k.w.heap
  exact ⟨I.ok, k.w.os ▸ I.os, bare_back I.bare k hb, e ▸ I.base, e ▸ I.loc, e ▸ I.cell, I.free, I.freeC, e ▸ I.pin, e ▸ I.hok, I.len⟩
theorem bare_of {s : Shared} (h : AllBare s.gens) : ∀ i, Sleeps s i → ∀ y, s.gens[i]? = some y → y.bare = true := fun i _ y e => h y (Array.mem_of_getElem? e)
/-- an expression's promise tells that sleeping generators stay -/
theorem pe_keeps {X : Cx} {e : Expr} {te : TE} (h : PE X e te) {pins : List (Addr × Obj)} {s : Shared} {σ : L2.St} {H : Hp} {Q : VK} (I : Inv X pins σ H s) (q : te σ H Q) :
    wpAny (model X.prog X.w) X.A (eval e X.env) (fun u s' => (∃ x H', Inv X pins σ H' s' ∧ RelV x u ∧ Q x H') ∧ ∀ i, Sleeps s i → s'.gens[i]? = s.gens[i]?) (fun u s' => ∃ s₂', Kept (Sleeps s) (fun i => s.gens[i]?) s₂' s' ∧ X.xe u s₂') s := by
  refine wpAny_mono (wpAny_swap (lull_kept s) (h.run pins (lull s) σ H Q (inv_lull I) q)) (fun u s' ⟨s₂, k, x, H', I2, r, q2⟩ => ⟨⟨x, H', inv_back I2 k (bare_of I.bare), r, q2⟩, k.g⟩) fun _ _ z => z
end GSw
set_option Elab.async false
set_option linter.all false
set_option maxRecDepth 100000
set_option maxHeartbeats 2000000
namespace GSw
open PySem PySem.Spec PyProof.Rows L2 GenW
/-! a generator def whose body is: for x in self.f: yield x -/
/-- an item comes out; it may be woken wherever its loop still stands -/
def walkP (L : Addr) (wr : List Addr) (n₀ : Nat) (Pv : Nat → Value → Prop) (St : Nat → Heap → Prop) : Protocol := fun m s₀ v s kap =>
  m < n₀ ∧ Pv (n₀ - 1 - m) v ∧ GenSince L wr s₀ s ∧ St (n₀ - m) s.heap ∧ (∃ mm, s.heap.Ns L mm) ∧
    ∀ (b : Bool) (s2 : Shared), St (n₀ - m) s2.heap → (∃ mm, s2.heap.Ns L mm) → kap (.send (if b = true then .bool true else .none)) s2
def walkE (L : Addr) (wr : List Addr) : GenEnd := fun n s₀ r s₁ => ((r = .ok (.ret .none) ∨ r = .ok .next) ∧ (n = 0 ∧ GenSince L wr s₀ s₁)) ∨ ∃ e, r = .error e ∧ False
section
variable {P : Program} {w : World} {A : Around} {env : Env} {x : Str} {px p4 p5 p6 : Pos} {I : Addr} {fp wr : List Addr} {n₀ : Nat} {Pv : Nat → Value → Prop} {St : Nat → Heap → Prop} {fs : List Frame} {R : GenEnd}
theorem seg_forY (hh : ∀ c, (A.over c fs).handled = none) (W : ∀ A' : Around, A'.handled = none → Walks P w A' I fp wr n₀ Pv St) (hk : env.scope.kind = .function) (hx : env.kindOf x = some .local)
    (hco : env.scope.isCoroutine = false) (hi : interactive env = false) (hdb : (x == ("__debug__" : Str)) = false) (hCf : env.locals ∉ fp) (hsp : splitAtGen fs = none) (hgd : fs.any Frame.guarded = false)
    (hend : ∀ c s₀ s, GenSince env.locals wr s₀ s → Seg (model P w) A R (walkP env.locals wr n₀ Pv St) 0 s₀ c (.pure (.done .next)) fs s) :
    ∀ (k i : Nat) (s₀ s : Shared) (m : Str → Option Value), n₀ - i = k → i ≤ n₀ → St i s.heap → s.heap.Ns env.locals m → GenSince env.locals wr s₀ s →
      Seg (model P w) A R (walkP env.locals wr n₀ Pv St) k s₀ (.forLoop (.Name x px) (.ref I) [.Expr (.Yield (some (.Name x p4)) p5) p6] [] env)
        ((model P w).den (.forLoop (.Name x px) (.ref I) [.Expr (.Yield (some (.Name x p4)) p5) p6] [] env)) fs s := by
  have hp : (env.scope.kind == .class || (env.scope.kind == .module && env.locals != env.globals)) = false := by rw [hk]; rfl
  intro k
  induction k with
  | zero =>
    intro i s₀ s m e1 e2 st hn hs
    obtain rfl : i = n₀ := by omega
    show Seg _ A _ _ _ s₀ _ ((forTurn (.Name x px) (.ref I) [.Expr (.Yield (some (.Name x p4)) p5) p6] [] env).onRaise (fun x => do noteFrame x env; theTreesLotGoes x)) fs s
    unfold forTurn
    rw [Sem.onRaise_eq_wrap]
    refine seg_bind_wrap (wpAny_standAt ?_)
    refine seg_bind_wrap (wpAny_onRaise ((W _ (hh _)).done s _ _ st fun h' tk hk' => ?_))
    refine seg_again rfl ?_
    show Seg _ A _ _ 0 s₀ (.block [] env) _ fs _
    exact hend _ s₀ _ (hs.step fun b o _ hw e => hk' b o hw e)
  | succ k ih =>
    intro i s₀ s m e1 e2 st hn hs
    have hlt : i < n₀ := by omega
    have hCw : env.locals ∉ wr := fun h => hCf ((W _ (hh (.block [] env))).sub _ h)
    show Seg _ A _ _ _ s₀ _ ((forTurn (.Name x px) (.ref I) [.Expr (.Yield (some (.Name x p4)) p5) p6] [] env).onRaise (fun x => do noteFrame x env; theTreesLotGoes x)) fs s
    unfold forTurn
    rw [Sem.onRaise_eq_wrap]
    refine seg_bind_wrap (wpAny_standAt ?_)
    refine seg_bind_wrap (wpAny_onRaise ((W _ (hh _)).item i s _ _ hlt st fun v h1 tk1 hv st1 k1 => ?_))
    refine seg_bind_wrap (wpAny_of_eq (rfl : letOwnedTupleGo (.Name x px) (.ref I) v = pure ()) ?_)
    refine seg_bind_wrap (wpAny_assign_Name (wpAny_storeName_local hx (hn.at' fun o e => k1 _ o hCw e) (fun h2 n2 s2 => ?_) hp))
    have st2 : St (i + 1) h2 := (W _ (hh (.block [] env))).frame _ _ _ st1 fun b hb o e => s2.extBut b o (fun h => hCf (h ▸ hb)) e
    have hs2 := hs.step (tk := tk1 + 1) (h' := h2) fun b o hC hw e => s2.extBut b o hC (k1 b o hw e)
    rw [Sem.bind_eq_wrap', Sem.wrap_wrap]
    refine seg_execs_cons (seg_Expr_Yield hsp rfl hgd (wpAny_Name (wpAny_loadName_local hk hx n2 (v := v) (by simp) ?_) hdb) hco hi)
    intro kap hkap
    have em : n₀ - 1 - k = i := by omega
    have em2 : n₀ - k = i + 1 := by omega
    refine ⟨by omega, by rw [em]; exact hv, hs2, by rw [em2]; exact st2, ⟨_, n2⟩, fun b s3 h3 h4 => ?_⟩
    rw [em2] at h3
    obtain ⟨mm, h4⟩ := h4
    have goal := ih (i + 1) s3 s3 mm (by omega) hlt h3 h4 (GenSince.refl _ _ _)
    cases b with
    | true => exact hkap _ _ (seg_again rfl goal)
    | false => exact hkap _ _ (seg_again rfl goal)
end
end GSw
set_option Elab.async false
set_option linter.all false
set_option maxRecDepth 100000
set_option maxHeartbeats 2000000
namespace GSw
open PySem PySem.Spec PyProof.Rows L2 GenW
section
variable {P : Program} {w : World} {A : Around} {env : Env} {x sx fx : Str} {px p2 p3 p4 p5 p6 p7 : Pos} {oa lst : Addr} {items : Array Value} {m : Str → Option Value} {s : Shared}
/-- its text -/
def walkB (x sx fx : Str) (px p2 p3 p4 p5 p6 p7 : Pos) : List Stmt := [.For (.Name x px) (.Attribute (.Name sx p2) fx p3) [.Expr (.Yield (some (.Name x p4)) p5) p6] [] p7]
/-- where the list's iterator stands -/
def walkS (I lst : Addr) (items : Array Value) : Nat → Heap → Prop := fun i h => h.IsListIter I lst i ∧ h.IsList lst items
/-- woken for the first time -/
theorem seg_walk0 (hh : A.handled = none) (hk : env.scope.kind = .function) (hx : env.kindOf x = some .local) (hsx : env.kindOf sx = some .local) (hco : env.scope.isCoroutine = false) (hi : interactive env = false)
    (hdb : (x == ("__debug__" : Str)) = false) (hdb2 : (sx == ("__debug__" : Str)) = false) (hb : attributeBase (.Name sx p2) fx env (eval (.Name sx p2) env) = eval (.Name sx p2) env)
    (hn : s.heap.Ns env.locals m) (hm : m sx = some (.ref oa)) (hl : s.heap.IsList lst items) (hL : env.locals ≠ lst)
    (hget : ∀ (A' : Around) (Q : Value → Shared → Prop) (E : Value → Shared → Prop), (∀ t, Q (.ref lst) { s with toks := t }) → wpAny (model P w) A' (getAttr (.ref oa) fx true) Q E s) :
    Seg (model P w) A (walkE env.locals [s.heap.objs.size]) (walkP env.locals [s.heap.objs.size] items.size (fun i v => items[i]? = some v) (walkS s.heap.objs.size lst items)) items.size s
      (.func (walkB x sx fx px p2 p3 p4 p5 p6 p7) env) ((model P w).den (.func (walkB x sx fx px p2 p3 p4 p5 p6 p7) env)) [] s := by
  have hLI : env.locals ≠ s.heap.objs.size := Nat.ne_of_lt hn.lt
  have hlt : lst < s.heap.objs.size := let ⟨_, ho, _⟩ := hl; Heap.lt_size ho
  have hlI : lst ≠ s.heap.objs.size := Nat.ne_of_lt hlt
  refine seg_func (seg_execs_cons ?_)
  rw [exec_For]
  refine seg_bind_wrap (wpAny_standAt ?_)
  refine seg_bind_wrap (attr_of hb (wpAny_Name (wpAny_loadName_local hk hsx hn hm (hget _ _ _ fun t => ?_)) hdb2))
  refine seg_bind_wrap (wpAny_pure ?_)
  refine seg_bind_wrap (wpAny_standAt ?_)
  refine seg_bind_wrap (wpAny_holding (wpAny_pyIter_list (s := { s with toks := t }) hl ?_))
  refine seg_call (c' := .forLoop (.Name x px) (.ref s.heap.objs.size) [.Expr (.Yield (some (.Name x p4)) p5) p6] [] env) fun p => ?_
  have kp : ∀ b o, s.heap.get? b = some o → (s.heap.push { cls := .type "list_iterator", data := .fields #[.ref lst, .int 0 0] }).get? b = some o := fun b o e => Heap.get?_push_of_some _ e
  refine seg_forY (fp := [s.heap.objs.size, lst]) (by exact fun c => hh) (fun A' h' => Walks.list h' s.heap.objs.size lst hlI items) hk hx hco hi hdb ?_ rfl rfl (fun c s₀ s' hs => ?_) items.size 0 s _ m (Nat.sub_zero _) (Nat.zero_le _) ⟨⟨_, Heap.get?_push_size _ rfl, rfl, rfl⟩, hl.at fun o e => kp _ o e⟩ (hn.keeps kp) ((GenSince.refl _ _ _).step fun b o _ _ e => kp b o e)
  · intro z
    simp only [List.mem_cons, List.not_mem_nil, or_false] at z
    rcases z with z | z
    · exact hLI z
    · exact hL z
  · exact seg_leaf (.ok .next) (seg_end (.ok (.ret .none)) (.inl ⟨.inl rfl, rfl, hs⟩))
end
end GSw
set_option Elab.async false
set_option linter.all false
set_option maxRecDepth 100000
set_option maxHeartbeats 2000000
namespace GSw
open PySem PySem.Spec PyProof.Rows L2 GenW
/-- what an exception in the air tells does not look at generators -/
def XeSw (X : Cx) : Prop := ∀ (S : Nat → Prop) (G0 : Nat → Option GenState) (u : Value) (s₂ s : Shared), Kept S G0 s₂ s → (∀ i, S i → ∀ y, G0 i = some y → y.bare = true) → X.xe u s₂ → X.xe u s
theorem xe_cx {P : Program} {w : World} {K : PySem.W.Frag} {mg : Str → Option Value} {base : Heap} {N : List Str} {qual : Str} {scope : Scope} {f : Addr} {cd : Value} {A : Around} {outer : List Env} {s : Shared} {H : Hp} {E : XK} :
    XeSw (cxOf (L2.CX P w) P w K mg base N qual scope f cd A outer s H E) := fun S G0 u s₂ s' k hb h => by
  have go : ∀ (v : Value) (t2 t : Shared), Kept S G0 t2 t → L2.CX P w outer H s E v t2 → L2.CX P w outer H s E v t := fun v t2 t k2 hc => by
    obtain ⟨a, B, H', cls, d, z1, fl, z2, ub, z3, z4, z5, z6⟩ := hc
    have e := k2.w.heap
    exact ⟨a, B, H', cls, d, z1, e ▸ fl, z2, e ▸ ub, z3, k2.w.os ▸ z4, bare_back z5 k2 hb, z6⟩
  exact wpAny_mono (wpAny_swap k h) (fun _ t ⟨t2, k2, hc⟩ => go _ t2 t k2 hc) fun _ t ⟨t2, k2, hc⟩ => go _ t2 t k2 hc
/-- by turns, with a look at the whole state -/
structure TurnS (X : Cx) (tg : Expr) (J : It) (it : Addr) (tn : Nat → List Addr → Shared → Prop) : Prop where
  obj : ∀ i fp s, tn i fp s → ∀ b ∈ fp, ∃ o, s.heap.get? b = some o ∧ ∀ v, o.data ≠ .cell v
  keep : ∀ i fp s s', tn (i + 1) fp s → (∀ b ∈ fp, ∀ o, s.heap.get? b = some o → s'.heap.get? b = some o) → (∀ g, Sleeps s g → s'.gens[g]? = s.gens[g]?) → tn (i + 1) fp s'
  item : ∀ (i : Nat) (fp : List Addr) (pins : List (Addr × Obj)) (s : Shared) (σ : L2.St) (H : Hp) (E : Value → Shared → Prop), Inv X pins σ H s → (∀ b ∈ fp, FpOk X pins H b) → tn i fp s → J.go i H →
    wpAny (model X.prog X.w) X.A (pyNext (.ref it)) (fun r s1 => ∃ u, r = some u ∧
      wpAny (model X.prog X.w) X.A (letOwnedTupleGo tg (.ref it) u) (fun _ s2 => ∃ x H' fp', Inv X pins σ H' s2 ∧ RelV x u ∧ J.yld i H x H' ∧ tn (i + 1) fp' s2 ∧ ∀ b ∈ fp', FpOk X pins H' b) E s1) E s
  done : ∀ (i : Nat) (fp : List Addr) (pins : List (Addr × Obj)) (s : Shared) (σ : L2.St) (H : Hp) (E : Value → Shared → Prop), Inv X pins σ H s → (∀ b ∈ fp, FpOk X pins H b) → tn i fp s → J.stop i H →
    wpAny (model X.prog X.w) X.A (pyNext (.ref it)) (fun r s1 => r = none ∧ Inv X pins σ H s1) E s
def PIES (X : Cx) (pins : List (Addr × Obj)) (σ : L2.St) (tg : Expr) (R : It → Hp → Prop) (itv : Value) (s2 : Shared) : Prop :=
  ∃ (it : Addr) (fp : List Addr) (tn : Nat → List Addr → Shared → Prop) (J : It) (H' : Hp), itv = .ref it ∧ Inv X pins σ H' s2 ∧ TurnS X tg J it tn ∧ tn 0 fp s2 ∧ (∀ b ∈ fp, FpOk X pins H' b) ∧ R J H'
structure PIS (X : Cx) (tg iter : Expr) (wi : TI) : Prop where
  run : ∀ (pins : List (Addr × Obj)) (s : Shared) (σ : L2.St) (H : Hp) (R : It → Hp → Prop), Inv X pins σ H s → wi σ H R →
    wpAny (model X.prog X.w) X.A (eval iter X.env) (fun v s1 => wpAny (model X.prog X.w) X.A (pyIter v) (PIES X pins σ tg R) X.xe s1) X.xe s
section
variable {X : Cx} {tg iter : Expr} {body : List Stmt} {wi : TI} {g : TG} {tb : TS} {pos : Pos}
theorem keeps {α : Type} {t : Sem α} {Q : α → Shared → Prop} {s : Shared} (hx : XeSw X) (hb : AllBare s.gens) (h : wpAny (model X.prog X.w) X.A t Q X.xe (lull s)) :
    wpAny (model X.prog X.w) X.A t (fun a s' => ∃ s₂, Kept (Sleeps s) (fun i => s.gens[i]?) s₂ s' ∧ Q a s₂) X.xe s :=
  wpAny_mono (wpAny_swap (lull_kept s) h) (fun _ _ z => z) fun u s' ⟨s₂, k, z⟩ => hx _ _ u s₂ s' k (bare_of hb) z
/-- a for over what has sleeping generators -/
theorem ps_forS (hxs : XeSw X) (hp : PassesOwn (model X.prog X.w) X.A X.env X.xe) (hi : PIS X tg iter wi) (hg : PG X tg g) (hb : PSs X body tb) (hs : ∀ x, foldedSetIterable iter X.env x = pure x := by intro _; rfl) :
    PS X (.For tg iter body [] pos) (tFor wi g tb) := by
  refine ⟨fun pins s σ H D I h => ?_⟩
  refine wpAny_For (thn (hi.run pins s σ H _ I h) fun v s1 h1 => thn h1 fun itv s2 h2 => ?_) hs
  obtain ⟨it, fp0, tn, J, H2, e, I2, T, st2, f2, W, ⟨m0, w0⟩, turn⟩ := h2
  subst e
  refine codeAny_forLoop_any (fun n t => ∃ i fp σ' H', Inv X pins σ' H' t ∧ tn i fp t ∧ (∀ b ∈ fp, FpOk X pins H' b) ∧ W i n σ' H') ?_ m0 ⟨0, fp0, σ, H2, I2, st2, f2, w0⟩
  rintro n s3 ⟨i, fp, σ3, H3, I3, st3, f3, w3⟩
  rcases turn i n σ3 H3 w3 with ⟨stop, qn⟩ | ⟨go, N, hN, step⟩
  · refine wpAny_passesOwn hp (thn (T.done i fp pins s3 σ3 H3 X.xe I3 f3 st3 stop) ?_)
    rintro r s4 ⟨rfl, I4⟩
    exact wpAny_execs_nil ⟨σ3, H3, I4, qn⟩
  · refine wpAny_passesOwn hp (thn (T.item i fp pins s3 σ3 H3 X.xe I3 f3 st3 go) ?_)
    rintro r s4 ⟨u, rfl, h4⟩
    refine wpAny_passesOwn hp (thn h4 fun _ s5 ⟨y, H5, fp5, I5, r5, y5, st5, f5⟩ => ?_)
    have J5 := inv_lull (I5.pinned f5 (T.obj _ _ _ st5))
    refine wpAny_passesOwn hp (thn (keeps hxs I5.bare (hg.run _ (lull s5) σ3 H5 y u _ J5 r5 (step y H5 y5))) ?_)
    rintro _ s6 ⟨t6, k6, σ6, H6, I6, q6⟩
    refine wpAny_passesOwn hp (thn (wpAny_mono (wpAny_swap k6 (hb.run _ t6 σ6 H6 _ I6 q6)) (fun _ _ z => z) fun x s' ⟨s'', k, z⟩ => hxs _ _ x s'' s' k (bare_of I5.bare) z) ?_)
    rintro fl s7 ⟨t7, k7, q7⟩
    have back : ∀ {σ7 : L2.St} {H7 : Hp}, Inv X (pins ++ pinsAt fp5 (lull s5).heap) σ7 H7 t7 → Inv X (pins ++ pinsAt fp5 s5.heap) σ7 H7 s7 := fun z => inv_back z k7 (bare_of I5.bare)
    have again : ∀ {σ7 : L2.St} {H7 : Hp}, Inv X (pins ++ pinsAt fp5 (lull s5).heap) σ7 H7 t7 → N σ7 H7 → ∃ m, m < n ∧ ∃ i fp σ' H', Inv X pins σ' H' s7 ∧ tn i fp s7 ∧ (∀ b ∈ fp, FpOk X pins H' b) ∧ W i m σ' H' := fun {σ7 H7} z n7 => by
      have I7 := back z
      obtain ⟨m', hm, w7⟩ := hN σ7 H7 n7
      refine ⟨m', hm, i + 1, fp5, σ7, H7, I7.unpinned, T.keep _ _ _ _ st5 (fun b hb o e => (I7.pin (b, o) (List.mem_append_right _ (List.mem_append_right _ (mem_pinsAt hb e)))).1) k7.g, fun b hb => ⟨?_, (f5 b hb).2⟩, w7⟩
      obtain ⟨o, e, d⟩ := T.obj _ _ _ st5 b hb
      exact (I7.pin (b, o) (List.mem_append_right _ (List.mem_append_right _ (mem_pinsAt hb e)))).2.1
    cases fl with
    | next => obtain ⟨σ7, H7, I7, n7⟩ := q7; exact again I7 n7
    | cont => obtain ⟨σ7, H7, I7, n7⟩ := q7; exact again I7 n7
    | brk => obtain ⟨σ7, H7, I7, q7⟩ := q7; exact ⟨σ7, H7, (back I7).unpinned, q7⟩
    | ret v => obtain ⟨x7, σ7, H7, I7, r7, q7⟩ := q7; exact ⟨x7, σ7, H7, (back I7).unpinned, r7, q7⟩
end
end GSw
set_option Elab.async false
set_option linter.all false
set_option maxRecDepth 100000
set_option maxHeartbeats 2000000
namespace GSw
open PySem PySem.Spec PyProof.Rows L2 GenW
theorem vals_refs : ∀ {bs : List Addr} {its : List Value}, Vals (bs.map V.ref) its → its = bs.map Value.ref
  | [], _, .nil => rfl
  | b :: bs, _, .cons h r => by
    cases (show _ = Value.ref b from h)
    rw [vals_refs r]
    rfl
/-- all but these stays, and the generators may change -/
theorem inv_woke {X : Cx} {pins : List (Addr × Obj)} {σ : L2.St} {H : Hp} {s s' : Shared} {ch : List Addr} (I : Inv X pins σ H s) (ho : s'.os = s.os) (k : ∀ b o, b ∉ ch → s.heap.get? b = some o → s'.heap.get? b = some o) (hf : ∀ b ∈ ch, FpOk X pins H b) (hb : AllBare s'.gens) : Inv X pins σ H s' := by
  have nt : ∀ b u, H b = some u → b ∉ ch := fun b u q z => by have e := (hf b z).1; rw [q] at e; cases e
  refine I.call' (ch := ch) ho ⟨fun b o e _ _ hx => k b o hx e, fun b o e _ _ hx => ⟨o.slots, k b o hx e⟩, fun _ _ _ n _ => n, fun b o e hx => ⟨o, k b o hx e⟩, fun _ _ q => q, fun _ _ _ q => q, fun b ps q => ⟨#[], by rw [q]; simp⟩⟩ (fun b u q => ?_) hb fun b z => ?_
  · refine (I.hok b u q).stay (fun c v hc y => k c v ?_ y) (fun _ y => y) fun _ _ y => y
    rcases hc with e | e
    · rw [e]; exact nt b u q
    · exact nt c _ e
  · obtain ⟨_, f1, _, f3, f4, f5⟩ := hf b z
    exact ⟨f3, f1, f4, f5⟩
/-- the list at lst, the field of the object at oa, as they are -/
def Itw (oa C dx : Addr) (fs : List (Str × V)) (lst : Addr) (vs : List V) : It :=
  ⟨fun i H => H oa = some (.ins C dx fs) ∧ H lst = some (.lst vs) ∧ i < vs.length, fun i H x H' => H' = H ∧ vs[i]? = some x, fun i H => H oa = some (.ins C dx fs) ∧ H lst = some (.lst vs) ∧ i = vs.length⟩
def walkG (P : Program) (w : World) (A : Around) (L I lst : Addr) (items : Array Value) (gs : GenState) (i : Nat) (s : Shared) : Prop :=
  gs.Goes (model P w) A (walkE L [I]) (walkP L [I] items.size (fun i v => items[i]? = some v) (walkS I lst items)) (items.size - i) (.send .none) s
def walkT (P : Program) (w : World) (A : Around) (env : Env) (body : List Stmt) (sx : Str) (oa a g lst : Nat) (items : Array Value) : Nat → List Addr → Shared → Prop := fun i fp s =>
  s.heap.IsGen a g ∧ a ≠ env.locals ∧ ∃ gs, s.gens[g]? = some gs ∧
    ((i = 0 ∧ fp = [a, env.locals] ∧ gs = .fresh (.func body env) ∧ ∃ m, s.heap.Ns env.locals m ∧ m sx = some (.ref oa)) ∨
     (0 < i ∧ ∃ I, fp = [a, env.locals, I] ∧ a ≠ I ∧ (∃ k l c p fs cl, gs = .suspended k l c p fs cl) ∧ s.heap.IsListIter I lst i ∧ (∃ m, s.heap.Ns env.locals m) ∧
       ∀ s2 : Shared, walkS I lst items i s2.heap → (∃ m, s2.heap.Ns env.locals m) → walkG P w A env.locals I lst items gs i s2))
section
variable {X : Cx} {env : Env} {x sx fx : Str} {px p2 p3 p4 p5 p6 p7 : Pos} {oa a lst C dx : Addr} {g : Nat} {bs : List Addr} {tg : Expr} {fs : List (Str × V)}
/-- the next turn of it, whatever comes -/
theorem walk_next (hc : X.calm = true) (hr : X.A.depth < recursionLimit) (hk : env.scope.kind = .function) (hx : env.kindOf x = some .local) (hsx : env.kindOf sx = some .local) (hco : env.scope.isCoroutine = false) (hi : interactive env = false)
    (hdb : (x == ("__debug__" : Str)) = false) (hdb2 : (sx == ("__debug__" : Str)) = false) (cC : Cls X.K C) (na : NoAttr X.K C fx) (hfx : fs.lookup fx = some (.ref lst))
    {i : Nat} {fp : List Addr} {pins : List (Addr × Obj)} {s : Shared} {σ : L2.St} {H : Hp} {E : Value → Shared → Prop} {Q : Option Value → Shared → Prop} (I : Inv X pins σ H s) (f : ∀ b ∈ fp, FpOk X pins H b)
    (t : walkT X.prog X.w X.A.in1 env (walkB x sx fx px p2 p3 p4 p5 p6 p7) sx oa a g lst (bs.map Value.ref).toArray i fp s) (ho : H oa = some (.ins C dx fs)) (hl : H lst = some (.lst (bs.map V.ref))) (hin : i ≤ bs.length)
    (h1 : ∀ (b : Addr) (s1 : Shared) (fp' : List Addr), i < bs.length → bs[i]? = some b → Inv X pins σ H s1 → walkT X.prog X.w X.A.in1 env (walkB x sx fx px p2 p3 p4 p5 p6 p7) sx oa a g lst (bs.map Value.ref).toArray (i + 1) fp' s1 → (∀ b ∈ fp', FpOk X pins H b) → Q (some (.ref b)) s1)
    (h2 : ∀ s1, i = bs.length → Inv X pins σ H s1 → Q none s1) : wpAny (model X.prog X.w) X.A (pyNext (.ref a)) Q E s := by
  obtain ⟨hgen, haL, gs, hgs, alt⟩ := t
  obtain ⟨its, rv, pl, hz⟩ := I.list (SqL.of hl)
  have eits := vals_refs rv
  subst eits
  have isl := pl.isList
  have hsz : (bs.map Value.ref).toArray.size = bs.length := by simp
  have hglt : g < s.gens.size := (Array.getElem?_eq_some_iff.mp hgs).1
  obtain ⟨J, hJ, hJa, hJL, hfJ, hgoes⟩ : ∃ J : Addr, (∀ b ∈ [env.locals, J], FpOk X pins H b) ∧ a ≠ J ∧ env.locals ≠ J ∧ (∀ b ∈ [a, env.locals, J], FpOk X pins H b) ∧ walkG X.prog X.w X.A.in1 env.locals J lst (bs.map Value.ref).toArray gs i (s.setGen g .running) := by
    rcases alt with ⟨rfl, rfl, rfl, m, hn, hm⟩ | ⟨h0, J, rfl, haJ, _, hit, hn, cl⟩
    · refine ⟨s.heap.objs.size, ?_, ?_, ?_, ?_, ?_⟩
      · intro b hb
        simp only [List.mem_cons, List.not_mem_nil, or_false] at hb
        rcases hb with rfl | rfl
        · exact f _ (by simp)
        · exact I.fpOk (Nat.le_refl _) (I.hok.fresh (Nat.le_refl _))
      · obtain ⟨o, _, _, e, _⟩ := hgen
        exact Nat.ne_of_lt (Heap.lt_size e)
      · exact Nat.ne_of_lt hn.lt
      · intro b hb
        simp only [List.mem_cons, List.not_mem_nil, or_false] at hb
        rcases hb with rfl | rfl | rfl
        · exact f _ (by simp)
        · exact f _ (by simp)
        · exact I.fpOk (Nat.le_refl _) (I.hok.fresh (Nat.le_refl _))
      · refine ⟨rfl, ?_⟩
        obtain ⟨mA, O, r, _, _, _⟩ := ins_get I.hok ho
        obtain ⟨u, hu, ru⟩ := RelO.some_of (v := .ref lst) (o := mA fx) (by rw [← hfx]; exact r fx)
        obtain rfl : u = Value.ref lst := ru
        have hLl : env.locals ≠ lst := fun z => by
          have e := (f env.locals (by simp)).1
          rw [z, hl] at e
          cases e
        exact seg_walk0 (s := s.setGen g .running) (I.ok.hd hc) hk hx hsx hco hi hdb hdb2 rfl hn hm isl hLl fun A' Q' E' hQ => get_map (s := s.setGen g .running) I.kIn O (cC.get fx) cC.hd na hu (handed_of (v := .ref lst) rfl) (hQ _)
    · refine ⟨J, fun b hb => f b (List.mem_cons_of_mem _ hb), haJ, ?_, f, cl _ ⟨hit, isl⟩ hn⟩
      rintro rfl
      obtain ⟨_, o1, es, ep, e4, e5, _⟩ := hn
      obtain ⟨o2, e2, _, e3⟩ := hit
      rw [e4] at e2
      cases e2
      rw [e5] at e3
      cases e3
  have hkeep : ∀ {h' : Heap}, (∀ b o, b ≠ env.locals → b ∉ [J] → s.heap.get? b = some o → h'.get? b = some o) → ∀ b o, b ∉ [env.locals, J] → s.heap.get? b = some o → h'.get? b = some o := fun {h'} k b o hb e => by
    simp only [List.mem_cons, List.not_mem_nil, or_false, not_or] at hb
    exact k b o hb.1 (by simpa using hb.2) e
  refine next_genG (F := fun n s₀ s₁ => n = 0 ∧ GenSince env.locals [J] s₀ s₁) (Er := fun _ _ => False) (I.ok.hd hc) I.nolimit hr hgen hgs hgoes (fun v s1 gs' hb hv => ?_) (fun s1 hp h' hk' => ?_) fun _ _ z => z.elim
  · obtain ⟨hm, hpv, ⟨h', tk, rfl, hk'⟩, st, ns, wk⟩ := hv
    by_cases hlt : i < bs.length
    · obtain ⟨m, em⟩ : ∃ m, (bs.map Value.ref).toArray.size - i = m + 1 := ⟨bs.length - i - 1, by rw [hsz]; omega⟩
      rw [em] at hpv st wk
      have e1 : (bs.map Value.ref).toArray.size - 1 - (m + 1 - 1) = i := by omega
      have e2 : (bs.map Value.ref).toArray.size - (m + 1 - 1) = i + 1 := by omega
      rw [e1] at hpv
      rw [e2] at st wk
      have hb1 : bs[i]? = some bs[i] := by simp [hlt]
      have ev : v = .ref bs[i] := by
        have : (bs.map Value.ref).toArray[i]? = some (.ref bs[i]) := by simp [hlt]
        rw [this] at hpv
        exact (Option.some.inj hpv).symm
      subst ev
      have hsus : ∃ k l c p fs cl, gs' = .suspended k l c p fs cl := by
        have q := wk true _ st ns
        cases gs' with
        | suspended k l c p fs cl => exact ⟨k, l, c, p, fs, cl, rfl⟩
        | fresh c => obtain ⟨q, _⟩ := q; cases q
        | running => exact q.elim
        | finished => exact q.elim
      refine h1 _ _ [a, env.locals, J] hlt hb1 (inv_woke (ch := [env.locals, J]) I rfl (hkeep hk') hJ (allBare_setGen (allBare_setGen I.bare rfl) hb)) ⟨?_, haL, gs', setGen_at (by show g < (s.setGen g .running).gens.size; rw [setGen_size]; exact hglt), .inr ⟨Nat.succ_pos i, J, rfl, hJa, hsus, st.1, ns, fun s2 z1 z2 => ?_⟩⟩ hfJ
      · obtain ⟨o, nm, qn, e, r⟩ := hgen
        exact ⟨o, nm, qn, hk' a o haL (by simpa using hJa) e, r⟩
      · have q := wk false s2 z1 z2
        have e3 : (bs.map Value.ref).toArray.size - (i + 1) = m := by omega
        unfold walkG
        rw [e3]
        exact q
    · have e0 : (bs.map Value.ref).toArray.size - i = 0 := by rw [hsz]; omega
      rw [e0] at wk st
      exact (wk false _ st ns).elim
  · obtain ⟨e0, h2', tk, rfl, hk2⟩ := hp
    refine h2 _ (by rw [hsz] at e0; omega) (inv_woke (ch := [env.locals, J]) I rfl (fun b o hb e => hk' b o (hkeep hk2 b o hb e)) hJ (allBare_setGen (allBare_setGen I.bare rfl) rfl))
theorem turn_walk (hc : X.calm = true) (hr : X.A.depth < recursionLimit) (hk : env.scope.kind = .function) (hx : env.kindOf x = some .local) (hsx : env.kindOf sx = some .local) (hco : env.scope.isCoroutine = false) (hi : interactive env = false)
    (hdb : (x == ("__debug__" : Str)) = false) (hdb2 : (sx == ("__debug__" : Str)) = false) (cC : Cls X.K C) (na : NoAttr X.K C fx) (hfx : fs.lookup fx = some (.ref lst)) :
    TurnS X tg (Itw oa C dx fs lst (bs.map V.ref)) a (walkT X.prog X.w X.A.in1 env (walkB x sx fx px p2 p3 p4 p5 p6 p7) sx oa a g lst (bs.map Value.ref).toArray) where
  obj := fun i fp s ⟨hgen, _, gs, _, alt⟩ b hb => by
    have ga : ∃ o, s.heap.get? a = some o ∧ ∀ v, o.data ≠ .cell v := by
      obtain ⟨o, nm, qn, e, _, d, _⟩ := hgen
      exact ⟨o, e, fun v z => by rw [d] at z; cases z⟩
    have nL : ∀ m, s.heap.Ns env.locals m → ∃ o, s.heap.get? env.locals = some o ∧ ∀ v, o.data ≠ .cell v := fun m ⟨o, es, ep, e, d, _⟩ => ⟨o, e, fun v z => by rw [d] at z; cases z⟩
    rcases alt with ⟨_, rfl, _, m, hn, _⟩ | ⟨_, J, rfl, _, _, ⟨o, e, _, d⟩, ⟨m, hn⟩, _⟩
    · simp only [List.mem_cons, List.not_mem_nil, or_false] at hb
      rcases hb with rfl | rfl
      · exact ga
      · exact nL m hn
    · simp only [List.mem_cons, List.not_mem_nil, or_false] at hb
      rcases hb with rfl | rfl | rfl
      · exact ga
      · exact nL m hn
      · exact ⟨o, e, fun v z => by rw [d] at z; cases z⟩
  keep := fun i fp s s' ⟨hgen, haL, gs, hgs, alt⟩ hk hz => by
    rcases alt with ⟨z, _⟩ | ⟨h0, J, rfl, haJ, ⟨k, l, c, p, fs, cl, rfl⟩, ⟨oj, ej, rj⟩, ⟨m, hn⟩, cls⟩
    · cases z
    · have hn' : s'.heap.Ns env.locals m := hn.at' fun o e => hk _ (by simp) o e
      refine ⟨?_, haL, _, (hz g ⟨k, l, c, p, fs, cl, hgs⟩).trans hgs, .inr ⟨h0, J, rfl, haJ, ⟨k, l, c, p, fs, cl, rfl⟩, ⟨oj, hk J (by simp) oj ej, rj⟩, ⟨m, hn'⟩, cls⟩⟩
      obtain ⟨o, nm, qn, e, r⟩ := hgen
      exact ⟨o, nm, qn, hk a (by simp) o e, r⟩
  item := fun i fp pins s σ H E I f t ⟨ho, hl, hlt⟩ => by
    rw [List.length_map] at hlt
    refine walk_next hc hr hk hx hsx hco hi hdb hdb2 cC na hfx I f t ho hl (Nat.le_of_lt hlt) (fun b s1 fp' _ hb I1 t1 f1 => ?_) fun s1 z => absurd hlt (by omega)
    obtain ⟨o, nm, qn, e, hcl, hd, _⟩ := id t1.1
    exact ⟨_, rfl, go_of (n := "generator") e hcl hd (by decide) ⟨.ref b, H, fp', I1, rfl, ⟨rfl, by rw [List.getElem?_map, hb]; rfl⟩, t1, f1⟩⟩
  done := fun i fp pins s σ H E I f t ⟨ho, hl, hlt⟩ => by
    rw [List.length_map] at hlt
    exact walk_next hc hr hk hx hsx hco hi hdb hdb2 cC na hfx I f t ho hl (by omega) (fun b s1 fp' z => absurd z (by omega)) fun s1 _ I1 => ⟨rfl, I1⟩
end
end GSw
set_option Elab.async false
set_option linter.all false
set_option maxRecDepth 100000
set_option maxHeartbeats 2000000
namespace DL
open PySem PySem.Spec PyProof.Rows L2 GenW GSw
def DPIS (X : Cx) (E : XK) (tg iter : Expr) (ι : DI) : Prop := PIS X tg iter (upI X.K E ι)
theorem itD_w {K : PySem.W.Frag} {s : Sta} {oa C dx l : Addr} {fvs : List (Str × V)} {vs : List V} {ds : List D} (ho : s.G oa = some (.ins C dx fvs)) (h : s.G l = some (.lst vs)) (r : Reps K s.G vs ds) : ItD K s (Itw oa C dx fvs l vs) ds := by
  have hl := r.length
  refine ⟨fun i t st ok hi => ⟨ok.sub _ _ (st.same _ _ ho), ok.sub _ _ (st.same _ _ h), by omega⟩, fun t st ok => ⟨ok.sub _ _ (st.same _ _ ho), ok.sub _ _ (st.same _ _ h), by omega⟩, fun i t x H' st ok y d hd => ?_⟩
  obtain ⟨v, hv, rv⟩ := r.get hd
  have q := y.2
  rw [hv] at q
  cases q
  exact ⟨t, y.1.symm, rfl, Step.refl t, ok, rv.same st.same⟩
theorem refs_of {K : PySem.W.Frag} {G : Hp} : ∀ {vs : List V} {ds : List D}, Reps K G vs ds → (∀ d ∈ ds, ∃ C fs, d = .obj C fs) → ∃ bs : List Addr, vs = bs.map V.ref
  | _, _, .nil, _ => ⟨[], rfl⟩
  | _, _, .cons h r, q => by
    obtain ⟨C, fs, rfl⟩ := q _ List.mem_cons_self
    obtain ⟨bs, rfl⟩ := refs_of r fun d hd => q d (List.mem_cons_of_mem _ hd)
    cases h with
    | obj h1 h2 => exact ⟨_ :: bs, rfl⟩
section
variable {X : Cx} {E : XK} {o tg iter : Expr} {pos apos : Pos} {τo : DE} {C f : Addr} {m nm qual x sx fx : Str} {params : Arguments} {scope : Scope} {fd : FuncData} {px p2 p3 p4 p5 p6 p7 : Pos}
/-- o.m() where m hands out the objects in the list o.fx -/
def iWalk (C : Addr) (fx m : Str) (τ : DE) : DI := fun ρ M k x => τ ρ M (fun u M1 => ∃ fs ds, u = .obj C fs ∧ fs.lookup fx = some (.lst ds) ∧ fs.lookup m = none ∧ (∀ d ∈ ds, ∃ C fs, d = .obj C fs) ∧ k ds M1) x
theorem i_walk {pl : Sem Bool} (hc : X.calm = true) (hr : X.A.depth + 5 < recursionLimit) (he : DP X E o τo) (c : Cls X.K C) (hm : Meth X.K C m f) (na : NoAttr X.K C fx) (F : FunD X.K nm qual params (walkB x sx fx px p2 p3 p4 p5 p6 p7) scope [] [] f fd) (hb : Binds X.K fd [sx] [])
    (hk : scope.kind = .function := by rfl) (hco : scope.isCoroutine = false := by rfl) (hgen : scope.isGenerator = true := by rfl) (hx : scope.names.lookup x = some .local := by rfl) (hsx : scope.names.lookup sx = some .local := by rfl)
    (hdb : (x == ("__debug__" : Str)) = false := by decide) (hdb2 : (sx == ("__debug__" : Str)) = false := by decide)
    (ht : eval (.Call (.Attribute o m apos) [] [] pos) X.env = (do
      let ov ← eval o X.env
      standAt apos.atName
      let (f, first) ← holding [ov] (getMethod ov m pl)
      callWith pos f first (backTo pos (starEach [] X.env)) (backToKw pos (keywordEach [] X.env))) := by rfl) :
    DPIS X E tg (.Call (.Attribute o m apos) [] [] pos) (iWalk C fx m τo) := by
  refine ⟨fun pins s σ H R I h => ?_⟩
  obtain ⟨ρ, s0, k, xx, rfl, er, q, px', p⟩ := h
  refine PySem.W.methodCall_KW (pl := pl) (thn (he.run pins s σ s0.H (fun v H1 => ∃ d t, t.H = H1 ∧ Step s0 t ∧ Ok X.K t ∧ Rep X.K t.G v d ∧ ∃ fs ds, d = .obj C fs ∧ fs.lookup fx = some (.lst ds) ∧ fs.lookup m = none ∧ (∀ d ∈ ds, ∃ C fs, d = .obj C fs) ∧ k ds t.M) I ⟨ρ, s0, _, xx, rfl, er, q, fun d t q1 st1 ok1 v1 r1 => ⟨d, t, rfl, st1, ok1, r1, q1⟩, px'⟩) fun u s1 ⟨y, H1, I1, r1, d, t, eH, st, ok, rd, fs, ds, ed, l1, l2, hobj, q1⟩ => ?_) ht
  subst eH ed
  cases rd with
  | obj ha rf =>
    rename_i a0 dx fvs
    obtain rfl : u = Value.ref a0 := r1
    refine getmeth_ok I1 (ok.sub _ _ ha) c hm (rf.none l2) ?_
    refine PySem.W.callWith_K0 (first := [.ref a0]) I1.kIn hm.kp ?_
    obtain ⟨v, hv, rv⟩ := rf.get l1
    cases rv with
    | lst hl rs =>
      rename_i lst vs
      obtain ⟨bs, rfl⟩ := refs_of rs hobj
      obtain ⟨oc, od, dV, kV, doc, pm, an, cdv, ct, osl, rfl, lk, hcd, _, _⟩ := F.ex
      refine wpAny_call (codeAny_call_generator (by omega) (I1.kIn _ _ lk) rfl hco hgen rfl (PySem.W.codeRec_of I1.kIn hcd) (hb s1 [.ref a0] I1.kIn rfl _ _ _ _ ?_))
      refine wpAny_newFunctionEnv_cells hk (fun y hy => ?_) fun env he s2 x2 => ?_
      · obtain rfl := List.mem_singleton.mp hy
        exact .inl hsx
      · subst he
        obtain ⟨h1, tk, es1, hk1⟩ := x2.done
        have lim1 : s2.heap.NoLimit := I1.nolimit.keeps x2.toInCall.keep
        refine ⟨lim1, ?_⟩
        have lt1 : s1.heap.objs.size < s2.heap.objs.size := x2.toInCall.ns.lt
        have os2 : s2.os = s1.os := by rw [es1]
        have gen2 : s2.gens = s1.gens := by rw [es1]
        have hns := x2.toInCall.ns
        have hkp := x2.toInCall.keep
        refine wpAny_pyIter_gen (g := s2.gens.size) ⟨_, _, _, Heap.get?_push_size _ rfl, rfl, rfl, rfl⟩ ?_
        refine ⟨s2.heap.objs.size, [s2.heap.objs.size, s1.heap.objs.size], _, _, t.H, rfl, inv_woke (ch := []) I1 os2 (fun b o _ e => Heap.get?_push_of_some _ (hkp b o e)) (fun b hb => by cases hb) (AllBare.push (by rw [gen2]; exact I1.bare) rfl),
          turn_walk (g := s2.gens.size) (oa := a0) (bs := bs) (env := envOfC qual scope s1.heap.objs.size f cdv) hc (by omega) hk hx hsx hco (by unfold interactive; rw [show (envOfC qual scope s1.heap.objs.size f cdv).scope.kind = .function from hk]; rfl) hdb hdb2 c na hv,
          ⟨⟨_, _, _, Heap.get?_push_size _ rfl, rfl, rfl, rfl⟩, Nat.ne_of_gt lt1, _, Array.getElem?_push_size .., .inl ⟨rfl, rfl, rfl, _, hns.keeps fun b o e => Heap.get?_push_of_some _ e, ?_⟩⟩, fun b hb => ?_, p ds t q1 st ok _ (itD_w ha hl rs)⟩
        · exact bindL_get (P := [sx]) (vs := [Value.ref a0]) (i := 0) (by simp) rfl rfl hsx
        · simp only [List.mem_cons, List.not_mem_nil, or_false] at hb
          rcases hb with rfl | rfl
          · exact I1.fpOk (Nat.le_of_lt lt1) (I1.hok.fresh (Nat.le_of_lt lt1))
          · exact I1.fpOk (Nat.le_refl _) (I1.hok.fresh (Nat.le_refl _))
/-- for over it -/
theorem s_forS {body : List Stmt} {ι : DI} {g : DG} {β : DS} (hxs : XeSw X) (hp : PassesOwn (model X.prog X.w) X.A X.env X.xe) (hi : DPIS X E tg iter ι) (hg : DPG X tg g) (hb : DPB X E body β)
    (hs : ∀ x, foldedSetIterable iter X.env x = pure x := by intro _; rfl) : DPS X E (.For tg iter body [] pos) (dFor ι g β) := ps_mono (ps_forS hxs hp hi hg hb hs) fun D σ H h => by
  obtain ⟨ρ, s, k, x, rfl, er, q, p, px⟩ := h
  refine ⟨ρ, s, _, x, rfl, er, q, px, fun ds s1 q1 st1 ok1 J it => ?_⟩
  rcases q1 with ⟨I, i0, turn, fin⟩ | z
  case no => exact z.elim
  refine ⟨fun j m σ' H' => m = ds.length - j ∧ j ≤ ds.length ∧ ∃ ρ' s', s'.H = H' ∧ ER X.K s' σ' ρ' ∧ Step s1 s' ∧ I j ρ' s'.M, ⟨_, rfl, Nat.zero_le _, ρ, s1, rfl, er.step st1 ok1, Step.refl s1, i0⟩, ?_⟩
  rintro j m σ' H' ⟨rfl, hj, ρ', s', rfl, er', st', ij⟩
  by_cases hlt : j < ds.length
  · refine .inr ⟨it.go j s' st' er'.ok hlt, fun σ2 H2 => ∃ ρ2 s2, s2.H = H2 ∧ ER X.K s2 σ2 ρ2 ∧ Step s1 s2 ∧ I (j + 1) ρ2 s2.M, ?_, ?_⟩
    · rintro σ2 H2 ⟨ρ2, s2, e2, er2, st2, i2⟩
      exact ⟨ds.length - (j + 1), by omega, rfl, hlt, ρ2, s2, e2, er2, st2, i2⟩
    · intro v H2 y
      obtain ⟨d, hd⟩ : ∃ d, ds[j]? = some d := ⟨ds[j], by simp [hlt]⟩
      obtain ⟨u, rfl, eM, stu, oku, ru⟩ := it.yld j s' v H2 st' er'.ok y d hd
      have ij' : I j ρ' u.M := by rw [eM]; exact ij
      refine ⟨d, ρ', u, _, rfl, er'.step stu oku, ru, turn j d ρ' u.M hd ij', fun ρ3 s3 q3 st3 σ3 er3 => ?_⟩
      have sb : Step s1 s3 := (st'.trans stu).trans st3
      refine ⟨ρ3, s3, _, x, rfl, er3, q3, ⟨fun ρ4 s4 q4 st4 σ4 er4 => ⟨ρ4, s4, rfl, er4, sb.trans st4, q4⟩, ?_, fun ρ4 s4 q4 st4 σ4 er4 => p.nx ρ4 s4 q4 ((st1.trans sb).trans st4) σ4 er4, fun ρ4 s4 q4 st4 σ4 er4 => ⟨ρ4, s4, rfl, er4, sb.trans st4, q4⟩⟩, px.step (st1.trans sb)⟩
      obtain ⟨b, b1, b2, b3, b4⟩ := p.rt
      exact ⟨b, b1.trans (st1.trans sb), b2, b3, b4⟩
  · have ej : j = ds.length := by omega
    subst ej
    exact .inl ⟨it.stop s' st' er'.ok, p.nx ρ' s' (fin ρ' s'.M ij) (st1.trans st') σ' er'⟩
end
end DL
set_option Elab.async false
set_option linter.all false
set_option maxRecDepth 100000
set_option maxHeartbeats 2000000
namespace DL
open PySem PySem.Spec PyProof.Rows L2
/-- a, b, .. = a list of that length, changing or not -/
def gUnlD (n : Nat) (g : DGs) : DG := fun d ρ M k => ∃ ds, (d = .lst ds ∨ ∃ a, d = .cel a ∧ M a = some (.lst ds)) ∧ ds.length = n ∧ g ds ρ M k
theorem g_unl {X : Cx} {pos : Pos} {es : List Expr} {k : Nat} {g : DGs} {n : Nat} (hc : X.calm = true) (h : DPGs X es g) (hn : (assignEach es X.env).length = n := by rfl) (hst : (assignEach es X.env).findIdx? (·.1) = none := by rfl) : DPG X (.Tuple es k pos) (gUnlD n g) :=
  pg_mono (pg_unl hc h hn hst) fun v σ H Q hh => by
    obtain ⟨d, ρ, s, k, rfl, er, r, ⟨ds, hl, h1, q⟩, p⟩ := hh
    rcases hl with rfl | ⟨a, rfl, hm⟩
    · obtain ⟨a, vs, rfl, ha, rs⟩ := r.lst_of
      exact ⟨a, vs, rfl, SqL.of (er.ok.sub _ _ ha), by rw [rs.length]; exact h1, ds, ρ, s, k, rfl, er, rs, q, p⟩
    · cases r with
      | cel =>
        obtain ⟨vs, e, rs⟩ := er.ok.cells a _ hm
        exact ⟨a, vs, rfl, SqL.of e, by rw [rs.length]; exact h1, ds, ρ, s, k, rfl, er, rs, q, p⟩
theorem room5 {k : Nat} {A : Around} (h : Room k A) : A.depth + 5 < recursionLimit := by have := h.dp; omega
end DL
set_option Elab.async false
set_option linter.all false
set_option maxRecDepth 100000
set_option maxHeartbeats 4000000
set_option pp.deepTerms false
set_option pp.deepTerms.threshold 12
set_option pp.maxSteps 4000
namespace W08
open PySem PySem.Spec PyProof.Rows L2 DL
def topS (i : Nat) : Stmt := PySem.Challenge.pw_gustfloor_k08_whole_sets_of_ratios.main.body.getD i (.Pass ⟨0, 0, 0, 0⟩)
abbrev st_is_number : Stmt := topS 8
theorem sc_is_number : FnScope ["value"] ["value"] (defScope st_is_number) := ⟨rfl, rfl, rfl, by decide +kernel, rfl, by decide +kernel, by decide +kernel⟩
abbrev st_common_divisor : Stmt := topS 9
theorem sc_common_divisor : FnScope ["one", "other"] ["one", "other"] (defScope st_common_divisor) := ⟨rfl, rfl, rfl, by decide +kernel, rfl, by decide +kernel, by decide +kernel⟩
abbrev st_Ratio___init__ : Stmt := inClass (topS 12) 0
theorem sc_Ratio___init__ : FnScope ["self", "top", "bottom", "by"] ["self", "top", "bottom"] (defScope st_Ratio___init__) := ⟨rfl, rfl, rfl, by decide +kernel, rfl, by decide +kernel, by decide +kernel⟩
abbrev st_Ratio_top : Stmt := inClass (topS 12) 1
theorem sc_Ratio_top : FnScope ["self"] ["self"] (defScope st_Ratio_top) := ⟨rfl, rfl, rfl, by decide +kernel, rfl, by decide +kernel, by decide +kernel⟩
abbrev st_Ratio_bottom : Stmt := inClass (topS 12) 2
theorem sc_Ratio_bottom : FnScope ["self"] ["self"] (defScope st_Ratio_bottom) := ⟨rfl, rfl, rfl, by decide +kernel, rfl, by decide +kernel, by decide +kernel⟩
abbrev st_Ratio_is_below : Stmt := inClass (topS 12) 5
theorem sc_Ratio_is_below : FnScope ["self", "other"] ["self", "other"] (defScope st_Ratio_is_below) := ⟨rfl, rfl, rfl, by decide +kernel, rfl, by decide +kernel, by decide +kernel⟩
abbrev st_Ratio___add__ : Stmt := inClass (topS 12) 6
theorem sc_Ratio___add__ : FnScope ["self", "other"] ["self", "other"] (defScope st_Ratio___add__) := ⟨rfl, rfl, rfl, by decide +kernel, rfl, by decide +kernel, by decide +kernel⟩
abbrev st_Ratio___sub__ : Stmt := inClass (topS 12) 7
theorem sc_Ratio___sub__ : FnScope ["self", "other"] ["self", "other"] (defScope st_Ratio___sub__) := ⟨rfl, rfl, rfl, by decide +kernel, rfl, by decide +kernel, by decide +kernel⟩
abbrev st_Ratio___neg__ : Stmt := inClass (topS 12) 9
theorem sc_Ratio___neg__ : FnScope ["self"] ["self"] (defScope st_Ratio___neg__) := ⟨rfl, rfl, rfl, by decide +kernel, rfl, by decide +kernel, by decide +kernel⟩
abbrev st_Ratio___eq__ : Stmt := inClass (topS 12) 10
theorem sc_Ratio___eq__ : FnScope ["self", "other"] ["self", "other"] (defScope st_Ratio___eq__) := ⟨rfl, rfl, rfl, by decide +kernel, rfl, by decide +kernel, by decide +kernel⟩
abbrev st_Ratio___bool__ : Stmt := inClass (topS 12) 11
theorem sc_Ratio___bool__ : FnScope ["self"] ["self"] (defScope st_Ratio___bool__) := ⟨rfl, rfl, rfl, by decide +kernel, rfl, by decide +kernel, by decide +kernel⟩
abbrev st_zero : Stmt := topS 13
theorem sc_zero : FnScope [] [] (defScope st_zero) := ⟨rfl, rfl, rfl, by decide +kernel, rfl, by decide +kernel, by decide +kernel⟩
abbrev st_is_before : Stmt := topS 15
theorem sc_is_before : FnScope ["one", "other"] ["one", "other"] (defScope st_is_before) := ⟨rfl, rfl, rfl, by decide +kernel, rfl, by decide +kernel, by decide +kernel⟩
abbrev st_mirrored : Stmt := topS 18
theorem sc_mirrored : FnScope ["cut"] ["cut"] (defScope st_mirrored) := ⟨rfl, rfl, rfl, by decide +kernel, rfl, by decide +kernel, by decide +kernel⟩
abbrev st_least_integer : Stmt := topS 19
theorem sc_least_integer : FnScope ["cut", "ratio"] ["cut"] (defScope st_least_integer) := ⟨rfl, rfl, rfl, by decide +kernel, rfl, by decide +kernel, by decide +kernel⟩
abbrev st_inverse : Stmt := topS 20
theorem sc_inverse : FnScope ["ratio"] ["ratio"] (defScope st_inverse) := ⟨rfl, rfl, rfl, by decide +kernel, rfl, by decide +kernel, by decide +kernel⟩
abbrev st_simplest_positive : Stmt := topS 21
theorem sc_simplest_positive : FnScope ["first", "last", "wholes", "number", "whole", "low", "high", "late", "found"] ["first", "last"] (defScope st_simplest_positive) := ⟨rfl, rfl, rfl, by decide +kernel, rfl, by decide +kernel, by decide +kernel⟩
abbrev st_simplest_between : Stmt := topS 22
theorem sc_simplest_between : FnScope ["first", "last"] ["first", "last"] (defScope st_simplest_between) := ⟨rfl, rfl, rfl, by decide +kernel, rfl, by decide +kernel, by decide +kernel⟩
abbrev st_later_cut : Stmt := topS 16
theorem sc_later_cut : FnScope ["one", "other"] ["one", "other"] (defScope st_later_cut) := ⟨rfl, rfl, rfl, by decide +kernel, rfl, by decide +kernel, by decide +kernel⟩
abbrev st_earlier_cut : Stmt := topS 17
theorem sc_earlier_cut : FnScope ["one", "other"] ["one", "other"] (defScope st_earlier_cut) := ⟨rfl, rfl, rfl, by decide +kernel, rfl, by decide +kernel, by decide +kernel⟩
abbrev st_Span___init__ : Stmt := inClass (topS 23) 0
theorem sc_Span___init__ : FnScope ["self", "low", "high", "has_low", "has_high"] ["self", "low", "high", "has_low", "has_high"] (defScope st_Span___init__) := ⟨rfl, rfl, rfl, by decide +kernel, rfl, by decide +kernel, by decide +kernel⟩
abbrev st_Span_cuts : Stmt := inClass (topS 23) 7
theorem sc_Span_cuts : FnScope ["self"] ["self"] (defScope st_Span_cuts) := ⟨rfl, rfl, rfl, by decide +kernel, rfl, by decide +kernel, by decide +kernel⟩
abbrev st_Span_simplest : Stmt := inClass (topS 23) 8
theorem sc_Span_simplest : FnScope ["self"] ["self"] (defScope st_Span_simplest) := ⟨rfl, rfl, rfl, by decide +kernel, rfl, by decide +kernel, by decide +kernel⟩
abbrev st_Span___contains__ : Stmt := inClass (topS 23) 9
theorem sc_Span___contains__ : FnScope ["self", "value"] ["self", "value"] (defScope st_Span___contains__) := ⟨rfl, rfl, rfl, by decide +kernel, rfl, by decide +kernel, by decide +kernel⟩
abbrev st_Span___eq__ : Stmt := inClass (topS 23) 10
theorem sc_Span___eq__ : FnScope ["self", "other"] ["self", "other"] (defScope st_Span___eq__) := ⟨rfl, rfl, rfl, by decide +kernel, rfl, by decide +kernel, by decide +kernel⟩
abbrev st_span_between : Stmt := topS 24
theorem sc_span_between : FnScope ["first", "last"] ["first", "last"] (defScope st_span_between) := ⟨rfl, rfl, rfl, by decide +kernel, rfl, by decide +kernel, by decide +kernel⟩
abbrev st_ordered : Stmt := topS 25
theorem sc_ordered : FnScope ["spans", "found", "span", "at"] ["spans"] (defScope st_ordered) := ⟨rfl, rfl, rfl, by decide +kernel, rfl, by decide +kernel, by decide +kernel⟩
abbrev st_merged : Stmt := topS 26
theorem sc_merged : FnScope ["spans", "found", "span", "first", "last"] ["spans"] (defScope st_merged) := ⟨rfl, rfl, rfl, by decide +kernel, rfl, by decide +kernel, by decide +kernel⟩
abbrev st_common_spans : Stmt := topS 27
theorem sc_common_spans : FnScope ["ones", "others", "found", "one", "other", "first", "part"] ["ones", "others"] (defScope st_common_spans) := ⟨rfl, rfl, rfl, by decide +kernel, rfl, by decide +kernel, by decide +kernel⟩
abbrev st_spans_without : Stmt := topS 28
theorem sc_spans_without : FnScope ["spans", "other", "found", "span", "first", "last", "parts", "part"] ["spans", "other"] (defScope st_spans_without) := ⟨rfl, rfl, rfl, by decide +kernel, rfl, by decide +kernel, by decide +kernel⟩
abbrev st_Spread___init__ : Stmt := inClass (topS 29) 0
theorem sc_Spread___init__ : FnScope ["self", "spans", "value"] ["self", "spans"] (defScope st_Spread___init__) := ⟨rfl, rfl, rfl, by decide +kernel, rfl, by decide +kernel, by decide +kernel⟩
abbrev st_Spread_walk : Stmt := inClass (topS 29) 3
abbrev st_Spread___or__ : Stmt := inClass (topS 29) 5
theorem sc_Spread___or__ : FnScope ["self", "other"] ["self", "other"] (defScope st_Spread___or__) := ⟨rfl, rfl, rfl, by decide +kernel, rfl, by decide +kernel, by decide +kernel⟩
abbrev st_Spread___and__ : Stmt := inClass (topS 29) 6
theorem sc_Spread___and__ : FnScope ["self", "other"] ["self", "other"] (defScope st_Spread___and__) := ⟨rfl, rfl, rfl, by decide +kernel, rfl, by decide +kernel, by decide +kernel⟩
abbrev st_Spread___sub__ : Stmt := inClass (topS 29) 7
theorem sc_Spread___sub__ : FnScope ["self", "other", "left", "span"] ["self", "other"] (defScope st_Spread___sub__) := ⟨rfl, rfl, rfl, by decide +kernel, rfl, by decide +kernel, by decide +kernel⟩
abbrev st_Spread___bool__ : Stmt := inClass (topS 29) 11
theorem sc_Spread___bool__ : FnScope ["self"] ["self"] (defScope st_Spread___bool__) := ⟨rfl, rfl, rfl, by decide +kernel, rfl, by decide +kernel, by decide +kernel⟩
abbrev st_Spread_within : Stmt := inClass (topS 29) 4
theorem sc_Spread_within : FnScope ["self", "other"] ["self", "other"] (defScope st_Spread_within) := ⟨rfl, rfl, rfl, by decide +kernel, rfl, by decide +kernel, by decide +kernel⟩
abbrev st_Spread___contains__ : Stmt := inClass (topS 29) 8
theorem sc_Spread___contains__ : FnScope ["self", "value", "span"] ["self", "value"] (defScope st_Spread___contains__) := ⟨rfl, rfl, rfl, by decide +kernel, rfl, by decide +kernel, by decide +kernel⟩
abbrev st_Spread___eq__ : Stmt := inClass (topS 29) 9
theorem sc_Spread___eq__ : FnScope ["self", "other", "one", "late"] ["self", "other"] (defScope st_Spread___eq__) := ⟨rfl, rfl, rfl, by decide +kernel, rfl, by decide +kernel, by decide +kernel⟩
abbrev st__law_start : Stmt := topS 31
theorem sc__law_start : FnScope ["_law_script"] ["_law_script"] (defScope st__law_start) := ⟨rfl, rfl, rfl, by decide +kernel, rfl, by decide +kernel, by decide +kernel⟩
abbrev st__law_pull : Stmt := topS 32
theorem sc__law_pull : FnScope ["_law_bag", "_law_many", "_law_cell", "_law_digit", "_law_seed"] ["_law_bag", "_law_many"] (defScope st__law_pull) := ⟨rfl, rfl, rfl, by decide +kernel, rfl, by decide +kernel, by decide +kernel⟩
abbrev st__law_pick : Stmt := topS 33
theorem sc__law_pick : FnScope ["_law_bag", "_law_some"] ["_law_bag", "_law_some"] (defScope st__law_pick) := ⟨rfl, rfl, rfl, by decide +kernel, rfl, by decide +kernel, by decide +kernel⟩
abbrev st__law_gcd : Stmt := topS 34
theorem sc__law_gcd : FnScope ["_law_a", "_law_b"] ["_law_a", "_law_b"] (defScope st__law_gcd) := ⟨rfl, rfl, rfl, by decide +kernel, rfl, by decide +kernel, by decide +kernel⟩
abbrev st__law_frac : Stmt := topS 35
theorem sc__law_frac : FnScope ["_law_a", "_law_b", "_law_by"] ["_law_a", "_law_b"] (defScope st__law_frac) := ⟨rfl, rfl, rfl, by decide +kernel, rfl, by decide +kernel, by decide +kernel⟩
abbrev st__law_less : Stmt := topS 36
theorem sc__law_less : FnScope ["_law_p", "_law_q"] ["_law_p", "_law_q"] (defScope st__law_less) := ⟨rfl, rfl, rfl, by decide +kernel, rfl, by decide +kernel, by decide +kernel⟩
abbrev st__law_near_areas : Stmt := topS 37
theorem sc__law_near_areas : FnScope ["_law_bag", "_law_many", "_law_found", "_law_k", "_law_b", "_law_p", "_law_q"] ["_law_bag", "_law_many"] (defScope st__law_near_areas) := ⟨rfl, rfl, rfl, by decide +kernel, rfl, by decide +kernel, by decide +kernel⟩
abbrev st__law_some_frac : Stmt := topS 38
theorem sc__law_some_frac : FnScope ["_law_bag", "_law_b", "_law_a"] ["_law_bag"] (defScope st__law_some_frac) := ⟨rfl, rfl, rfl, by decide +kernel, rfl, by decide +kernel, by decide +kernel⟩
abbrev st__law_some_area : Stmt := topS 39
theorem sc__law_some_area : FnScope ["_law_bag", "_law_p", "_law_q"] ["_law_bag"] (defScope st__law_some_area) := ⟨rfl, rfl, rfl, by decide +kernel, rfl, by decide +kernel, by decide +kernel⟩
abbrev st__law_ratio : Stmt := topS 40
theorem sc__law_ratio : FnScope ["_law_p"] ["_law_p"] (defScope st__law_ratio) := ⟨rfl, rfl, rfl, by decide +kernel, rfl, by decide +kernel, by decide +kernel⟩
abbrev st__law_made_span : Stmt := topS 41
theorem sc__law_made_span : FnScope ["_law_area", "_law_c", "_law_d"] ["_law_area"] (defScope st__law_made_span) := ⟨rfl, rfl, rfl, by decide +kernel, rfl, by decide +kernel, by decide +kernel⟩
abbrev st__law_spread : Stmt := topS 42
theorem sc__law_spread : FnScope ["_law_areas", "_law_area"] ["_law_areas"] (defScope st__law_spread) := ⟨rfl, rfl, rfl, by decide +kernel, rfl, by decide +kernel, by decide +kernel⟩
abbrev st_law : Stmt := topS 43
theorem sc_law : FnScope ["_law_script", "_law_bag", "_law_turn_k", "_law_lots", "_law_k", "_law_areas", "_law_a", "_law_b", "_law_c", "_law_rules", "_law_gone", "_law_part", "_law_p"] ["_law_script"] (defScope st_law) := ⟨rfl, rfl, rfl, by decide +kernel, rfl, by decide +kernel, by decide +kernel⟩
abbrev CS (cl : Nat → Addr) : List Addr := [cl 0, cl 1, cl 2]
structure Txt (K : PySem.W.Frag) (mg : Str → Option Value) (ad : Nat → Addr) (fd : Nat → FuncData) (cl : Nat → Addr) : Prop where
  m_Ratio : mg "Ratio" = some (.ref (cl 0))
  ci_Ratio : ClsI K (cl 0)
  sf_Ratio : PySem.W.selfFirst K (cl 0) = true
  isiC_Ratio : ∀ C ∈ CS cl, ClsI K C ∧ PySem.W.kitOne K (.ref C) (.ref (cl 0)) = some (decide (C = cl 0))
  isiB_Ratio : ∀ u : Kd, PySem.W.kitOne K (.type u.nm) (.ref (cl 0)) = some false
  m_Span : mg "Span" = some (.ref (cl 1))
  ci_Span : ClsI K (cl 1)
  sf_Span : PySem.W.selfFirst K (cl 1) = true
  isiC_Span : ∀ C ∈ CS cl, ClsI K C ∧ PySem.W.kitOne K (.ref C) (.ref (cl 1)) = some (decide (C = cl 1))
  isiB_Span : ∀ u : Kd, PySem.W.kitOne K (.type u.nm) (.ref (cl 1)) = some false
  ne_1_0 : cl 1 ≠ cl 0
  m_Spread : mg "Spread" = some (.ref (cl 2))
  ci_Spread : ClsI K (cl 2)
  sf_Spread : PySem.W.selfFirst K (cl 2) = true
  isiC_Spread : ∀ C ∈ CS cl, ClsI K C ∧ PySem.W.kitOne K (.ref C) (.ref (cl 2)) = some (decide (C = cl 2))
  isiB_Spread : ∀ u : Kd, PySem.W.kitOne K (.type u.nm) (.ref (cl 2)) = some false
  ne_2_0 : cl 2 ≠ cl 0
  ne_2_1 : cl 2 ≠ cl 1
  isi_bool : ∀ C ∈ CS cl, ClsI K C ∧ PySem.W.kitOne K (.ref C) (.type (Kd.nm .bl)) = some false
  isi_int : ∀ C ∈ CS cl, ClsI K C ∧ PySem.W.kitOne K (.ref C) (.type (Kd.nm .int)) = some false
  na_Ratio_own_bottom : NoAttr K (cl 0) "own_bottom"
  na_Ratio_own_top : NoAttr K (cl 0) "own_top"
  na_Span_own_first : NoAttr K (cl 1) "own_first"
  na_Span_own_last : NoAttr K (cl 1) "own_last"
  na_Spread_own_spans : NoAttr K (cl 2) "own_spans"
  m_is_number : mg "is_number" = some (.ref (ad 0))
  k_is_number : PySem.W.keepIn K (.ref (ad 0)) = true
  F_is_number : FunD K "is_number" "is_number" (defArgs st_is_number) (defBody st_is_number) (defScope st_is_number) [] [] (ad 0) (fd 0)
  kb_is_number_1 : KBd K (fd 0) ["value"] 1 [] (fun us _ => us)
  m_common_divisor : mg "common_divisor" = some (.ref (ad 1))
  k_common_divisor : PySem.W.keepIn K (.ref (ad 1)) = true
  F_common_divisor : FunD K "common_divisor" "common_divisor" (defArgs st_common_divisor) (defBody st_common_divisor) (defScope st_common_divisor) [] [] (ad 1) (fd 1)
  kb_common_divisor_2 : KBd K (fd 1) ["one", "other"] 2 [] (fun us _ => us)
  F_Ratio___init__ : FunD K "__init__" "Ratio.__init__" (defArgs st_Ratio___init__) (defBody st_Ratio___init__) (defScope st_Ratio___init__) [V.int 1] [] (ad 2) (fd 2)
  mk_Ratio : Mk K (cl 0) (ad 2)
  kb_Ratio___init___2 : KBd K (fd 2) ["self", "top", "bottom"] 2 [] (fun us ws => pickI (us ++ [(.int 1)] ++ ws) [0, 1, 2])
  kb_Ratio___init___3 : KBd K (fd 2) ["self", "top", "bottom"] 3 [] (fun us ws => pickI (us ++ [(.int 1)] ++ ws) [0, 1, 2])
  F_Ratio_top : FunD K "top" "Ratio.top" (defArgs st_Ratio_top) (defBody st_Ratio_top) (defScope st_Ratio_top) [] [] (ad 3) (fd 3)
  pp_Ratio_top : ∃ pa, PropOf K (cl 0) "top" pa (ad 3)
  bb_Ratio_top : Binds K (fd 3) ["self"] []
  F_Ratio_bottom : FunD K "bottom" "Ratio.bottom" (defArgs st_Ratio_bottom) (defBody st_Ratio_bottom) (defScope st_Ratio_bottom) [] [] (ad 4) (fd 4)
  pp_Ratio_bottom : ∃ pa, PropOf K (cl 0) "bottom" pa (ad 4)
  bb_Ratio_bottom : Binds K (fd 4) ["self"] []
  F_Ratio_is_below : FunD K "is_below" "Ratio.is_below" (defArgs st_Ratio_is_below) (defBody st_Ratio_is_below) (defScope st_Ratio_is_below) [] [] (ad 5) (fd 5)
  mt_Ratio_is_below : Meth K (cl 0) "is_below" (ad 5)
  kb_Ratio_is_below_2 : KBd K (fd 5) ["self", "other"] 2 [] (fun us _ => us)
  F_Ratio___add__ : FunD K "__add__" "Ratio.__add__" (defArgs st_Ratio___add__) (defBody st_Ratio___add__) (defScope st_Ratio___add__) [] [] (ad 6) (fd 6)
  sp_Ratio___add__ : PySem.W.findIn K (.ref (cl 0)) "__add__" = some (some (.ref (ad 6)))
  fn_Ratio___add__ : PySem.W.isFn K (.ref (ad 6)) = true
  kb_Ratio___add___2 : KBd K (fd 6) ["self", "other"] 2 [] (fun us _ => us)
  F_Ratio___sub__ : FunD K "__sub__" "Ratio.__sub__" (defArgs st_Ratio___sub__) (defBody st_Ratio___sub__) (defScope st_Ratio___sub__) [] [] (ad 7) (fd 7)
  sp_Ratio___sub__ : PySem.W.findIn K (.ref (cl 0)) "__sub__" = some (some (.ref (ad 7)))
  fn_Ratio___sub__ : PySem.W.isFn K (.ref (ad 7)) = true
  kb_Ratio___sub___2 : KBd K (fd 7) ["self", "other"] 2 [] (fun us _ => us)
  F_Ratio___neg__ : FunD K "__neg__" "Ratio.__neg__" (defArgs st_Ratio___neg__) (defBody st_Ratio___neg__) (defScope st_Ratio___neg__) [] [] (ad 8) (fd 8)
  sp_Ratio___neg__ : PySem.W.findIn K (.ref (cl 0)) "__neg__" = some (some (.ref (ad 8)))
  fn_Ratio___neg__ : PySem.W.isFn K (.ref (ad 8)) = true
  kb_Ratio___neg___1 : KBd K (fd 8) ["self"] 1 [] (fun us _ => us)
  F_Ratio___eq__ : FunD K "__eq__" "Ratio.__eq__" (defArgs st_Ratio___eq__) (defBody st_Ratio___eq__) (defScope st_Ratio___eq__) [] [] (ad 9) (fd 9)
  sp_Ratio___eq__ : PySem.W.findIn K (.ref (cl 0)) "__eq__" = some (some (.ref (ad 9)))
  fn_Ratio___eq__ : PySem.W.isFn K (.ref (ad 9)) = true
  bb_Ratio___eq__ : Binds K (fd 9) ["self", "other"] []
  kb_Ratio___eq___2 : KBd K (fd 9) ["self", "other"] 2 [] (fun us _ => us)
  F_Ratio___bool__ : FunD K "__bool__" "Ratio.__bool__" (defArgs st_Ratio___bool__) (defBody st_Ratio___bool__) (defScope st_Ratio___bool__) [] [] (ad 10) (fd 10)
  sp_Ratio___bool__ : PySem.W.findIn K (.ref (cl 0)) "__bool__" = some (some (.ref (ad 10)))
  fn_Ratio___bool__ : PySem.W.isFn K (.ref (ad 10)) = true
  kb_Ratio___bool___1 : KBd K (fd 10) ["self"] 1 [] (fun us _ => us)
  m_zero : mg "zero" = some (.ref (ad 11))
  k_zero : PySem.W.keepIn K (.ref (ad 11)) = true
  F_zero : FunD K "zero" "zero" (defArgs st_zero) (defBody st_zero) (defScope st_zero) [] [] (ad 11) (fd 11)
  kb_zero_0 : KBd K (fd 11) [] 0 [] (fun us _ => us)
  m_is_before : mg "is_before" = some (.ref (ad 12))
  k_is_before : PySem.W.keepIn K (.ref (ad 12)) = true
  F_is_before : FunD K "is_before" "is_before" (defArgs st_is_before) (defBody st_is_before) (defScope st_is_before) [] [] (ad 12) (fd 12)
  kb_is_before_2 : KBd K (fd 12) ["one", "other"] 2 [] (fun us _ => us)
  m_mirrored : mg "mirrored" = some (.ref (ad 13))
  k_mirrored : PySem.W.keepIn K (.ref (ad 13)) = true
  F_mirrored : FunD K "mirrored" "mirrored" (defArgs st_mirrored) (defBody st_mirrored) (defScope st_mirrored) [] [] (ad 13) (fd 13)
  kb_mirrored_1 : KBd K (fd 13) ["cut"] 1 [] (fun us _ => us)
  m_least_integer : mg "least_integer" = some (.ref (ad 14))
  k_least_integer : PySem.W.keepIn K (.ref (ad 14)) = true
  F_least_integer : FunD K "least_integer" "least_integer" (defArgs st_least_integer) (defBody st_least_integer) (defScope st_least_integer) [] [] (ad 14) (fd 14)
  kb_least_integer_1 : KBd K (fd 14) ["cut"] 1 [] (fun us _ => us)
  m_inverse : mg "inverse" = some (.ref (ad 15))
  k_inverse : PySem.W.keepIn K (.ref (ad 15)) = true
  F_inverse : FunD K "inverse" "inverse" (defArgs st_inverse) (defBody st_inverse) (defScope st_inverse) [] [] (ad 15) (fd 15)
  kb_inverse_1 : KBd K (fd 15) ["ratio"] 1 [] (fun us _ => us)
  m_simplest_positive : mg "simplest_positive" = some (.ref (ad 16))
  k_simplest_positive : PySem.W.keepIn K (.ref (ad 16)) = true
  F_simplest_positive : FunD K "simplest_positive" "simplest_positive" (defArgs st_simplest_positive) (defBody st_simplest_positive) (defScope st_simplest_positive) [] [] (ad 16) (fd 16)
  kb_simplest_positive_2 : KBd K (fd 16) ["first", "last"] 2 [] (fun us _ => us)
  m_simplest_between : mg "simplest_between" = some (.ref (ad 17))
  k_simplest_between : PySem.W.keepIn K (.ref (ad 17)) = true
  F_simplest_between : FunD K "simplest_between" "simplest_between" (defArgs st_simplest_between) (defBody st_simplest_between) (defScope st_simplest_between) [] [] (ad 17) (fd 17)
  kb_simplest_between_2 : KBd K (fd 17) ["first", "last"] 2 [] (fun us _ => us)
  m_later_cut : mg "later_cut" = some (.ref (ad 18))
  k_later_cut : PySem.W.keepIn K (.ref (ad 18)) = true
  F_later_cut : FunD K "later_cut" "later_cut" (defArgs st_later_cut) (defBody st_later_cut) (defScope st_later_cut) [] [] (ad 18) (fd 18)
  kb_later_cut_2 : KBd K (fd 18) ["one", "other"] 2 [] (fun us _ => us)
  m_earlier_cut : mg "earlier_cut" = some (.ref (ad 19))
  k_earlier_cut : PySem.W.keepIn K (.ref (ad 19)) = true
  F_earlier_cut : FunD K "earlier_cut" "earlier_cut" (defArgs st_earlier_cut) (defBody st_earlier_cut) (defScope st_earlier_cut) [] [] (ad 19) (fd 19)
  kb_earlier_cut_2 : KBd K (fd 19) ["one", "other"] 2 [] (fun us _ => us)
  F_Span___init__ : FunD K "__init__" "Span.__init__" (defArgs st_Span___init__) (defBody st_Span___init__) (defScope st_Span___init__) [] [("has_low", V.bl true), ("has_high", V.bl true)] (ad 20) (fd 20)
  mk_Span : Mk K (cl 1) (ad 20)
  kb_Span___init___3_has_low_has_high : KBd K (fd 20) ["self", "low", "high", "has_low", "has_high"] 3 ["has_low", "has_high"] (fun us ws => pickI (us ++ [] ++ ws) [0, 1, 2, 3, 4])
  F_Span_cuts : FunD K "cuts" "Span.cuts" (defArgs st_Span_cuts) (defBody st_Span_cuts) (defScope st_Span_cuts) [] [] (ad 21) (fd 21)
  mt_Span_cuts : Meth K (cl 1) "cuts" (ad 21)
  kb_Span_cuts_1 : KBd K (fd 21) ["self"] 1 [] (fun us _ => us)
  F_Span_simplest : FunD K "simplest" "Span.simplest" (defArgs st_Span_simplest) (defBody st_Span_simplest) (defScope st_Span_simplest) [] [] (ad 22) (fd 22)
  mt_Span_simplest : Meth K (cl 1) "simplest" (ad 22)
  kb_Span_simplest_1 : KBd K (fd 22) ["self"] 1 [] (fun us _ => us)
  F_Span___contains__ : FunD K "__contains__" "Span.__contains__" (defArgs st_Span___contains__) (defBody st_Span___contains__) (defScope st_Span___contains__) [] [] (ad 23) (fd 23)
  sp_Span___contains__ : PySem.W.findIn K (.ref (cl 1)) "__contains__" = some (some (.ref (ad 23)))
  fn_Span___contains__ : PySem.W.isFn K (.ref (ad 23)) = true
  kb_Span___contains___2 : KBd K (fd 23) ["self", "value"] 2 [] (fun us _ => us)
  F_Span___eq__ : FunD K "__eq__" "Span.__eq__" (defArgs st_Span___eq__) (defBody st_Span___eq__) (defScope st_Span___eq__) [] [] (ad 24) (fd 24)
  sp_Span___eq__ : PySem.W.findIn K (.ref (cl 1)) "__eq__" = some (some (.ref (ad 24)))
  fn_Span___eq__ : PySem.W.isFn K (.ref (ad 24)) = true
  kb_Span___eq___2 : KBd K (fd 24) ["self", "other"] 2 [] (fun us _ => us)
  m_span_between : mg "span_between" = some (.ref (ad 25))
  k_span_between : PySem.W.keepIn K (.ref (ad 25)) = true
  F_span_between : FunD K "span_between" "span_between" (defArgs st_span_between) (defBody st_span_between) (defScope st_span_between) [] [] (ad 25) (fd 25)
  kb_span_between_2 : KBd K (fd 25) ["first", "last"] 2 [] (fun us _ => us)
  m_ordered : mg "ordered" = some (.ref (ad 26))
  k_ordered : PySem.W.keepIn K (.ref (ad 26)) = true
  F_ordered : FunD K "ordered" "ordered" (defArgs st_ordered) (defBody st_ordered) (defScope st_ordered) [] [] (ad 26) (fd 26)
  kb_ordered_1 : KBd K (fd 26) ["spans"] 1 [] (fun us _ => us)
  m_merged : mg "merged" = some (.ref (ad 27))
  k_merged : PySem.W.keepIn K (.ref (ad 27)) = true
  F_merged : FunD K "merged" "merged" (defArgs st_merged) (defBody st_merged) (defScope st_merged) [] [] (ad 27) (fd 27)
  kb_merged_1 : KBd K (fd 27) ["spans"] 1 [] (fun us _ => us)
  m_common_spans : mg "common_spans" = some (.ref (ad 28))
  k_common_spans : PySem.W.keepIn K (.ref (ad 28)) = true
  F_common_spans : FunD K "common_spans" "common_spans" (defArgs st_common_spans) (defBody st_common_spans) (defScope st_common_spans) [] [] (ad 28) (fd 28)
  kb_common_spans_2 : KBd K (fd 28) ["ones", "others"] 2 [] (fun us _ => us)
  m_spans_without : mg "spans_without" = some (.ref (ad 29))
  k_spans_without : PySem.W.keepIn K (.ref (ad 29)) = true
  F_spans_without : FunD K "spans_without" "spans_without" (defArgs st_spans_without) (defBody st_spans_without) (defScope st_spans_without) [] [] (ad 29) (fd 29)
  kb_spans_without_2 : KBd K (fd 29) ["spans", "other"] 2 [] (fun us _ => us)
  F_Spread___init__ : FunD K "__init__" "Spread.__init__" (defArgs st_Spread___init__) (defBody st_Spread___init__) (defScope st_Spread___init__) [V.ref (ad 52)] [] (ad 30) (fd 30)
  mk_Spread : Mk K (cl 2) (ad 30)
  kb_Spread___init___1 : KBd K (fd 30) ["self", "spans"] 1 [] (fun us ws => pickI (us ++ [(.tup [])] ++ ws) [0, 1])
  kb_Spread___init___2 : KBd K (fd 30) ["self", "spans"] 2 [] (fun us ws => pickI (us ++ [(.tup [])] ++ ws) [0, 1])
  F_Spread_walk : FunD K "walk" "Spread.walk" (defArgs st_Spread_walk) (defBody st_Spread_walk) (defScope st_Spread_walk) [] [] (ad 31) (fd 31)
  mt_Spread_walk : Meth K (cl 2) "walk" (ad 31)
  bb_Spread_walk : Binds K (fd 31) ["self"] []
  kb_Spread_walk_1 : KBd K (fd 31) ["self"] 1 [] (fun us _ => us)
  F_Spread___or__ : FunD K "__or__" "Spread.__or__" (defArgs st_Spread___or__) (defBody st_Spread___or__) (defScope st_Spread___or__) [] [] (ad 32) (fd 32)
  sp_Spread___or__ : PySem.W.findIn K (.ref (cl 2)) "__or__" = some (some (.ref (ad 32)))
  fn_Spread___or__ : PySem.W.isFn K (.ref (ad 32)) = true
  kb_Spread___or___2 : KBd K (fd 32) ["self", "other"] 2 [] (fun us _ => us)
  F_Spread___and__ : FunD K "__and__" "Spread.__and__" (defArgs st_Spread___and__) (defBody st_Spread___and__) (defScope st_Spread___and__) [] [] (ad 33) (fd 33)
  sp_Spread___and__ : PySem.W.findIn K (.ref (cl 2)) "__and__" = some (some (.ref (ad 33)))
  fn_Spread___and__ : PySem.W.isFn K (.ref (ad 33)) = true
  kb_Spread___and___2 : KBd K (fd 33) ["self", "other"] 2 [] (fun us _ => us)
  F_Spread___sub__ : FunD K "__sub__" "Spread.__sub__" (defArgs st_Spread___sub__) (defBody st_Spread___sub__) (defScope st_Spread___sub__) [] [] (ad 34) (fd 34)
  sp_Spread___sub__ : PySem.W.findIn K (.ref (cl 2)) "__sub__" = some (some (.ref (ad 34)))
  fn_Spread___sub__ : PySem.W.isFn K (.ref (ad 34)) = true
  kb_Spread___sub___2 : KBd K (fd 34) ["self", "other"] 2 [] (fun us _ => us)
  F_Spread___bool__ : FunD K "__bool__" "Spread.__bool__" (defArgs st_Spread___bool__) (defBody st_Spread___bool__) (defScope st_Spread___bool__) [] [] (ad 35) (fd 35)
  sp_Spread___bool__ : PySem.W.findIn K (.ref (cl 2)) "__bool__" = some (some (.ref (ad 35)))
  fn_Spread___bool__ : PySem.W.isFn K (.ref (ad 35)) = true
  kb_Spread___bool___1 : KBd K (fd 35) ["self"] 1 [] (fun us _ => us)
  F_Spread_within : FunD K "within" "Spread.within" (defArgs st_Spread_within) (defBody st_Spread_within) (defScope st_Spread_within) [] [] (ad 36) (fd 36)
  mt_Spread_within : Meth K (cl 2) "within" (ad 36)
  kb_Spread_within_2 : KBd K (fd 36) ["self", "other"] 2 [] (fun us _ => us)
  F_Spread___contains__ : FunD K "__contains__" "Spread.__contains__" (defArgs st_Spread___contains__) (defBody st_Spread___contains__) (defScope st_Spread___contains__) [] [] (ad 37) (fd 37)
  sp_Spread___contains__ : PySem.W.findIn K (.ref (cl 2)) "__contains__" = some (some (.ref (ad 37)))
  fn_Spread___contains__ : PySem.W.isFn K (.ref (ad 37)) = true
  kb_Spread___contains___2 : KBd K (fd 37) ["self", "value"] 2 [] (fun us _ => us)
  F_Spread___eq__ : FunD K "__eq__" "Spread.__eq__" (defArgs st_Spread___eq__) (defBody st_Spread___eq__) (defScope st_Spread___eq__) [] [] (ad 38) (fd 38)
  sp_Spread___eq__ : PySem.W.findIn K (.ref (cl 2)) "__eq__" = some (some (.ref (ad 38)))
  fn_Spread___eq__ : PySem.W.isFn K (.ref (ad 38)) = true
  kb_Spread___eq___2 : KBd K (fd 38) ["self", "other"] 2 [] (fun us _ => us)
  m__law_start : mg "_law_start" = some (.ref (ad 39))
  k__law_start : PySem.W.keepIn K (.ref (ad 39)) = true
  F__law_start : FunD K "_law_start" "_law_start" (defArgs st__law_start) (defBody st__law_start) (defScope st__law_start) [] [] (ad 39) (fd 39)
  kb__law_start_1 : KBd K (fd 39) ["_law_script"] 1 [] (fun us _ => us)
  m__law_pull : mg "_law_pull" = some (.ref (ad 40))
  k__law_pull : PySem.W.keepIn K (.ref (ad 40)) = true
  F__law_pull : FunD K "_law_pull" "_law_pull" (defArgs st__law_pull) (defBody st__law_pull) (defScope st__law_pull) [] [] (ad 40) (fd 40)
  kb__law_pull_2 : KBd K (fd 40) ["_law_bag", "_law_many"] 2 [] (fun us _ => us)
  m__law_pick : mg "_law_pick" = some (.ref (ad 41))
  k__law_pick : PySem.W.keepIn K (.ref (ad 41)) = true
  F__law_pick : FunD K "_law_pick" "_law_pick" (defArgs st__law_pick) (defBody st__law_pick) (defScope st__law_pick) [] [] (ad 41) (fd 41)
  kb__law_pick_2 : KBd K (fd 41) ["_law_bag", "_law_some"] 2 [] (fun us _ => us)
  m__law_gcd : mg "_law_gcd" = some (.ref (ad 42))
  k__law_gcd : PySem.W.keepIn K (.ref (ad 42)) = true
  F__law_gcd : FunD K "_law_gcd" "_law_gcd" (defArgs st__law_gcd) (defBody st__law_gcd) (defScope st__law_gcd) [] [] (ad 42) (fd 42)
  kb__law_gcd_2 : KBd K (fd 42) ["_law_a", "_law_b"] 2 [] (fun us _ => us)
  m__law_frac : mg "_law_frac" = some (.ref (ad 43))
  k__law_frac : PySem.W.keepIn K (.ref (ad 43)) = true
  F__law_frac : FunD K "_law_frac" "_law_frac" (defArgs st__law_frac) (defBody st__law_frac) (defScope st__law_frac) [] [] (ad 43) (fd 43)
  kb__law_frac_2 : KBd K (fd 43) ["_law_a", "_law_b"] 2 [] (fun us _ => us)
  m__law_less : mg "_law_less" = some (.ref (ad 44))
  k__law_less : PySem.W.keepIn K (.ref (ad 44)) = true
  F__law_less : FunD K "_law_less" "_law_less" (defArgs st__law_less) (defBody st__law_less) (defScope st__law_less) [] [] (ad 44) (fd 44)
  kb__law_less_2 : KBd K (fd 44) ["_law_p", "_law_q"] 2 [] (fun us _ => us)
  m__law_near_areas : mg "_law_near_areas" = some (.ref (ad 45))
  k__law_near_areas : PySem.W.keepIn K (.ref (ad 45)) = true
  F__law_near_areas : FunD K "_law_near_areas" "_law_near_areas" (defArgs st__law_near_areas) (defBody st__law_near_areas) (defScope st__law_near_areas) [] [] (ad 45) (fd 45)
  kb__law_near_areas_2 : KBd K (fd 45) ["_law_bag", "_law_many"] 2 [] (fun us _ => us)
  m__law_some_frac : mg "_law_some_frac" = some (.ref (ad 46))
  k__law_some_frac : PySem.W.keepIn K (.ref (ad 46)) = true
  F__law_some_frac : FunD K "_law_some_frac" "_law_some_frac" (defArgs st__law_some_frac) (defBody st__law_some_frac) (defScope st__law_some_frac) [] [] (ad 46) (fd 46)
  kb__law_some_frac_1 : KBd K (fd 46) ["_law_bag"] 1 [] (fun us _ => us)
  m__law_some_area : mg "_law_some_area" = some (.ref (ad 47))
  k__law_some_area : PySem.W.keepIn K (.ref (ad 47)) = true
  F__law_some_area : FunD K "_law_some_area" "_law_some_area" (defArgs st__law_some_area) (defBody st__law_some_area) (defScope st__law_some_area) [] [] (ad 47) (fd 47)
  kb__law_some_area_1 : KBd K (fd 47) ["_law_bag"] 1 [] (fun us _ => us)
  m__law_ratio : mg "_law_ratio" = some (.ref (ad 48))
  k__law_ratio : PySem.W.keepIn K (.ref (ad 48)) = true
  F__law_ratio : FunD K "_law_ratio" "_law_ratio" (defArgs st__law_ratio) (defBody st__law_ratio) (defScope st__law_ratio) [] [] (ad 48) (fd 48)
  kb__law_ratio_1 : KBd K (fd 48) ["_law_p"] 1 [] (fun us _ => us)
  m__law_made_span : mg "_law_made_span" = some (.ref (ad 49))
  k__law_made_span : PySem.W.keepIn K (.ref (ad 49)) = true
  F__law_made_span : FunD K "_law_made_span" "_law_made_span" (defArgs st__law_made_span) (defBody st__law_made_span) (defScope st__law_made_span) [] [] (ad 49) (fd 49)
  kb__law_made_span_1 : KBd K (fd 49) ["_law_area"] 1 [] (fun us _ => us)
  m__law_spread : mg "_law_spread" = some (.ref (ad 50))
  k__law_spread : PySem.W.keepIn K (.ref (ad 50)) = true
  F__law_spread : FunD K "_law_spread" "_law_spread" (defArgs st__law_spread) (defBody st__law_spread) (defScope st__law_spread) [] [] (ad 50) (fd 50)
  kb__law_spread_1 : KBd K (fd 50) ["_law_areas"] 1 [] (fun us _ => us)
  m_law : mg "law" = some (.ref (ad 51))
  k_law : PySem.W.keepIn K (.ref (ad 51)) = true
  F_law : FunD K "law" "law" (defArgs st_law) (defBody st_law) (defScope st_law) [] [] (ad 51) (fd 51)
  b_abs : mg "abs" = none
  b_all : mg "all" = none
  b_any : mg "any" = none
  b_bool : mg "bool" = none
  b_int : mg "int" = none
  b_isinstance : mg "isinstance" = none
  b_len : mg "len" = none
  b_list : mg "list" = none
  b_range : mg "range" = none
  b_zip : mg "zip" = none
  et : ∀ {G : Hp}, SqT K G (ad 52) []
end W08
set_option Elab.async false
set_option linter.all false
set_option maxRecDepth 100000
set_option maxHeartbeats 4000000
set_option pp.deepTerms false
set_option pp.deepTerms.threshold 12
set_option pp.maxSteps 4000
namespace W08
open PySem PySem.Spec PyProof.Rows L2 DL
local macro_rules | `(tactic| walk_at "sc") => `(tactic| first | assumption | rfl | exact Nat.le_of_ble_eq_true rfl | decide | omega | exact mul_small (by omega) (by omega) | exact mul_smallR (by omega) (by omega) | exact ⟨by decide, by decide, by decide⟩ | exact ⟨by omega, by assumption⟩ | exact ⟨by decide, log2_small (by decide) (by decide)⟩)
local macro_rules | `(tactic| walk_at "go1") => `(tactic| first | refine ⟨_, rfl, ?_⟩ | refine ⟨rfl, ?_⟩ | refine ⟨_, by assumption, ?_⟩ | refine ⟨_, mup_same, ?_⟩ | refine eqI ?_ | refine neI ?_ | refine iteT ?_ | refine iteF ?_ | refine ⟨(by walk_at "sc"), ?_⟩)
local macro_rules | `(tactic| walk_at "go") => `(tactic| repeat walk_at "go1")

/-- a ratio -/
def rat (cl : Nat → Addr) (a b : Int) : D := .obj (cl 0) [("own_top", .int a), ("own_bottom", .int b)]
def Lg (n : Int) : Prop := n.natAbs.log2 < 4000
theorem mul_lg {i j : Int} (h1 : Lg i) (h2 : Lg j) : DL.MulOk i j := .inr (by unfold CMulW; unfold Lg at h1 h2; omega)
theorem fmod_lt' {i j : Int} (h : 0 < j) : 0 ≤ i.fmod j ∧ i.fmod j < j := by
  rw [Int.fmod_eq_emod_of_nonneg _ (Int.le_of_lt h)]
  exact ⟨Int.emod_nonneg _ (by omega), Int.emod_lt_of_pos _ h⟩
theorem gcd_step {x y : Int} (h : 0 < y) : Int.gcd y (x.fmod y) = Int.gcd x y := by
  rw [Int.fmod_eq_emod_of_nonneg _ (Int.le_of_lt h), Int.emod_def, Int.gcd_comm]
  rw [show x - y * (x / y) = x - (x / y) * y by rw [Int.mul_comm]]
  exact RT.gcd_sub
theorem log2_mono {a b : Nat} (h : a ≤ b) (hb : 0 < b) : a.log2 ≤ b.log2 := by
  by_cases z : a = 0
  · subst z; simp
  · exact (Nat.le_log2 (by omega)).mpr (Nat.le_trans (Nat.log2_self_le z) h)
theorem gcd_div {a b : Int} (h : b ≠ 0) (hb : Lg b) : DL.DivOk 0 (Int.gcd a b) ∧ DL.DivOk 0 (-(Int.gcd a b : Int)) := by
  have g0 := RT.gcd_pos (a := a) h
  have l : Int.gcd a b ≤ b.natAbs := Nat.le_of_dvd (by omega) (Int.gcd_dvd_natAbs_right a b)
  have l2 := log2_mono l (by omega)
  unfold Lg at hb
  refine ⟨⟨by omega, ?_⟩, ⟨by omega, ?_⟩⟩
  · rw [Int.natAbs_natCast]; omega
  · rw [Int.natAbs_neg, Int.natAbs_natCast]; omega
theorem abs_eq (a : Int) : (if a < 0 then -a else a) = (a.natAbs : Int) := by split <;> omega
theorem gcd_abs (a b : Int) : Int.gcd (a.natAbs : Int) (b.natAbs : Int) = Int.gcd a b := by
  show Nat.gcd _ _ = Nat.gcd _ _
  rw [Int.natAbs_natCast, Int.natAbs_natCast]
/-- a number that is not too great -/
def Sm (n : Int) : Prop := n.natAbs < 2 ^ 1000
theorem Sm.lg {n : Int} (h : Sm n) : Lg n := by
  unfold Lg
  by_cases z : n.natAbs = 0
  · rw [z]; decide
  · exact Nat.lt_trans ((Nat.log2_lt z).mpr h) (by decide)
theorem Sm.mul {a b : Int} (h1 : Sm a) (h2 : Sm b) : DL.MulOk a b := mul_lg h1.lg h2.lg
theorem Sm.lgm {a b : Int} (h1 : Sm a) (h2 : Sm b) : Lg (a * b) := by
  unfold Lg
  by_cases z : (a * b).natAbs = 0
  · rw [z]; decide
  · refine Nat.lt_of_lt_of_le ((Nat.log2_lt z).mpr ?_) (show 2000 ≤ 4000 by decide)
    rw [Int.natAbs_mul, show (2000 : Nat) = 1000 + 1000 from rfl, Nat.pow_add]
    exact Nat.mul_lt_mul'' h1 h2
theorem Sm.of {n B : Int} (h0 : 0 ≤ n) (h1 : n ≤ B) (hB : B < 2 ^ 1000) : Sm n := by
  unfold Sm
  have : (n.natAbs : Int) < (2 : Int) ^ 1000 := by omega
  exact_mod_cast this
theorem sm_one : Sm 1 := by unfold Sm; decide
theorem lg_one : Lg 1 := by unfold Lg; decide
theorem sm_le {n : Int} (h0 : -(10 ^ 40) ≤ n) (h1 : n ≤ 10 ^ 40) : Sm n := by
  unfold Sm
  omega
theorem mup_of {M : Mm} {p : Addr} {o : MO} (hm : M p = some o) : M = mup M p o := by
  funext a
  unfold mup
  split
  · rename_i e; rw [e]; exact hm
  · rfl
def ph_is_number : Ct := fun ds M k _ => ∃ i : Int, ds = [.int i] ∧ k (.bl true) M
theorem ok_is_number {K : PySem.W.Frag} {mg : Str → Option Value} {ad : Nat → Addr} {fd : Nat → FuncData} {cl : Nat → Addr} {P : Program} {w : World} {base : Heap} (T : Txt K mg ad fd cl) : FnOk P w K mg base (L2.CX P w) 1 (ad 0) (fd 0) ["value"] (spD K 1 ph_is_number) := by
  refine fn_D T.F_is_number sc_is_number rfl fun cdv A outer s H E hr hp ho => ⟨_, (b_one (s_ret (d_and (d_isi .int (CS cl) (by decide) T.isi_int rfl T.b_isinstance rfl T.b_int (by decide +kernel) (dv 0)) (d_one (d_not (d_isi .bl (CS cl) (by decide) T.isi_bool rfl T.b_isinstance rfl T.b_bool (by decide +kernel) (dv 0))))))), ?_⟩
  clear hp ho hr
  rintro ds M k x hl ⟨i, rfl, q⟩
  walk_at "go"
  exact q
def ph_common_divisor : Ct := fun ds M k _ => ∃ a b : Int, ds = [.int a, .int b] ∧ 0 ≤ a ∧ 0 ≤ b ∧ k (.int (Int.gcd a b)) M
theorem ok_common_divisor {K : PySem.W.Frag} {mg : Str → Option Value} {ad : Nat → Addr} {fd : Nat → FuncData} {cl : Nat → Addr} {P : Program} {w : World} {base : Heap} (T : Txt K mg ad fd cl) : FnOk P w K mg base (L2.CX P w) 1 (ad 1) (fd 1) ["one", "other"] (spD K 2 ph_common_divisor) := by
  refine fn_D T.F_common_divisor sc_common_divisor rfl fun cdv A outer s H E hr hp ho => ⟨_, (b_cons (s_while ho (t_cmp o_gt (dv 1) d_int (nomark _))
  (b_one (s_par (i := 0) (j := 1) rfl sc_common_divisor.nd rfl rfl (by decide) rfl rfl (a_cons (dv 1) (a_cons (d_op o_mod (dv 0) (dv 1)) a_nil)) rfl)))
  (b_one (s_ret (dv 0)))), ?_⟩
  clear hp ho hr
  rintro ds M k x hl ⟨a, b, rfl, ha, hb, q⟩
  refine WhK.of (fun m ρ M' => ∃ x y : Int, M' = M ∧ ρ = [some (.int x), some (.int y)] ∧ 0 ≤ x ∧ 0 ≤ y ∧ Int.gcd x y = Int.gcd a b ∧ m = y.toNat) ⟨_, a, b, rfl, rfl, ha, hb, rfl, rfl⟩ ?_
  rintro m ρ M' ⟨x, y, rfl, rfl, hx, hy, hg, rfl⟩
  refine ⟨_, rfl, _, rfl, ?_⟩
  refine ite_b (fun e => ?_) (fun e => ?_)
  · have e := of_decide_eq_true e
    have f := fmod_lt' (i := x) e
    refine ⟨_, rfl, _, rfl, _, rfl, by show y ≠ 0; omega, _, _, rfl, _, ?_, y, x.fmod y, rfl, rfl, hy, f.1, (gcd_step e).trans hg, rfl⟩
    omega
  · have e : ¬ (0 < y) := of_decide_eq_false e
    have z : y = 0 := by omega
    subst z
    have : (Int.gcd a b : Int) = x := by rw [← hg, Int.gcd_zero_right]; omega
    refine ⟨_, rfl, ?_⟩
    rw [← this]
    exact q
def ph_Ratio___init__ (cl : Nat → Addr) : Ct := fun ds M k _ => ∃ (p : Addr) (a b : Int), ds = [.cel p, .int a, .int b] ∧ M p = some (.ins (cl 0) []) ∧ b ≠ 0 ∧ Lg b ∧ k .non (mup M p (.ins (cl 0) [("own_top", .int (RT.nrm a b).1), ("own_bottom", .int (RT.nrm a b).2)]))
section
variable {cl : Nat → Addr} {M : Mm} {k : DK} {x : DX} {a b c d : Int}
/-- Ratio(a, b) -/
theorem mkR {gD : List D → List D → List D} {ds zs : List D} (h : ∀ p, gD (.cel p :: ds) zs = [.cel p, .int a, .int b]) (hb : b ≠ 0) (lb : Lg b) (q : k (rat cl (RT.nrm a b).1 (RT.nrm a b).2) M) : mkC (cl 0) (ph_Ratio___init__ cl) gD ds zs M k x := by
  intro p hp
  refine ⟨p, a, b, h p, mup_same, hb, lb, rfl, _, mup_same, ?_⟩
  rw [mup_mup, mdel_mup hp]
  exact q
end
theorem ok_Ratio___init__ {K : PySem.W.Frag} {mg : Str → Option Value} {ad : Nat → Addr} {fd : Nat → FuncData} {cl : Nat → Addr} {P : Program} {w : World} {base : Heap} (T : Txt K mg ad fd cl) : FnOk P w K mg base (L2.CX P w) 3 (ad 2) (fd 2) ["self", "top", "bottom"] (spD K 3 (ph_Ratio___init__ cl)) := by
  have G_is_number := ok_is_number (P := P) (w := w) (base := base) T
  have G_common_divisor := ok_common_divisor (P := P) (w := w) (base := base) T
  refine fn_D T.F_Ratio___init__ sc_Ratio___init__ rfl fun cdv A outer s H E hr hp ho => ⟨_, (b_cons (s_if (DPW.t (w_or (t_not (t_val (d_call G_is_number (hr.mono (by decide)) rfl T.m_is_number T.k_is_number T.kb_is_number_1 (by intro _ _ h _; exact h) hp (a_cons (dv 1) a_nil)))) (w_or (t_not (t_val (d_call G_is_number (hr.mono (by decide)) rfl T.m_is_number T.k_is_number T.kb_is_number_1 (by intro _ _ h _; exact h) hp (a_cons (dv 2) a_nil)))) (w_or1 (t_cmp (o_eq hr.units) (dv 2) d_int (nomark _)))))) (b_one s_never) b_nil)
  (b_cons (s_set (i := 3) sc_Ratio___init__.nd rfl (Or.inl rfl) (d_call G_common_divisor (hr.mono (by decide)) rfl T.m_common_divisor T.k_common_divisor T.kb_common_divisor_2 (by intro _ _ h _; exact h) hp (a_cons (d_callB c_abs rfl T.b_abs boot_abs' (a_cons (dv 1) a_nil)) (a_cons (d_callB c_abs rfl T.b_abs boot_abs' (a_cons (dv 2) a_nil)) a_nil))))
  (b_cons (s_if (t_cmp o_lt (dv 2) d_int (nomark _)) (b_one (s_set (i := 3) sc_Ratio___init__.nd rfl (Or.inl rfl) (d_un o_neg (dv 3)))) b_nil)
  (b_cons (s_fld [cl 0] (one_cls T.ci_Ratio.cl T.na_Ratio_own_top) (d_op o_fdiv (dv 1) (dv 3)) (dv 0) rfl)
  (b_one (s_fld [cl 0] (one_cls T.ci_Ratio.cl T.na_Ratio_own_bottom) (d_op o_fdiv (dv 2) (dv 3)) (dv 0) rfl)))))), ?_⟩
  clear hp ho hr G_is_number G_common_divisor
  rintro ds M k x hl ⟨p, a, b, rfl, hm, hb, lb, q⟩
  refine ⟨_, rfl, rfl, a, rfl, _, rfl, iteF ?_⟩
  refine ⟨_, rfl, rfl, b, rfl, _, rfl, iteF ?_⟩
  refine ⟨_, rfl, eqI ⟨_, rfl, ?_⟩⟩
  rw [decide_eq_false hb]
  refine iteF ?_
  obtain ⟨g1, g2⟩ := gcd_div (a := a) hb lb
  refine ⟨_, rfl, _, rfl, rfl, _, _, rfl, ?_, ?_, ?_⟩
  · rw [abs_eq]; omega
  · rw [abs_eq]; omega
  rw [abs_eq, abs_eq, gcd_abs]
  refine ⟨_, rfl, _, rfl, ?_⟩
  refine ite_b (fun e => ?_) (fun e => ?_)
  · have e := of_decide_eq_true e
    refine ⟨_, rfl, ?_⟩
    refine ⟨_, rfl, _, rfl, g2, _, rfl, p, _, _, rfl, hm, .head _, Nat.le_of_ble_eq_true rfl, ?_⟩
    refine ⟨_, rfl, _, rfl, g2, _, rfl, p, _, _, rfl, mup_same, .head _, Nat.le_of_ble_eq_true rfl, ?_⟩
    rw [mup_mup]
    have en : RT.nrm a b = (a.fdiv (-(Int.gcd a b : Int)), b.fdiv (-(Int.gcd a b : Int))) := by
      unfold RT.nrm
      rw [if_pos e, Int.zero_sub]
    rw [en] at q
    exact q
  · have e : ¬ b < 0 := of_decide_eq_false e
    refine ⟨_, rfl, _, rfl, g1, _, rfl, p, _, _, rfl, hm, .head _, Nat.le_of_ble_eq_true rfl, ?_⟩
    refine ⟨_, rfl, _, rfl, g1, _, rfl, p, _, _, rfl, mup_same, .head _, Nat.le_of_ble_eq_true rfl, ?_⟩
    rw [mup_mup]
    have en : RT.nrm a b = (a.fdiv (Int.gcd a b : Int), b.fdiv (Int.gcd a b : Int)) := by
      unfold RT.nrm
      rw [if_neg e]
    rw [en] at q
    exact q
def ph_Ratio_top (cl : Nat → Addr) : Ct := fun ds M k _ => ∃ a b : Int, ds = [rat cl a b] ∧ k (.int a) M
theorem ok_Ratio_top {K : PySem.W.Frag} {mg : Str → Option Value} {ad : Nat → Addr} {fd : Nat → FuncData} {cl : Nat → Addr} {P : Program} {w : World} {base : Heap} (T : Txt K mg ad fd cl) : FnOk P w K mg base (L2.CX P w) 1 (ad 3) (fd 3) ["self"] (spD K 1 (ph_Ratio_top cl)) := by
  refine fn_D T.F_Ratio_top sc_Ratio_top rfl fun cdv A outer s H E hr hp ho => ⟨_, (b_one (s_ret (d_fld [cl 0] (one_cls T.ci_Ratio.cl T.na_Ratio_own_top) (dv 0)))), ?_⟩
  clear hp ho hr
  rintro ds M k x hl ⟨a, b, rfl, q⟩
  exact ⟨_, rfl, _, _, _, rfl, .head _, rfl, q⟩
def ph_Ratio_bottom (cl : Nat → Addr) : Ct := fun ds M k _ => ∃ a b : Int, ds = [rat cl a b] ∧ k (.int b) M
theorem ok_Ratio_bottom {K : PySem.W.Frag} {mg : Str → Option Value} {ad : Nat → Addr} {fd : Nat → FuncData} {cl : Nat → Addr} {P : Program} {w : World} {base : Heap} (T : Txt K mg ad fd cl) : FnOk P w K mg base (L2.CX P w) 1 (ad 4) (fd 4) ["self"] (spD K 1 (ph_Ratio_bottom cl)) := by
  refine fn_D T.F_Ratio_bottom sc_Ratio_bottom rfl fun cdv A outer s H E hr hp ho => ⟨_, (b_one (s_ret (d_fld [cl 0] (one_cls T.ci_Ratio.cl T.na_Ratio_own_bottom) (dv 0)))), ?_⟩
  clear hp ho hr
  rintro ds M k x hl ⟨a, b, rfl, q⟩
  exact ⟨_, rfl, _, _, _, rfl, .head _, rfl, q⟩
def ph_Ratio_is_below (cl : Nat → Addr) : Ct := fun ds M k _ => ∃ a b c d : Int, ds = [rat cl a b, rat cl c d] ∧ DL.MulOk a d ∧ DL.MulOk c b ∧ k (.bl (decide (a * d < c * b))) M
theorem ok_Ratio_is_below {K : PySem.W.Frag} {mg : Str → Option Value} {ad : Nat → Addr} {fd : Nat → FuncData} {cl : Nat → Addr} {P : Program} {w : World} {base : Heap} (T : Txt K mg ad fd cl) : FnOk P w K mg base (L2.CX P w) 1 (ad 5) (fd 5) ["self", "other"] (spD K 2 (ph_Ratio_is_below cl)) := by
  refine fn_D T.F_Ratio_is_below sc_Ratio_is_below rfl fun cdv A outer s H E hr hp ho => ⟨_, (b_one (s_ret (d_cmp o_lt (d_op o_mul (d_fld [cl 0] (one_cls T.ci_Ratio.cl T.na_Ratio_own_top) (dv 0)) (d_fld [cl 0] (one_cls T.ci_Ratio.cl T.na_Ratio_own_bottom) (dv 1))) (d_op o_mul (d_fld [cl 0] (one_cls T.ci_Ratio.cl T.na_Ratio_own_top) (dv 1)) (d_fld [cl 0] (one_cls T.ci_Ratio.cl T.na_Ratio_own_bottom) (dv 0))) (nomark _)))), ?_⟩
  clear hp ho hr
  rintro ds M k x hl ⟨a, b, c, d, rfl, h1, h2, q⟩
  refine ⟨_, rfl, _, _, _, rfl, .head _, rfl, _, rfl, _, _, _, rfl, .head _, rfl, h1, ?_⟩
  refine ⟨_, rfl, _, _, _, rfl, .head _, rfl, _, rfl, _, _, _, rfl, .head _, rfl, h2, ?_⟩
  exact q
def ph_Ratio___add__ (cl : Nat → Addr) : Ct := fun ds M k _ => ∃ a b c d : Int, ds = [rat cl a b, rat cl c d] ∧ DL.MulOk a d ∧ DL.MulOk c b ∧ DL.MulOk b d ∧ b * d ≠ 0 ∧ Lg (b * d) ∧ k (rat cl (RT.nrm (a * d + c * b) (b * d)).1 (RT.nrm (a * d + c * b) (b * d)).2) M
theorem ok_Ratio___add__ {K : PySem.W.Frag} {mg : Str → Option Value} {ad : Nat → Addr} {fd : Nat → FuncData} {cl : Nat → Addr} {P : Program} {w : World} {base : Heap} (T : Txt K mg ad fd cl) : FnOk P w K mg base (L2.CX P w) 5 (ad 6) (fd 6) ["self", "other"] (spD K 2 (ph_Ratio___add__ cl)) := by
  have G_Ratio___init__ := ok_Ratio___init__ (P := P) (w := w) (base := base) T
  refine fn_D T.F_Ratio___add__ sc_Ratio___add__ rfl fun cdv A outer s H E hr hp ho => ⟨_, (b_one (s_ret (d_make T.mk_Ratio G_Ratio___init__ (hr.mono (by decide)) rfl T.m_Ratio T.kb_Ratio___init___3 (fun us ws h1 h2 => match us, ws, h1, h2 with | [_, _, _], [], _, _ => rfl) hp (a_cons (d_op o_add (d_op o_mul (d_fld [cl 0] (one_cls T.ci_Ratio.cl T.na_Ratio_own_top) (dv 0)) (d_fld [cl 0] (one_cls T.ci_Ratio.cl T.na_Ratio_own_bottom) (dv 1))) (d_op o_mul (d_fld [cl 0] (one_cls T.ci_Ratio.cl T.na_Ratio_own_top) (dv 1)) (d_fld [cl 0] (one_cls T.ci_Ratio.cl T.na_Ratio_own_bottom) (dv 0)))) (a_cons (d_op o_mul (d_fld [cl 0] (one_cls T.ci_Ratio.cl T.na_Ratio_own_bottom) (dv 0)) (d_fld [cl 0] (one_cls T.ci_Ratio.cl T.na_Ratio_own_bottom) (dv 1))) a_nil)) k_nil))), ?_⟩
  clear hp ho hr G_Ratio___init__
  rintro ds M k x hl ⟨a, b, c, d, rfl, h1, h2, h3, h4, h5, q⟩
  refine ⟨_, rfl, _, _, _, rfl, .head _, rfl, _, rfl, _, _, _, rfl, .head _, rfl, h1, ?_⟩
  refine ⟨_, rfl, _, _, _, rfl, .head _, rfl, _, rfl, _, _, _, rfl, .head _, rfl, h2, ?_⟩
  refine ⟨_, rfl, _, _, _, rfl, .head _, rfl, _, rfl, _, _, _, rfl, .head _, rfl, h3, ?_⟩
  exact ⟨rfl, rfl, mkR (fun _ => rfl) h4 h5 q⟩
def ph_Ratio___sub__ (cl : Nat → Addr) : Ct := fun ds M k _ => ∃ a b c d : Int, ds = [rat cl a b, rat cl c d] ∧ DL.MulOk a d ∧ DL.MulOk c b ∧ DL.MulOk b d ∧ b * d ≠ 0 ∧ Lg (b * d) ∧ k (rat cl (RT.nrm (a * d - c * b) (b * d)).1 (RT.nrm (a * d - c * b) (b * d)).2) M
theorem ok_Ratio___sub__ {K : PySem.W.Frag} {mg : Str → Option Value} {ad : Nat → Addr} {fd : Nat → FuncData} {cl : Nat → Addr} {P : Program} {w : World} {base : Heap} (T : Txt K mg ad fd cl) : FnOk P w K mg base (L2.CX P w) 5 (ad 7) (fd 7) ["self", "other"] (spD K 2 (ph_Ratio___sub__ cl)) := by
  have G_Ratio___init__ := ok_Ratio___init__ (P := P) (w := w) (base := base) T
  refine fn_D T.F_Ratio___sub__ sc_Ratio___sub__ rfl fun cdv A outer s H E hr hp ho => ⟨_, (b_one (s_ret (d_make T.mk_Ratio G_Ratio___init__ (hr.mono (by decide)) rfl T.m_Ratio T.kb_Ratio___init___3 (fun us ws h1 h2 => match us, ws, h1, h2 with | [_, _, _], [], _, _ => rfl) hp (a_cons (d_op o_sub (d_op o_mul (d_fld [cl 0] (one_cls T.ci_Ratio.cl T.na_Ratio_own_top) (dv 0)) (d_fld [cl 0] (one_cls T.ci_Ratio.cl T.na_Ratio_own_bottom) (dv 1))) (d_op o_mul (d_fld [cl 0] (one_cls T.ci_Ratio.cl T.na_Ratio_own_top) (dv 1)) (d_fld [cl 0] (one_cls T.ci_Ratio.cl T.na_Ratio_own_bottom) (dv 0)))) (a_cons (d_op o_mul (d_fld [cl 0] (one_cls T.ci_Ratio.cl T.na_Ratio_own_bottom) (dv 0)) (d_fld [cl 0] (one_cls T.ci_Ratio.cl T.na_Ratio_own_bottom) (dv 1))) a_nil)) k_nil))), ?_⟩
  clear hp ho hr G_Ratio___init__
  rintro ds M k x hl ⟨a, b, c, d, rfl, h1, h2, h3, h4, h5, q⟩
  refine ⟨_, rfl, _, _, _, rfl, .head _, rfl, _, rfl, _, _, _, rfl, .head _, rfl, h1, ?_⟩
  refine ⟨_, rfl, _, _, _, rfl, .head _, rfl, _, rfl, _, _, _, rfl, .head _, rfl, h2, ?_⟩
  refine ⟨_, rfl, _, _, _, rfl, .head _, rfl, _, rfl, _, _, _, rfl, .head _, rfl, h3, ?_⟩
  exact ⟨rfl, rfl, mkR (fun _ => rfl) h4 h5 q⟩
def ph_Ratio___neg__ (cl : Nat → Addr) : Ct := fun ds M k _ => ∃ a b : Int, ds = [rat cl a b] ∧ b ≠ 0 ∧ Lg b ∧ k (rat cl (RT.nrm (0 - a) b).1 (RT.nrm (0 - a) b).2) M
theorem ok_Ratio___neg__ {K : PySem.W.Frag} {mg : Str → Option Value} {ad : Nat → Addr} {fd : Nat → FuncData} {cl : Nat → Addr} {P : Program} {w : World} {base : Heap} (T : Txt K mg ad fd cl) : FnOk P w K mg base (L2.CX P w) 5 (ad 8) (fd 8) ["self"] (spD K 1 (ph_Ratio___neg__ cl)) := by
  have G_Ratio___init__ := ok_Ratio___init__ (P := P) (w := w) (base := base) T
  refine fn_D T.F_Ratio___neg__ sc_Ratio___neg__ rfl fun cdv A outer s H E hr hp ho => ⟨_, (b_one (s_ret (d_make T.mk_Ratio G_Ratio___init__ (hr.mono (by decide)) rfl T.m_Ratio T.kb_Ratio___init___3 (fun us ws h1 h2 => match us, ws, h1, h2 with | [_, _, _], [], _, _ => rfl) hp (a_cons (d_op o_sub d_int (d_fld [cl 0] (one_cls T.ci_Ratio.cl T.na_Ratio_own_top) (dv 0))) (a_cons (d_fld [cl 0] (one_cls T.ci_Ratio.cl T.na_Ratio_own_bottom) (dv 0)) a_nil)) k_nil))), ?_⟩
  clear hp ho hr G_Ratio___init__
  rintro ds M k x hl ⟨a, b, rfl, h4, h5, q⟩
  refine ⟨_, rfl, _, _, _, rfl, .head _, rfl, ?_⟩
  refine ⟨_, rfl, _, _, _, rfl, .head _, rfl, ?_⟩
  exact ⟨rfl, rfl, mkR (fun _ => rfl) h4 h5 q⟩
def ph_Ratio___eq__ (cl : Nat → Addr) : Ct := fun ds M k _ => ∃ a b c d : Int, ds = [rat cl a b, rat cl c d] ∧ k (.bl (decide (a = c) && decide (b = d))) M
theorem ok_Ratio___eq__ {K : PySem.W.Frag} {mg : Str → Option Value} {ad : Nat → Addr} {fd : Nat → FuncData} {cl : Nat → Addr} {P : Program} {w : World} {base : Heap} (T : Txt K mg ad fd cl) : FnOk P w K mg base (L2.CX P w) 1 (ad 9) (fd 9) ["self", "other"] (spD K 2 (ph_Ratio___eq__ cl)) := by
  refine fn_D T.F_Ratio___eq__ sc_Ratio___eq__ rfl fun cdv A outer s H E hr hp ho => ⟨_, (b_cons (s_if (t_not (t_val (d_isiC (cl 0) (CS cl) T.isiC_Ratio T.isiB_Ratio rfl T.b_isinstance rfl T.m_Ratio (dv 1)))) (b_one (s_ret d_bl)) b_nil)
  (b_one (s_ret (d_and (d_cmp (o_eq hr.units) (d_fld [cl 0] (one_cls T.ci_Ratio.cl T.na_Ratio_own_top) (dv 0)) (d_fld [cl 0] (one_cls T.ci_Ratio.cl T.na_Ratio_own_top) (dv 1)) (nomark _)) (d_one (d_cmp (o_eq hr.units) (d_fld [cl 0] (one_cls T.ci_Ratio.cl T.na_Ratio_own_bottom) (dv 0)) (d_fld [cl 0] (one_cls T.ci_Ratio.cl T.na_Ratio_own_bottom) (dv 1)) (nomark _))))))), ?_⟩
  clear hp ho hr
  rintro ds M k x hl ⟨a, b, c, d, rfl, q⟩
  refine ⟨_, rfl, List.mem_cons_self, _, rfl, ?_⟩
  rw [decide_eq_true rfl]
  refine iteF ?_
  refine ⟨_, rfl, _, _, _, rfl, .head _, rfl, _, rfl, _, _, _, rfl, .head _, rfl, eqI ⟨_, rfl, ?_⟩⟩
  refine ite_b (fun e => ?_) (fun e => ?_)
  · refine ⟨_, rfl, _, _, _, rfl, .head _, rfl, _, rfl, _, _, _, rfl, .head _, rfl, eqI ?_⟩
    rw [e, Bool.true_and] at q
    exact q
  · rw [e, Bool.false_and] at q
    exact q
def ph_Ratio___bool__ (cl : Nat → Addr) : Ct := fun ds M k _ => ∃ a b : Int, ds = [rat cl a b] ∧ k (.bl (!decide (a = 0))) M
theorem ok_Ratio___bool__ {K : PySem.W.Frag} {mg : Str → Option Value} {ad : Nat → Addr} {fd : Nat → FuncData} {cl : Nat → Addr} {P : Program} {w : World} {base : Heap} (T : Txt K mg ad fd cl) : FnOk P w K mg base (L2.CX P w) 1 (ad 10) (fd 10) ["self"] (spD K 1 (ph_Ratio___bool__ cl)) := by
  refine fn_D T.F_Ratio___bool__ sc_Ratio___bool__ rfl fun cdv A outer s H E hr hp ho => ⟨_, (b_one (s_ret (d_callTy c_bool rfl T.b_bool boot_bool' (a_cons (d_cmp (o_ne hr.units) (d_fld [cl 0] (one_cls T.ci_Ratio.cl T.na_Ratio_own_top) (dv 0)) d_int (nomark _)) a_nil)))), ?_⟩
  clear hp ho hr
  rintro ds M k x hl ⟨a, b, rfl, q⟩
  refine ⟨_, rfl, _, _, _, rfl, .head _, rfl, neI ?_⟩
  exact q
def ph_zero (cl : Nat → Addr) : Ct := fun ds M k _ => ds = [] ∧ k (rat cl 0 1) M
theorem ok_zero {K : PySem.W.Frag} {mg : Str → Option Value} {ad : Nat → Addr} {fd : Nat → FuncData} {cl : Nat → Addr} {P : Program} {w : World} {base : Heap} (T : Txt K mg ad fd cl) : FnOk P w K mg base (L2.CX P w) 5 (ad 11) (fd 11) [] (spD K 0 (ph_zero cl)) := by
  have G_Ratio___init__ := ok_Ratio___init__ (P := P) (w := w) (base := base) T
  refine fn_D T.F_zero sc_zero rfl fun cdv A outer s H E hr hp ho => ⟨_, (b_one (s_ret (d_make T.mk_Ratio G_Ratio___init__ (hr.mono (by decide)) rfl T.m_Ratio T.kb_Ratio___init___2 (fun us ws h1 h2 => match us, ws, h1, h2 with | [_, _], [], _, _ => rfl) hp (a_cons d_int a_nil) k_nil))), ?_⟩
  clear hp ho hr G_Ratio___init__
  rintro ds M k x hl ⟨rfl, q⟩
  refine ⟨rfl, rfl, mkR (a := 0) (b := 1) (fun _ => rfl) (by decide) (by unfold Lg; decide) ?_⟩
  exact q
def cutD (cl : Nat → Addr) (c : RT.Cut) : D := .tup [rat cl c.a c.b, .int c.k]
structure CSm (c : RT.Cut) : Prop where
  a : Sm c.a
  b : Sm c.b
def ph_is_before (cl : Nat → Addr) : Ct := fun ds M k _ => ∃ x y : RT.Cut, ds = [cutD cl x, cutD cl y] ∧ RT.Nf x.a x.b ∧ RT.Nf y.a y.b ∧ CSm x ∧ CSm y ∧ k (.bl (decide (RT.Cut.lt x y))) M
theorem lt_same {x y : RT.Cut} (e1 : x.a = y.a) (e2 : x.b = y.b) : decide (RT.Cut.lt x y) = decide (x.k < y.k) := by
  apply decide_eq_decide.mpr
  unfold RT.Cut.lt
  rw [e1, e2]
  constructor
  · rintro (h | h)
    · omega
    · exact h.2
  · intro h; exact .inr ⟨rfl, h⟩
theorem lt_diff {x y : RT.Cut} (h1 : RT.Nf x.a x.b) (h2 : RT.Nf y.a y.b) (e : ¬ (x.a = y.a ∧ x.b = y.b)) : decide (RT.Cut.lt x y) = decide (x.a * y.b < y.a * x.b) := by
  apply decide_eq_decide.mpr
  unfold RT.Cut.lt
  constructor
  · rintro (h | h)
    · exact h
    · exact absurd (RT.nf_eq h1 h2 h.1) e
  · exact .inl
def BB : Int := 2 ^ 200
theorem csm_b {c : RT.Cut} (h : c.Ok) (z : RT.CB BB c) : CSm c := by
  refine ⟨?_, Sm.of (Int.le_of_lt h.nf.pos) z.bb (by unfold BB; decide)⟩
  have h1 := z.lo
  have h2 := z.hi
  unfold Sm
  have : (c.a.natAbs : Int) < (2 : Int) ^ 1000 := by
    have : (BB : Int) < 2 ^ 1000 := by unfold BB; decide
    omega
  exact_mod_cast this
/-- a cut in lowest terms, of bounded size -/
abbrev CBo (c : SP.OC) : Prop := RT.CB BB c.1
theorem csm_o {c : SP.OC} (z : CBo c) : CSm c.1 := csm_b c.2 z
abbrev SpT := SP.OC × SP.OC
def spn (cl : Nat → Addr) (f c : RT.Cut) : D := .obj (cl 1) [("own_first", cutD cl f), ("own_last", cutD cl c)]
def spD' (cl : Nat → Addr) (s : SpT) : D := spn cl s.1.1 s.2.1
/-- a span -/
structure SpOk (s : SpT) : Prop where
  lt : SP.Lin.lt s.1 s.2
  f : CBo s.1
  l : CBo s.2
/-- the cuts of a span's list -/
def AllOk (S : List SpT) : Prop := ∀ s ∈ S, SpOk s
theorem allOk_of {S : List SpT} (h1 : SP.Val S) (h2 : ∀ s ∈ S, CBo s.1 ∧ CBo s.2) : AllOk S := fun s hs => ⟨h1 s hs, (h2 s hs).1, (h2 s hs).2⟩
theorem AllOk.b {S : List SpT} (h : AllOk S) : ∀ s ∈ S, CBo s.1 ∧ CBo s.2 := fun s hs => ⟨(h s hs).f, (h s hs).l⟩
theorem AllOk.v {S : List SpT} (h : AllOk S) : SP.Val S := fun s hs => (h s hs).lt
theorem ok_is_before {K : PySem.W.Frag} {mg : Str → Option Value} {ad : Nat → Addr} {fd : Nat → FuncData} {cl : Nat → Addr} {P : Program} {w : World} {base : Heap} (T : Txt K mg ad fd cl) : FnOk P w K mg base (L2.CX P w) 3 (ad 12) (fd 12) ["one", "other"] (spD K 2 (ph_is_before cl)) := by
  have G_Ratio___eq__ := ok_Ratio___eq__ (P := P) (w := w) (base := base) T
  have G_Ratio_is_below := ok_Ratio_is_below (P := P) (w := w) (base := base) T
  refine fn_D T.F_is_before sc_is_before rfl fun cdv A outer s H E hr hp ho => ⟨_, (b_cons (s_if (t_cmp (o_sel (o_ownEq T.sp_Ratio___eq__ T.fn_Ratio___eq__ G_Ratio___eq__ T.kb_Ratio___eq___2 (hr.mono (by decide)) hp) (o_eq hr.units)) (d_ix x_ix (dv 0) d_int (fun _ _ => rfl)) (d_ix x_ix (dv 1) d_int (fun _ _ => rfl)) (nomark _)) (b_one (s_ret (d_cmp o_lt (d_ix x_ix (dv 0) d_int (fun _ _ => rfl)) (d_ix x_ix (dv 1) d_int (fun _ _ => rfl)) (nomark _)))) b_nil)
  (b_one (s_ret (d_meth T.ci_Ratio.cl T.mt_Ratio_is_below G_Ratio_is_below (hr.mono (by decide)) T.kb_Ratio_is_below_2 (fun us ws h1 h2 => match us, ws, h1, h2 with | [_, _], [], _, _ => rfl) hp (d_ix x_ix (dv 0) d_int (fun _ _ => rfl)) (a_cons (d_ix x_ix (dv 1) d_int (fun _ _ => rfl)) a_nil) k_nil)))), ?_⟩
  clear hp ho hr G_Ratio___eq__ G_Ratio_is_below
  rintro ds M k x hl ⟨⟨a, b, i⟩, ⟨c, d, j⟩, rfl, n1, n2, s1, s2, q⟩
  refine ⟨_, rfl, _, rfl, _, rfl, _, rfl, ⟨_, rfl⟩, ⟨_, rfl⟩, a, b, c, d, rfl, _, rfl, ?_⟩
  refine ite_b (fun e => ?_) (fun e => ?_)
  · have e := Bool.and_eq_true_iff.mp e
    have e1 := of_decide_eq_true e.1
    have e2 := of_decide_eq_true e.2
    refine ⟨_, rfl, _, rfl, _, rfl, _, rfl, ?_⟩
    rw [lt_same e1 e2] at q
    exact q
  · have e' : ¬ (a = c ∧ b = d) := fun z => by rw [decide_eq_true z.1, decide_eq_true z.2] at e; cases e
    refine ⟨_, rfl, _, rfl, _, rfl, rfl, _, rfl, _, rfl, rfl, rfl, a, b, c, d, rfl, s1.a.mul s2.b, s2.a.mul s1.b, ?_⟩
    rw [lt_diff n1 n2 e'] at q
    exact q
/-- the cut seen in the mirror -/
def mir (c : RT.Cut) : RT.Cut := ⟨0 - c.a, c.b, 1 - c.k⟩
def ph_mirrored (cl : Nat → Addr) : Ct := fun ds M k _ => ∃ c : RT.Cut, ds = [cutD cl c] ∧ RT.Nf c.a c.b ∧ CSm c ∧ k (cutD cl (mir c)) M
theorem nf_neg {a b : Int} (h : RT.Nf a b) : RT.Nf (0 - a) b := ⟨h.pos, by rw [Int.zero_sub, Int.neg_gcd]; exact h.one⟩
theorem ok_mirrored {K : PySem.W.Frag} {mg : Str → Option Value} {ad : Nat → Addr} {fd : Nat → FuncData} {cl : Nat → Addr} {P : Program} {w : World} {base : Heap} (T : Txt K mg ad fd cl) : FnOk P w K mg base (L2.CX P w) 7 (ad 13) (fd 13) ["cut"] (spD K 1 (ph_mirrored cl)) := by
  have G_Ratio___neg__ := ok_Ratio___neg__ (P := P) (w := w) (base := base) T
  refine fn_D T.F_mirrored sc_mirrored rfl fun cdv A outer s H E hr hp ho => ⟨_, (b_one (s_ret (d_tup (a_cons (d_un (o_sel1 (o_ownNeg T.sp_Ratio___neg__ T.fn_Ratio___neg__ G_Ratio___neg__ T.kb_Ratio___neg___1 (hr.mono (by decide)) hp) o_neg) (d_ix x_ix (dv 0) d_int (fun _ _ => rfl))) (a_cons (d_op o_sub d_int (d_ix x_ix (dv 0) d_int (fun _ _ => rfl))) a_nil))))), ?_⟩
  clear hp ho hr G_Ratio___neg__
  rintro ds M k x hl ⟨⟨a, b, i⟩, rfl, n1, s1, q⟩
  refine ⟨_, rfl, _, rfl, ⟨_, rfl⟩, a, b, rfl, by have := n1.pos; simp only at this; omega, s1.b.lg, ?_⟩
  refine ⟨_, rfl, _, rfl, Nat.le_of_ble_eq_true rfl, ?_⟩
  rw [RT.nrm_of_nf (nf_neg n1)]
  exact q
def ph_least_integer (cl : Nat → Addr) : Ct := fun ds M k _ => ∃ c : RT.Cut, ds = [cutD cl c] ∧ RT.Nf c.a c.b ∧ CSm c ∧ k (.int (RT.least c)) M
theorem div_lg {i j : Int} (h : j ≠ 0) (l : Lg j) : DL.DivOk i j := ⟨h, by unfold Lg at l; omega⟩
theorem ok_least_integer {K : PySem.W.Frag} {mg : Str → Option Value} {ad : Nat → Addr} {fd : Nat → FuncData} {cl : Nat → Addr} {P : Program} {w : World} {base : Heap} (T : Txt K mg ad fd cl) : FnOk P w K mg base (L2.CX P w) 3 (ad 14) (fd 14) ["cut"] (spD K 1 (ph_least_integer cl)) := by
  have G_Ratio_top := ok_Ratio_top (P := P) (w := w) (base := base) T
  have G_Ratio_bottom := ok_Ratio_bottom (P := P) (w := w) (base := base) T
  refine fn_D T.F_least_integer sc_least_integer rfl fun cdv A outer s H E hr hp ho => ⟨_, (b_cons (s_set (i := 1) sc_least_integer.nd rfl (Or.inl rfl) (d_ix x_ix (dv 0) d_int (fun _ _ => rfl)))
  (b_cons (s_if (t_cmp (o_eq hr.units) (d_ix x_ix (dv 0) d_int (fun _ _ => rfl)) d_int (nomark _)) (b_one (s_ret (d_un o_neg (d_op o_fdiv (d_un o_neg (d_propE (dv 1) T.ci_Ratio.cl T.pp_Ratio_top G_Ratio_top (hr.mono (by decide)) T.bb_Ratio_top)) (d_propE (dv 1) T.ci_Ratio.cl T.pp_Ratio_bottom G_Ratio_bottom (hr.mono (by decide)) T.bb_Ratio_bottom))))) b_nil)
  (b_one (s_ret (d_op o_add (d_op o_fdiv (d_propE (dv 1) T.ci_Ratio.cl T.pp_Ratio_top G_Ratio_top (hr.mono (by decide)) T.bb_Ratio_top) (d_propE (dv 1) T.ci_Ratio.cl T.pp_Ratio_bottom G_Ratio_bottom (hr.mono (by decide)) T.bb_Ratio_bottom)) d_int))))), ?_⟩
  clear hp ho hr G_Ratio_top G_Ratio_bottom
  rintro ds M k x hl ⟨⟨a, b, i⟩, rfl, n1, s1, q⟩
  have b0 : b ≠ 0 := by have := n1.pos; simp only at this; omega
  refine ⟨_, rfl, _, rfl, ?_⟩
  refine ⟨_, rfl, _, rfl, eqI ⟨_, rfl, ?_⟩⟩
  refine ite_b (fun e => ?_) (fun e => ?_)
  · have e := of_decide_eq_true e
    refine ⟨_, rfl, ⟨_, rfl⟩, a, b, rfl, _, rfl, ⟨_, rfl⟩, a, b, rfl, div_lg b0 s1.b.lg, ?_⟩
    unfold RT.least at q
    rw [if_pos e] at q
    exact q
  · have e : ¬ i = 0 := of_decide_eq_false e
    refine ⟨_, rfl, ⟨_, rfl⟩, a, b, rfl, _, rfl, ⟨_, rfl⟩, a, b, rfl, div_lg b0 s1.b.lg, ?_⟩
    unfold RT.least at q
    rw [if_neg e] at q
    exact q
def ph_inverse (cl : Nat → Addr) : Ct := fun ds M k _ => ∃ a b : Int, ds = [rat cl a b] ∧ a ≠ 0 ∧ Lg a ∧ k (rat cl (RT.nrm b a).1 (RT.nrm b a).2) M
theorem ok_inverse {K : PySem.W.Frag} {mg : Str → Option Value} {ad : Nat → Addr} {fd : Nat → FuncData} {cl : Nat → Addr} {P : Program} {w : World} {base : Heap} (T : Txt K mg ad fd cl) : FnOk P w K mg base (L2.CX P w) 5 (ad 15) (fd 15) ["ratio"] (spD K 1 (ph_inverse cl)) := by
  have G_Ratio___init__ := ok_Ratio___init__ (P := P) (w := w) (base := base) T
  have G_Ratio_bottom := ok_Ratio_bottom (P := P) (w := w) (base := base) T
  have G_Ratio_top := ok_Ratio_top (P := P) (w := w) (base := base) T
  refine fn_D T.F_inverse sc_inverse rfl fun cdv A outer s H E hr hp ho => ⟨_, (b_one (s_ret (d_make T.mk_Ratio G_Ratio___init__ (hr.mono (by decide)) rfl T.m_Ratio T.kb_Ratio___init___3 (fun us ws h1 h2 => match us, ws, h1, h2 with | [_, _, _], [], _, _ => rfl) hp (a_cons (d_propE (dv 0) T.ci_Ratio.cl T.pp_Ratio_bottom G_Ratio_bottom (hr.mono (by decide)) T.bb_Ratio_bottom) (a_cons (d_propE (dv 0) T.ci_Ratio.cl T.pp_Ratio_top G_Ratio_top (hr.mono (by decide)) T.bb_Ratio_top) a_nil)) k_nil))), ?_⟩
  clear hp ho hr G_Ratio___init__ G_Ratio_bottom G_Ratio_top
  rintro ds M k x hl ⟨a, b, rfl, h1, h2, q⟩
  refine ⟨_, rfl, ⟨_, rfl⟩, a, b, rfl, ?_⟩
  refine ⟨_, rfl, ⟨_, rfl⟩, a, b, rfl, ?_⟩
  exact ⟨rfl, rfl, mkR (fun _ => rfl) h1 h2 q⟩

end W08
set_option Elab.async false
set_option linter.all false
set_option maxRecDepth 100000
set_option maxHeartbeats 4000000
set_option pp.deepTerms false
set_option pp.deepTerms.threshold 12
set_option pp.maxSteps 4000
namespace W08
open PySem PySem.Spec PyProof.Rows L2 DL
local macro_rules | `(tactic| walk_at "sc") => `(tactic| first | assumption | rfl | exact Nat.le_of_ble_eq_true rfl | decide | omega | exact mul_small (by omega) (by omega) | exact mul_smallR (by omega) (by omega) | exact ⟨by decide, by decide, by decide⟩ | exact ⟨by omega, by assumption⟩ | exact ⟨by decide, log2_small (by decide) (by decide)⟩)
local macro_rules | `(tactic| walk_at "go1") => `(tactic| first | refine ⟨_, rfl, ?_⟩ | refine ⟨rfl, ?_⟩ | refine ⟨_, by assumption, ?_⟩ | refine ⟨_, mup_same, ?_⟩ | refine eqI ?_ | refine neI ?_ | refine iteT ?_ | refine iteF ?_ | refine ⟨(by walk_at "sc"), ?_⟩)
local macro_rules | `(tactic| walk_at "go") => `(tactic| repeat walk_at "go1")
def lastD (cl : Nat → Addr) : Option RT.Cut → D
  | none => .non
  | some c => cutD cl c
def ph_simplest_positive (cl : Nat → Addr) : Ct := fun ds M k _ => ∃ (f : RT.Cut) (l : Option RT.Cut), ds = [cutD cl f, lastD cl l] ∧ RT.IOk f l ∧ RT.Pos f ∧ RT.Sz BB f l ∧ ∀ p q : Int, RT.Best f l p q → k (rat cl p q) M
theorem bb_lt : (2 * BB + 1 : Int) < 2 ^ 1000 := by unfold BB; decide
theorem csm_f {f : RT.Cut} {l : Option RT.Cut} (h : RT.IOk f l) (z : RT.Sz BB f l) : CSm f := ⟨Sm.of h.f0 z.1 (by unfold BB; decide), Sm.of (Int.le_of_lt h.cf.nf.pos) z.2.1 (by unfold BB; decide)⟩
theorem csm_l {f c : RT.Cut} (h : RT.IOk f (some c)) (z : RT.Sz BB f (some c)) : CSm c := ⟨Sm.of (RT.last_nonneg h) (z.2.2 c rfl).1 (by unfold BB; decide), Sm.of (Int.le_of_lt (h.cl c rfl).1.nf.pos) (z.2.2 c rfl).2 (by unfold BB; decide)⟩
theorem least_sm {f : RT.Cut} {l : Option RT.Cut} (h : RT.IOk f l) (z : RT.Sz BB f l) (p : RT.Pos f) : Sm (RT.least f) := by
  have h1 := RT.least_pos h.cf h.f0 p
  have b0 := h.cf.nf.pos
  have h2 : RT.least f ≤ f.a + 1 := RT.least_le h.cf (by
    left
    have f0 := h.f0
    have : (f.a + 1) * 1 ≤ (f.a + 1) * f.b := Int.mul_le_mul_of_nonneg_left (by omega) (by omega)
    omega)
  exact Sm.of (Int.le_of_lt h1) (B := BB + 1) (by have := z.1; omega) (by unfold BB; decide)
/-- the state of the search -/
structure SpS (M : Mm) (p : Addr) (f0 : RT.Cut) (l0 : Option RT.Cut) (ws : List Int) (f : RT.Cut) (l : Option RT.Cut) : Prop where
  ch : RT.Chain BB f0 l0 ws f l
  ok : RT.IOk f l
  po : RT.Pos f
  sz : RT.Sz BB f l
  le : RT.LenOk BB ws.length f l
def SpR (cl : Nat → Addr) (M : Mm) (p : Addr) (ws : List Int) (f : RT.Cut) (l : Option RT.Cut) (r4 r5 r6 r7 r8 : Option D) (ρ : DEnv) (M' : Mm) : Prop := M' = mup M p (.lst (ws.map .int)) ∧ ρ = [some (cutD cl f), some (lastD cl l), some (.cel p), some (.int (RT.least f)), r4, r5, r6, r7, r8]
theorem ok_simplest_positive {K : PySem.W.Frag} {mg : Str → Option Value} {ad : Nat → Addr} {fd : Nat → FuncData} {cl : Nat → Addr} {P : Program} {w : World} {base : Heap} (T : Txt K mg ad fd cl) : FnOk P w K mg base (L2.CX P w) 7 (ad 16) (fd 16) ["first", "last"] (spD K 2 (ph_simplest_positive cl)) := by
  have G_least_integer := ok_least_integer (P := P) (w := w) (base := base) T
  have G_is_before := ok_is_before (P := P) (w := w) (base := base) T
  have G_Ratio___init__ := ok_Ratio___init__ (P := P) (w := w) (base := base) T
  have G_Ratio_top := ok_Ratio_top (P := P) (w := w) (base := base) T
  have G_Ratio_bottom := ok_Ratio_bottom (P := P) (w := w) (base := base) T
  have G_Ratio___sub__ := ok_Ratio___sub__ (P := P) (w := w) (base := base) T
  have G_Ratio___bool__ := ok_Ratio___bool__ (P := P) (w := w) (base := base) T
  have G_inverse := ok_inverse (P := P) (w := w) (base := base) T
  have G_Ratio___add__ := ok_Ratio___add__ (P := P) (w := w) (base := base) T
  refine fn_D T.F_simplest_positive sc_simplest_positive rfl fun cdv A outer s H E hr hp ho => ⟨_, (b_cons (s_par (i := 2) (j := 3) rfl sc_simplest_positive.nd rfl rfl (by decide) rfl rfl (a_cons (d_lstM a_nil) (a_cons (d_call G_least_integer (hr.mono (by decide)) rfl T.m_least_integer T.k_least_integer T.kb_least_integer_1 (by intro _ _ h _; exact h) hp (a_cons (dv 0) a_nil)) a_nil)) rfl)
  (b_cut (s_while ho (DPW.t (w_and (t_cmp o_isNotN (dv 1) d_non (nomark _)) (w_and1 (t_not (t_val (d_call G_is_before (hr.mono (by decide)) rfl T.m_is_before T.k_is_before T.kb_is_before_2 (by intro _ _ h _; exact h) hp (a_cons (d_tup (a_cons (d_make T.mk_Ratio G_Ratio___init__ (hr.mono (by decide)) rfl T.m_Ratio T.kb_Ratio___init___2 (fun us ws h1 h2 => match us, ws, h1, h2 with | [_, _], [], _, _ => rfl) hp (a_cons (dv 3) a_nil) k_nil) (a_cons d_int a_nil))) (a_cons (dv 1) a_nil))))))))
  (b_cons (s_set (i := 4) sc_simplest_positive.nd rfl (Or.inl rfl) (d_op o_fdiv (d_propE (d_ix x_ix (dv 0) d_int (fun _ _ => rfl)) T.ci_Ratio.cl T.pp_Ratio_top G_Ratio_top (hr.mono (by decide)) T.bb_Ratio_top) (d_propE (d_ix x_ix (dv 0) d_int (fun _ _ => rfl)) T.ci_Ratio.cl T.pp_Ratio_bottom G_Ratio_bottom (hr.mono (by decide)) T.bb_Ratio_bottom)))
  (b_cons (s_par (i := 5) (j := 6) rfl sc_simplest_positive.nd rfl rfl (by decide) rfl rfl (a_cons (d_op (o_sel (o_own T.sp_Ratio___sub__ T.fn_Ratio___sub__ T.sf_Ratio G_Ratio___sub__ T.kb_Ratio___sub___2 (hr.mono (by decide)) hp) o_sub) (d_ix x_ix (dv 0) d_int (fun _ _ => rfl)) (d_make T.mk_Ratio G_Ratio___init__ (hr.mono (by decide)) rfl T.m_Ratio T.kb_Ratio___init___2 (fun us ws h1 h2 => match us, ws, h1, h2 with | [_, _], [], _, _ => rfl) hp (a_cons (dv 4) a_nil) k_nil)) (a_cons (d_op (o_sel (o_own T.sp_Ratio___sub__ T.fn_Ratio___sub__ T.sf_Ratio G_Ratio___sub__ T.kb_Ratio___sub___2 (hr.mono (by decide)) hp) o_sub) (d_ix x_ix (dv 1) d_int (fun _ _ => rfl)) (d_make T.mk_Ratio G_Ratio___init__ (hr.mono (by decide)) rfl T.m_Ratio T.kb_Ratio___init___2 (fun us ws h1 h2 => match us, ws, h1, h2 with | [_, _], [], _, _ => rfl) hp (a_cons (dv 4) a_nil) k_nil)) a_nil)) rfl)
  (b_cut (s_set (i := 7) sc_simplest_positive.nd rfl (Or.inl rfl) (d_if (t_own T.sp_Ratio___bool__ T.fn_Ratio___bool__ G_Ratio___bool__ T.kb_Ratio___bool___1 (hr.mono (by decide)) hp (dv 5)) (d_tup (a_cons (d_call G_inverse (hr.mono (by decide)) rfl T.m_inverse T.k_inverse T.kb_inverse_1 (by intro _ _ h _; exact h) hp (a_cons (dv 5) a_nil)) (a_cons (d_op (o_sel (o_own T.sp_Ratio___sub__ T.fn_Ratio___sub__ T.sf_Ratio G_Ratio___sub__ T.kb_Ratio___sub___2 (hr.mono (by decide)) hp) o_sub) d_int (d_ix x_ix (dv 0) d_int (fun _ _ => rfl))) a_nil))) d_non))
  (b_cons (s_par (i := 0) (j := 1) rfl sc_simplest_positive.nd rfl rfl (by decide) rfl rfl (a_cons (d_tup (a_cons (d_call G_inverse (hr.mono (by decide)) rfl T.m_inverse T.k_inverse T.kb_inverse_1 (by intro _ _ h _; exact h) hp (a_cons (dv 6) a_nil)) (a_cons (d_op (o_sel (o_own T.sp_Ratio___sub__ T.fn_Ratio___sub__ T.sf_Ratio G_Ratio___sub__ T.kb_Ratio___sub___2 (hr.mono (by decide)) hp) o_sub) d_int (d_ix x_ix (dv 1) d_int (fun _ _ => rfl))) a_nil))) (a_cons (dv 7) a_nil)) rfl)
  (b_cons (s_expr (d_bm PySem.F.plainAttrs_list PySem.F.slot_list_append PySem.F.type_list_append m_append (dv 2) (a_cons (dv 4) a_nil)))
  (b_one (s_set (i := 3) sc_simplest_positive.nd rfl (Or.inl rfl) (d_call G_least_integer (hr.mono (by decide)) rfl T.m_least_integer T.k_least_integer T.kb_least_integer_1 (by intro _ _ h _; exact h) hp (a_cons (dv 0) a_nil))))))))))
  (b_cons (s_set (i := 8) sc_simplest_positive.nd rfl (Or.inl rfl) (d_make T.mk_Ratio G_Ratio___init__ (hr.mono (by decide)) rfl T.m_Ratio T.kb_Ratio___init___2 (fun us ws h1 h2 => match us, ws, h1, h2 with | [_, _], [], _, _ => rfl) hp (a_cons (dv 3) a_nil) k_nil))
  (b_cons (s_for ho rfl (i_seq (d_rev (dv 2))) (g_name (i := 4) sc_simplest_positive.nd rfl (Or.inl rfl))
  (b_one (s_set (i := 8) sc_simplest_positive.nd rfl (Or.inl rfl) (d_op (o_sel (o_own T.sp_Ratio___add__ T.fn_Ratio___add__ T.sf_Ratio G_Ratio___add__ T.kb_Ratio___add___2 (hr.mono (by decide)) hp) o_add) (d_make T.mk_Ratio G_Ratio___init__ (hr.mono (by decide)) rfl T.m_Ratio T.kb_Ratio___init___2 (fun us ws h1 h2 => match us, ws, h1, h2 with | [_, _], [], _, _ => rfl) hp (a_cons (dv 4) a_nil) k_nil) (d_call G_inverse (hr.mono (by decide)) rfl T.m_inverse T.k_inverse T.kb_inverse_1 (by intro _ _ h _; exact h) hp (a_cons (dv 8) a_nil))))))
  (b_one (s_retD (dv 8))))))), ?_⟩
  clear hp ho hr G_least_integer G_is_before G_Ratio___init__ G_Ratio_top G_Ratio_bottom G_Ratio___sub__ G_Ratio___bool__ G_inverse G_Ratio___add__
  rintro ds M k x hl ⟨f0, l0, rfl, hi0, hp0, hz0, q⟩
  refine ⟨Nat.zero_le _, fun p hp => ?_⟩
  refine ⟨_, rfl, rfl, f0, rfl, hi0.cf.nf, csm_f hi0 hz0, _, _, rfl, ?_⟩
  refine ⟨fun ρ M' => ∃ ws f l r4 r5 r6 r7 r8, SpS M p f0 l0 ws f l ∧ RT.Best f l (RT.least f) 1 ∧ SpR cl M p ws f l r4 r5 r6 r7 r8 ρ M', ?_, ?_⟩
  · refine WhK.of (fun m ρ M' => ∃ ws f l r4 r5 r6 r7 r8, SpS M p f0 l0 ws f l ∧ ws.length + m = 1000 ∧ SpR cl M p ws f l r4 r5 r6 r7 r8 ρ M') ⟨1000, [], f0, l0, _, _, _, _, _, ⟨.nil, hi0, hp0, hz0, fun c e => ⟨?_, fun _ => hz0.2.1, fun z => absurd z (by decide)⟩⟩, rfl, rfl, rfl⟩ ?_
    · show 2 ^ 0 * c.b ≤ BB
      rw [Int.pow_zero, Int.one_mul]
      exact (hz0.2.2 c e).2
    · rintro m ρ M' ⟨ws, f, l, r4, r5, r6, r7, r8, S, hm, rfl, rfl⟩
      have hi := S.ok
      have hz := S.sz
      have n0 := RT.least_pos hi.cf hi.f0 S.po
      have nfn : RT.Nf (RT.least f) 1 := RT.nf_one
      cases l with
      | none =>
        refine ⟨_, rfl, rfl, _, rfl, iteF (iteF ?_)⟩
        exact ⟨ws, f, none, _, _, _, _, _, S, RT.best_base hi n0 (fun c e => nomatch e), rfl, rfl⟩
      | some c =>
        have cf := csm_f hi hz
        have cc := csm_l hi hz
        obtain ⟨hc, hlt⟩ := hi.cl c rfl
        refine ⟨_, rfl, rfl, _, rfl, iteT ?_⟩
        refine ⟨_, rfl, rfl, rfl, mkR (a := RT.least f) (b := 1) (fun _ => rfl) (by decide) lg_one ?_⟩
        rw [RT.nrm_of_nf nfn]
        refine ⟨Nat.le_of_ble_eq_true rfl, _, rfl, rfl, ⟨RT.least f, 1, 0⟩, c, rfl, nfn, hc.nf, ⟨least_sm hi hz S.po, sm_one⟩, cc, _, rfl, ?_⟩
        refine ite_b (fun e => ?_) (fun e => ?_)
        · have hn : ¬ RT.Cut.lt ⟨RT.least f, 1, 0⟩ c := of_decide_eq_false (by simpa using e)
          have b0 := hi.cf.nf.pos
          have d0 := hc.nf.pos
          obtain ⟨w0, t1, t2, t3, t4, t5⟩ := RT.turn_num hi hn
          have T := RT.Turn.mk (f := f) (c := c) rfl rfl rfl
          have hi' := RT.turn_ok hi hn T
          obtain ⟨hz', _, wB⟩ := hz.turn hi hn T
          have le' := S.le.turn hi hn T
          have few := S.le.few d0 (m := 201) (by unfold BB; decide)
          have sw : Sm (f.a.fdiv f.b) := Sm.of w0 wB (by unfold BB; decide)
          refine ⟨_, rfl, _, rfl, ⟨_, rfl⟩, f.a, f.b, rfl, _, rfl, _, rfl, ⟨_, rfl⟩, f.a, f.b, rfl, div_lg (by omega) cf.b.lg, ?_⟩
          refine ⟨_, rfl, _, rfl, _, rfl, rfl, rfl, mkR (a := f.a.fdiv f.b) (b := 1) (fun _ => rfl) (by decide) lg_one ?_⟩
          rw [RT.nrm_of_nf RT.nf_one]
          refine ⟨⟨_, rfl⟩, ⟨_, rfl⟩, f.a, f.b, f.a.fdiv f.b, 1, rfl, cf.a.mul sm_one, sw.mul cf.b, cf.b.mul sm_one, by rw [Int.mul_one]; omega, cf.b.lgm sm_one, ?_⟩
          rw [RT.nrm_int hi.cf.nf]
          refine ⟨_, rfl, _, rfl, _, rfl, rfl, rfl, mkR (a := f.a.fdiv f.b) (b := 1) (fun _ => rfl) (by decide) lg_one ?_⟩
          rw [RT.nrm_of_nf RT.nf_one]
          refine ⟨⟨_, rfl⟩, ⟨_, rfl⟩, c.a, c.b, f.a.fdiv f.b, 1, rfl, cc.a.mul sm_one, sw.mul cc.b, cc.b.mul sm_one, by rw [Int.mul_one]; omega, cc.b.lgm sm_one, ?_⟩
          rw [RT.nrm_int hc.nf]
          refine ⟨_, _, rfl, ?_⟩
          have z1 : Sm (f.a - f.a.fdiv f.b * f.b) := Sm.of t2 (B := BB) (by have := hz.2.1; omega) (by unfold BB; decide)
          have z2 : Sm (c.a - f.a.fdiv f.b * c.b) := Sm.of (by omega) (B := BB) (by have := hz'.2.1; simp only at this; exact this) (by unfold BB; decide)
          refine ⟨fun ρ M' => M' = mup M p (.lst (ws.map .int)) ∧ ρ = [some (cutD cl f), some (cutD cl c), some (.cel p), some (.int (RT.least f)), some (.int (f.a.fdiv f.b)), some (rat cl (f.a - f.a.fdiv f.b * f.b) f.b), some (rat cl (c.a - f.a.fdiv f.b * c.b) c.b), some (lastD cl (if f.a - f.a.fdiv f.b * f.b = 0 then none else some ⟨f.b, f.a - f.a.fdiv f.b * f.b, 1 - f.k⟩)), r8], ?_, ?_⟩
          · refine ⟨_, rfl, ⟨_, rfl⟩, f.a - f.a.fdiv f.b * f.b, f.b, rfl, _, rfl, ?_⟩
            refine ite_b (fun e => ?_) (fun e => ?_)
            · have e : ¬ (f.a - f.a.fdiv f.b * f.b = 0) := of_decide_eq_false (by simpa using e)
              refine ⟨_, rfl, rfl, f.a - f.a.fdiv f.b * f.b, f.b, rfl, e, z1.lg, ?_⟩
              rw [RT.nrm_of_nf ⟨by omega, by rw [Int.gcd_comm, RT.gcd_sub]; exact hi.cf.nf.one⟩]
              refine ⟨_, rfl, _, rfl, Nat.le_of_ble_eq_true rfl, rfl, ?_⟩
              rw [if_neg e]
              rfl
            · have e : f.a - f.a.fdiv f.b * f.b = 0 := of_decide_eq_true (by simpa using e)
              refine ⟨rfl, ?_⟩
              rw [if_pos e]
              rfl
          · rintro ρ M' ⟨rfl, rfl⟩
            refine ⟨_, rfl, rfl, c.a - f.a.fdiv f.b * c.b, c.b, rfl, by omega, z2.lg, ?_⟩
            rw [RT.nrm_of_nf ⟨by omega, by rw [Int.gcd_comm, RT.gcd_sub]; exact hc.nf.one⟩]
            refine ⟨_, rfl, _, rfl, Nat.le_of_ble_eq_true rfl, _, rfl, _, _, rfl, ?_⟩
            refine ⟨_, rfl, ⟨rfl, _, mup_same⟩, _, rfl, _, mup_same, ?_, ?_⟩
            · rw [List.length_map]
              exact Nat.lt_trans few (by decide)
            refine ⟨_, rfl, rfl, ⟨c.b, c.a - f.a.fdiv f.b * c.b, 1 - c.k⟩, rfl, hi'.cf.nf, csm_f hi' hz', m - 1, by omega, ?_⟩
            refine ⟨ws ++ [f.a.fdiv f.b], ⟨c.b, c.a - f.a.fdiv f.b * c.b, 1 - c.k⟩, (if f.a - f.a.fdiv f.b * f.b = 0 then none else some ⟨f.b, f.a - f.a.fdiv f.b * f.b, 1 - f.k⟩), _, _, _, _, _, ⟨.snoc S.ch hi S.po hn T hz, hi', .inl d0, hz', ?_⟩, ?_, ?_, rfl⟩
            · rw [List.length_append]; exact le'
            · rw [List.length_append]
              show ws.length + 1 + (m - 1) = 1000
              omega
            · rw [mup_mup, List.map_append]
              rfl
        · have hn : RT.Cut.lt ⟨RT.least f, 1, 0⟩ c := of_decide_eq_true (by simpa using e)
          exact ⟨ws, f, some c, _, _, _, _, _, S, RT.best_base hi n0 (fun c' e' => by cases e'; exact hn), rfl, rfl⟩
  · rintro ρ M' ⟨ws, f, l, r4, r5, r6, r7, r8, S, B, rfl, rfl⟩
    refine ⟨_, rfl, rfl, rfl, mkR (a := RT.least f) (b := 1) (fun _ => rfl) (by decide) lg_one ?_⟩
    rw [RT.nrm_of_nf RT.nf_one]
    refine ⟨_, rfl, _, mup_same, ?_⟩
    refine ForK.of (fun j ρ M' => ∃ ws' f' l' s u r4', (ws.map D.int).reverse.drop j = (ws'.map D.int).reverse ∧ RT.Chain BB f0 l0 ws' f' l' ∧ RT.Best f' l' s u ∧ (s ≤ 2 * BB + 1 ∧ u ≤ 2 * BB + 1) ∧ M' = mup M p (.lst (ws.map .int)) ∧ ρ = [some (cutD cl f), some (lastD cl l), some (.cel p), some (.int (RT.least f)), r4', r5, r6, r7, some (rat cl s u)]) ?_ ?_ ?_
    · exact ⟨ws, f, l, _, _, _, rfl, S.ch, B, RT.best_sz S.ok S.sz B, rfl, rfl⟩
    · rintro j d ρ M' hd ⟨ws', f', l', s, u, r4', hdr, ch, bst, ⟨zs, zu⟩, rfl, rfl⟩
      cases ch with
      | nil =>
        exfalso
        have : (List.map D.int ws).reverse.length ≤ j := List.drop_eq_nil_iff.mp hdr
        rw [List.getElem?_eq_none this] at hd
        cases hd
      | @snoc ws2 f2 c2 _ _ w h2 hi2 hp2 hn2 t2 z2 =>
        rw [List.map_append, List.reverse_append] at hdr
        have e0 : ((List.map D.int ws).reverse.drop j)[0]? = some (.int w) := by rw [hdr]; rfl
        rw [List.getElem?_drop, Nat.add_zero, hd] at e0
        cases e0
        have e1 : (List.map D.int ws).reverse.drop (j + 1) = (ws2.map D.int).reverse := by
          rw [← List.drop_drop, hdr]
          rfl
        have s0 := bst.p0
        have u0 := bst.q0
        have ss : Sm s := Sm.of (Int.le_of_lt s0) zs bb_lt
        have su : Sm u := Sm.of (Int.le_of_lt u0) zu bb_lt
        obtain ⟨_, w0, wB⟩ := z2.turn hi2 hn2 t2
        have sw : Sm w := Sm.of w0 wB (by unfold BB; decide)
        have bst2 := RT.best_turn hi2 hn2 t2 bst
        refine ⟨_, rfl, rfl, rfl, mkR (a := w) (b := 1) (fun _ => rfl) (by decide) lg_one ?_⟩
        rw [RT.nrm_of_nf RT.nf_one]
        refine ⟨_, rfl, rfl, s, u, rfl, by omega, ss.lg, ?_⟩
        rw [RT.nrm_of_nf ⟨s0, by rw [Int.gcd_comm]; exact bst.one⟩]
        refine ⟨⟨_, rfl⟩, ⟨_, rfl⟩, w, 1, u, s, rfl, sw.mul ss, su.mul sm_one, sm_one.mul ss, by rw [Int.one_mul]; omega, sm_one.lgm ss, ?_⟩
        rw [Int.one_mul, Int.mul_one, RT.nrm_of_nf ⟨bst2.q0, bst2.one⟩]
        exact ⟨ws2, f2, some c2, _, _, _, e1, h2, bst2, RT.best_sz hi2 z2 bst2, rfl, rfl⟩
    · rintro ρ M' ⟨ws', f', l', s, u, r4', hdr, ch, bst, _, rfl, rfl⟩
      have e : ws' = [] := by
        rw [List.drop_eq_nil_of_le (Nat.le_refl _)] at hdr
        have := congrArg List.length hdr
        simp at this
        exact List.eq_nil_of_length_eq_zero this.symm
      obtain ⟨rfl, rfl⟩ := ch.empty e
      refine ⟨_, rfl, ?_⟩
      show k _ (mres (mup M p _) M)
      rw [mres_mup hp]
      exact q _ _ bst
theorem mir_rt (c : RT.Cut) : mir c = RT.mir c := rfl
def ph_simplest_between (cl : Nat → Addr) : Ct := fun ds M k _ => ∃ f c : RT.Cut, ds = [cutD cl f, cutD cl c] ∧ f.Ok ∧ c.Ok ∧ RT.Cut.lt f c ∧ RT.CB BB f ∧ RT.CB BB c ∧ ∀ p q : Int, RT.Best2 f c p q → k (rat cl p q) M
theorem ok_simplest_between {K : PySem.W.Frag} {mg : Str → Option Value} {ad : Nat → Addr} {fd : Nat → FuncData} {cl : Nat → Addr} {P : Program} {w : World} {base : Heap} (T : Txt K mg ad fd cl) : FnOk P w K mg base (L2.CX P w) 9 (ad 17) (fd 17) ["first", "last"] (spD K 2 (ph_simplest_between cl)) := by
  have G_is_before := ok_is_before (P := P) (w := w) (base := base) T
  have G_zero := ok_zero (P := P) (w := w) (base := base) T
  have G_Ratio___neg__ := ok_Ratio___neg__ (P := P) (w := w) (base := base) T
  have G_simplest_positive := ok_simplest_positive (P := P) (w := w) (base := base) T
  have G_mirrored := ok_mirrored (P := P) (w := w) (base := base) T
  refine fn_D T.F_simplest_between sc_simplest_between rfl fun cdv A outer s H E hr hp ho => ⟨_, (b_cons (s_if (t_val (d_call G_is_before (hr.mono (by decide)) rfl T.m_is_before T.k_is_before T.kb_is_before_2 (by intro _ _ h _; exact h) hp (a_cons (dv 0) (a_cons (d_tup (a_cons (d_call0 G_zero (hr.mono (by decide)) rfl T.m_zero T.k_zero T.kb_zero_0 rfl hp) (a_cons d_int a_nil))) a_nil)))) (b_cons (s_if (t_val (d_call G_is_before (hr.mono (by decide)) rfl T.m_is_before T.k_is_before T.kb_is_before_2 (by intro _ _ h _; exact h) hp (a_cons (d_tup (a_cons (d_call0 G_zero (hr.mono (by decide)) rfl T.m_zero T.k_zero T.kb_zero_0 rfl hp) (a_cons d_int a_nil))) (a_cons (dv 1) a_nil)))) (b_one (s_ret (d_call0 G_zero (hr.mono (by decide)) rfl T.m_zero T.k_zero T.kb_zero_0 rfl hp))) b_nil)
  (b_one (s_ret (d_un (o_sel1 (o_ownNeg T.sp_Ratio___neg__ T.fn_Ratio___neg__ G_Ratio___neg__ T.kb_Ratio___neg___1 (hr.mono (by decide)) hp) o_neg) (d_call G_simplest_positive (hr.mono (by decide)) rfl T.m_simplest_positive T.k_simplest_positive T.kb_simplest_positive_2 (by intro _ _ h _; exact h) hp (a_cons (d_call G_mirrored (hr.mono (by decide)) rfl T.m_mirrored T.k_mirrored T.kb_mirrored_1 (by intro _ _ h _; exact h) hp (a_cons (dv 1) a_nil)) (a_cons (d_call G_mirrored (hr.mono (by decide)) rfl T.m_mirrored T.k_mirrored T.kb_mirrored_1 (by intro _ _ h _; exact h) hp (a_cons (dv 0) a_nil)) a_nil))))))) b_nil)
  (b_one (s_ret (d_call G_simplest_positive (hr.mono (by decide)) rfl T.m_simplest_positive T.k_simplest_positive T.kb_simplest_positive_2 (by intro _ _ h _; exact h) hp (a_cons (dv 0) (a_cons (dv 1) a_nil)))))), ?_⟩
  clear hp ho hr G_is_before G_zero G_Ratio___neg__ G_simplest_positive G_mirrored
  rintro ds M k x hl ⟨f, c, rfl, hf, hc, hlt, zf, zc, q⟩
  have cf := csm_b hf zf
  have cc := csm_b hc zc
  have cz : ∀ i, CSm ⟨0, 1, i⟩ := fun i => ⟨show Sm 0 from by unfold Sm; decide, sm_one⟩
  refine ⟨_, rfl, rfl, rfl, Nat.le_of_ble_eq_true rfl, rfl, f, ⟨0, 1, 1⟩, rfl, hf.nf, RT.nf_one, cf, cz 1, _, rfl, ?_⟩
  refine ite_b (fun e => ?_) (fun e => ?_)
  · have e := of_decide_eq_true e
    refine ⟨rfl, rfl, Nat.le_of_ble_eq_true rfl, _, rfl, rfl, ⟨0, 1, 0⟩, c, rfl, RT.nf_one, hc.nf, cz 0, cc, _, rfl, ?_⟩
    refine ite_b (fun e2 => ?_) (fun e2 => ?_)
    · have e2 := of_decide_eq_true e2
      exact ⟨rfl, rfl, q _ _ (RT.two_zero hf hc e e2)⟩
    · have e2 : ¬ RT.Cut.lt ⟨0, 1, 0⟩ c := of_decide_eq_false e2
      obtain ⟨i1, i2, i3⟩ := RT.two_neg hf hc hlt e2
      refine ⟨_, rfl, rfl, c, rfl, hc.nf, cc, ?_⟩
      refine ⟨_, rfl, rfl, f, rfl, hf.nf, cf, rfl, RT.mir c, some (RT.mir f), rfl, i1, i2, zc.mir.sz zf.mir, fun p' q' b' => ?_⟩
      have := RT.best_sz i1 (zc.mir.sz zf.mir) b'
      have q0 := b'.q0
      refine ⟨⟨_, rfl⟩, p', q', rfl, by omega, (Sm.of (Int.le_of_lt q0) this.2 bb_lt).lg, ?_⟩
      have b2 := i3 _ _ b'
      rw [RT.nrm_of_nf ⟨b2.q0, b2.one⟩]
      exact q _ _ b2
  · have e : ¬ RT.Cut.lt f ⟨0, 1, 1⟩ := of_decide_eq_false e
    obtain ⟨i1, i2, i3⟩ := RT.two_pos hf hc hlt e
    exact ⟨_, rfl, _, rfl, rfl, f, some c, rfl, i1, i2, zf.sz zc, fun p' q' b' => q _ _ (i3 _ _ b')⟩
def ph_later_cut (cl : Nat → Addr) : Ct := fun ds M k _ => ∃ f l : SP.OC, ds = [cutD cl f.1, cutD cl l.1] ∧ CBo f ∧ CBo l ∧ k (cutD cl (SP.mx f l).1) M
theorem ok_later_cut {K : PySem.W.Frag} {mg : Str → Option Value} {ad : Nat → Addr} {fd : Nat → FuncData} {cl : Nat → Addr} {P : Program} {w : World} {base : Heap} (T : Txt K mg ad fd cl) : FnOk P w K mg base (L2.CX P w) 5 (ad 18) (fd 18) ["one", "other"] (spD K 2 (ph_later_cut cl)) := by
  have G_is_before := ok_is_before (P := P) (w := w) (base := base) T
  refine fn_D T.F_later_cut sc_later_cut rfl fun cdv A outer s H E hr hp ho => ⟨_, (b_one (s_ret (d_if (t_val (d_call G_is_before (hr.mono (by decide)) rfl T.m_is_before T.k_is_before T.kb_is_before_2 (by intro _ _ h _; exact h) hp (a_cons (dv 0) (a_cons (dv 1) a_nil)))) (dv 1) (dv 0)))), ?_⟩
  clear hp ho hr G_is_before
  rintro ds M k x hl ⟨f, l, rfl, zf, zl, q⟩
  refine ⟨_, rfl, _, rfl, rfl, f.1, l.1, rfl, f.2.nf, l.2.nf, csm_o zf, csm_o zl, _, rfl, ?_⟩
  unfold SP.mx at q
  refine ite_b (fun e => ?_) (fun e => ?_)
  · have e : SP.Lin.lt f l := of_decide_eq_true e
    rw [if_pos e] at q
    exact ⟨_, rfl, q⟩
  · have e : ¬ SP.Lin.lt f l := of_decide_eq_false e
    rw [if_neg e] at q
    exact ⟨_, rfl, q⟩
def ph_earlier_cut (cl : Nat → Addr) : Ct := fun ds M k _ => ∃ f l : SP.OC, ds = [cutD cl f.1, cutD cl l.1] ∧ CBo f ∧ CBo l ∧ k (cutD cl (SP.mn f l).1) M
theorem ok_earlier_cut {K : PySem.W.Frag} {mg : Str → Option Value} {ad : Nat → Addr} {fd : Nat → FuncData} {cl : Nat → Addr} {P : Program} {w : World} {base : Heap} (T : Txt K mg ad fd cl) : FnOk P w K mg base (L2.CX P w) 5 (ad 19) (fd 19) ["one", "other"] (spD K 2 (ph_earlier_cut cl)) := by
  have G_is_before := ok_is_before (P := P) (w := w) (base := base) T
  refine fn_D T.F_earlier_cut sc_earlier_cut rfl fun cdv A outer s H E hr hp ho => ⟨_, (b_one (s_ret (d_if (t_val (d_call G_is_before (hr.mono (by decide)) rfl T.m_is_before T.k_is_before T.kb_is_before_2 (by intro _ _ h _; exact h) hp (a_cons (dv 1) (a_cons (dv 0) a_nil)))) (dv 1) (dv 0)))), ?_⟩
  clear hp ho hr G_is_before
  rintro ds M k x hl ⟨f, l, rfl, zf, zl, q⟩
  refine ⟨_, rfl, _, rfl, rfl, l.1, f.1, rfl, l.2.nf, f.2.nf, csm_o zl, csm_o zf, _, rfl, ?_⟩
  unfold SP.mn at q
  refine ite_b (fun e => ?_) (fun e => ?_)
  · have e : SP.Lin.lt l f := of_decide_eq_true e
    rw [if_pos e] at q
    exact ⟨_, rfl, q⟩
  · have e : ¬ SP.Lin.lt l f := of_decide_eq_false e
    rw [if_neg e] at q
    exact ⟨_, rfl, q⟩

end W08
set_option Elab.async false
set_option linter.all false
set_option maxRecDepth 100000
set_option maxHeartbeats 4000000
set_option pp.deepTerms false
set_option pp.deepTerms.threshold 12
set_option pp.maxSteps 4000
namespace W08
open PySem PySem.Spec PyProof.Rows L2 DL
local macro_rules | `(tactic| walk_at "sc") => `(tactic| first | assumption | rfl | exact Nat.le_of_ble_eq_true rfl | decide | omega | exact mul_small (by omega) (by omega) | exact mul_smallR (by omega) (by omega) | exact ⟨by decide, by decide, by decide⟩ | exact ⟨by omega, by assumption⟩ | exact ⟨by decide, log2_small (by decide) (by decide)⟩)
local macro_rules | `(tactic| walk_at "go1") => `(tactic| first | refine ⟨_, rfl, ?_⟩ | refine ⟨rfl, ?_⟩ | refine ⟨_, by assumption, ?_⟩ | refine ⟨_, mup_same, ?_⟩ | refine eqI ?_ | refine neI ?_ | refine iteT ?_ | refine iteF ?_ | refine ⟨(by walk_at "sc"), ?_⟩)
local macro_rules | `(tactic| walk_at "go") => `(tactic| repeat walk_at "go1")
def ph_Span___init__ (cl : Nat → Addr) : Ct := fun ds M k _ => ∃ (p : Addr) (f c : RT.Cut), ds = [.cel p, rat cl f.a f.b, rat cl c.a c.b, .bl (decide (f.k = 0)), .bl (decide (c.k = 1))] ∧ M p = some (.ins (cl 1) []) ∧ f.Ok ∧ c.Ok ∧ RT.Cut.lt f c ∧ RT.CB BB f ∧ RT.CB BB c ∧ k .non (mup M p (.ins (cl 1) [("own_first", cutD cl f), ("own_last", cutD cl c)]))
theorem mkS {cl : Nat → Addr} {M : Mm} {k : DK} {x : DX} {f c : RT.Cut} {gD : List D → List D → List D} {ds zs : List D} (h : ∀ p, gD (.cel p :: ds) zs = [.cel p, rat cl f.a f.b, rat cl c.a c.b, .bl (decide (f.k = 0)), .bl (decide (c.k = 1))]) (z : RT.areaOk BB f c) (q : k (spn cl f c) M) : mkC (cl 1) (ph_Span___init__ cl) gD ds zs M k x := by
  obtain ⟨hf, hc, hl, zf, zc⟩ := z
  intro p hp
  refine ⟨p, f, c, h p, mup_same, hf, hc, hl, zf, zc, rfl, _, mup_same, ?_⟩
  rw [mup_mup, mdel_mup hp]
  exact q
theorem SpOk.ar {s : SpT} (h : SpOk s) : RT.areaOk BB s.1.1 s.2.1 := ⟨s.1.2, s.2.2, h.lt, h.f, h.l⟩
theorem ok_Span___init__ {K : PySem.W.Frag} {mg : Str → Option Value} {ad : Nat → Addr} {fd : Nat → FuncData} {cl : Nat → Addr} {P : Program} {w : World} {base : Heap} (T : Txt K mg ad fd cl) : FnOk P w K mg base (L2.CX P w) 5 (ad 20) (fd 20) ["self", "low", "high", "has_low", "has_high"] (spD K 5 (ph_Span___init__ cl)) := by
  have G_is_before := ok_is_before (P := P) (w := w) (base := base) T
  refine fn_D T.F_Span___init__ sc_Span___init__ rfl fun cdv A outer s H E hr hp ho => ⟨_, (b_cons (s_if (DPW.t (w_or (t_not (t_val (d_isiC (cl 0) (CS cl) T.isiC_Ratio T.isiB_Ratio rfl T.b_isinstance rfl T.m_Ratio (dv 1)))) (w_or1 (t_not (t_val (d_isiC (cl 0) (CS cl) T.isiC_Ratio T.isiB_Ratio rfl T.b_isinstance rfl T.m_Ratio (dv 2))))))) (b_one s_never) b_nil)
  (b_cons (s_fld [cl 1] (one_cls T.ci_Span.cl T.na_Span_own_first) (d_tup (a_cons (dv 1) (a_cons (d_if (t_val (dv 3)) d_int d_int) a_nil))) (dv 0) rfl)
  (b_cons (s_fld [cl 1] (one_cls T.ci_Span.cl T.na_Span_own_last) (d_tup (a_cons (dv 2) (a_cons (d_if (t_val (dv 4)) d_int d_int) a_nil))) (dv 0) rfl)
  (b_one (s_if (t_not (t_val (d_call G_is_before (hr.mono (by decide)) rfl T.m_is_before T.k_is_before T.kb_is_before_2 (by intro _ _ h _; exact h) hp (a_cons (d_fld [cl 1] (one_cls T.ci_Span.cl T.na_Span_own_first) (dv 0)) (a_cons (d_fld [cl 1] (one_cls T.ci_Span.cl T.na_Span_own_last) (dv 0)) a_nil))))) (b_one s_never) b_nil))))), ?_⟩
  clear hp ho hr G_is_before
  rintro ds M k x hl ⟨p, ⟨a, b, i⟩, ⟨c, d, j⟩, rfl, hm, hf, hc, hlt, zf, zc, q⟩
  have k1 : i = 0 ∨ i = 1 := hf.k01
  have k2 : j = 0 ∨ j = 1 := hc.k01
  have hd := decide_eq_true hlt
  refine ⟨_, rfl, List.mem_cons_self, _, rfl, ?_⟩
  rw [decide_eq_true rfl]
  refine iteF ?_
  refine ⟨_, rfl, List.mem_cons_self, _, rfl, ?_⟩
  rw [decide_eq_true rfl]
  refine iteF ?_
  rcases k1 with rfl | rfl <;> rcases k2 with rfl | rfl <;>
  · refine ⟨_, rfl, _, rfl, _, rfl, ?_⟩
    first | refine iteT ?_ | refine iteF ?_
    refine ⟨Nat.le_of_ble_eq_true rfl, _, rfl, p, _, _, rfl, hm, .head _, Nat.le_of_ble_eq_true rfl, ?_⟩
    refine ⟨_, rfl, _, rfl, _, rfl, ?_⟩
    first | refine iteT ?_ | refine iteF ?_
    refine ⟨Nat.le_of_ble_eq_true rfl, _, rfl, p, _, _, rfl, mup_same, .head _, Nat.le_of_ble_eq_true rfl, ?_⟩
    rw [mup_mup]
    refine ⟨_, rfl, _, _, _, insOf_cel mup_same, .head _, rfl, _, rfl, _, _, _, insOf_cel mup_same, .head _, rfl, rfl, _, _, rfl, hf.nf, hc.nf, csm_b hf zf, csm_b hc zc, _, rfl, ?_⟩
    rw [hd]
    refine iteF ?_
    exact q
def ph_Span_cuts (cl : Nat → Addr) : Ct := fun ds M k _ => ∃ f c : RT.Cut, ds = [spn cl f c] ∧ k (.tup [cutD cl f, cutD cl c]) M
theorem ok_Span_cuts {K : PySem.W.Frag} {mg : Str → Option Value} {ad : Nat → Addr} {fd : Nat → FuncData} {cl : Nat → Addr} {P : Program} {w : World} {base : Heap} (T : Txt K mg ad fd cl) : FnOk P w K mg base (L2.CX P w) 1 (ad 21) (fd 21) ["self"] (spD K 1 (ph_Span_cuts cl)) := by
  refine fn_D T.F_Span_cuts sc_Span_cuts rfl fun cdv A outer s H E hr hp ho => ⟨_, (b_one (s_ret (d_tup (a_cons (d_fld [cl 1] (one_cls T.ci_Span.cl T.na_Span_own_first) (dv 0)) (a_cons (d_fld [cl 1] (one_cls T.ci_Span.cl T.na_Span_own_last) (dv 0)) a_nil))))), ?_⟩
  clear hp ho hr
  rintro ds M k x hl ⟨f, c, rfl, q⟩
  exact ⟨_, rfl, _, _, _, rfl, .head _, rfl, _, rfl, _, _, _, rfl, .head _, rfl, Nat.le_of_ble_eq_true rfl, q⟩
def ph_Span_simplest (cl : Nat → Addr) : Ct := fun ds M k _ => ∃ f c : RT.Cut, ds = [spn cl f c] ∧ f.Ok ∧ c.Ok ∧ RT.Cut.lt f c ∧ RT.CB BB f ∧ RT.CB BB c ∧ ∀ p q : Int, RT.Best2 f c p q → k (rat cl p q) M
theorem ok_Span_simplest {K : PySem.W.Frag} {mg : Str → Option Value} {ad : Nat → Addr} {fd : Nat → FuncData} {cl : Nat → Addr} {P : Program} {w : World} {base : Heap} (T : Txt K mg ad fd cl) : FnOk P w K mg base (L2.CX P w) 11 (ad 22) (fd 22) ["self"] (spD K 1 (ph_Span_simplest cl)) := by
  have G_simplest_between := ok_simplest_between (P := P) (w := w) (base := base) T
  refine fn_D T.F_Span_simplest sc_Span_simplest rfl fun cdv A outer s H E hr hp ho => ⟨_, (b_one (s_ret (d_call G_simplest_between (hr.mono (by decide)) rfl T.m_simplest_between T.k_simplest_between T.kb_simplest_between_2 (by intro _ _ h _; exact h) hp (a_cons (d_fld [cl 1] (one_cls T.ci_Span.cl T.na_Span_own_first) (dv 0)) (a_cons (d_fld [cl 1] (one_cls T.ci_Span.cl T.na_Span_own_last) (dv 0)) a_nil))))), ?_⟩
  clear hp ho hr G_simplest_between
  rintro ds M k x hl ⟨f, c, rfl, hf, hc, hlt, zf, zc, q⟩
  refine ⟨_, rfl, _, _, _, rfl, .head _, rfl, _, rfl, _, _, _, rfl, .head _, rfl, rfl, f, c, rfl, hf, hc, hlt, zf, zc, q⟩
/-- no instance of the class -/
def NotC (cl : Nat → Addr) (i : Nat) (u : D) (M : Mm) : Prop := (∃ v, kdD u M = some (.inl v)) ∨ ∃ C, kdD u M = some (.inr C) ∧ C ∈ CS cl ∧ C ≠ cl i
theorem isiC_not {cl : Nat → Addr} {i : Nat} {u : D} {M : Mm} {k : DK} {x : DX} (h : NotC cl i u M) (q : k (.bl false) M) : dIsiC (cl i) (CS cl) u M k x := by
  rcases h with ⟨v, h⟩ | ⟨C, h, h1, h2⟩
  · exact isiC_inl h q
  · refine isiC_inr h h1 ?_
    rw [decide_eq_false h2]
    exact q
def ph_Span___contains__ (cl : Nat → Addr) : Ct := fun ds M k _ => ∃ (f c : RT.Cut) (u : D), ds = [spn cl f c, u] ∧ ((∃ p q : Int, u = rat cl p q ∧ RT.Nf p q ∧ Sm p ∧ Sm q ∧ f.Ok ∧ c.Ok ∧ RT.CB BB f ∧ RT.CB BB c ∧ k (.bl (RT.inB f c p q)) M) ∨ (NotC cl 0 u M ∧ k (.bl false) M))
theorem ok_Span___contains__ {K : PySem.W.Frag} {mg : Str → Option Value} {ad : Nat → Addr} {fd : Nat → FuncData} {cl : Nat → Addr} {P : Program} {w : World} {base : Heap} (T : Txt K mg ad fd cl) : FnOk P w K mg base (L2.CX P w) 5 (ad 23) (fd 23) ["self", "value"] (spD K 2 (ph_Span___contains__ cl)) := by
  have G_is_before := ok_is_before (P := P) (w := w) (base := base) T
  refine fn_D T.F_Span___contains__ sc_Span___contains__ rfl fun cdv A outer s H E hr hp ho => ⟨_, (b_cons (s_if (t_not (t_val (d_isiC (cl 0) (CS cl) T.isiC_Ratio T.isiB_Ratio rfl T.b_isinstance rfl T.m_Ratio (dv 1)))) (b_one (s_ret d_bl)) b_nil)
  (b_one (s_ret (d_and (d_not (d_call G_is_before (hr.mono (by decide)) rfl T.m_is_before T.k_is_before T.kb_is_before_2 (by intro _ _ h _; exact h) hp (a_cons (d_tup (a_cons (dv 1) (a_cons d_int a_nil))) (a_cons (d_fld [cl 1] (one_cls T.ci_Span.cl T.na_Span_own_first) (dv 0)) a_nil)))) (d_one (d_not (d_call G_is_before (hr.mono (by decide)) rfl T.m_is_before T.k_is_before T.kb_is_before_2 (by intro _ _ h _; exact h) hp (a_cons (d_fld [cl 1] (one_cls T.ci_Span.cl T.na_Span_own_last) (dv 0)) (a_cons (d_tup (a_cons (dv 1) (a_cons d_int a_nil))) a_nil))))))))), ?_⟩
  clear hp ho hr G_is_before
  rintro ds M k x hl ⟨f, c, u, rfl, h⟩
  rcases h with ⟨p, q, rfl, n, sp, sq, hf, hc, zf, zc, kk⟩ | ⟨hu, kk⟩
  · refine ⟨_, rfl, List.mem_cons_self, _, rfl, ?_⟩
    rw [decide_eq_true rfl]
    refine iteF ?_
    refine ⟨_, rfl, Nat.le_of_ble_eq_true rfl, _, rfl, _, _, _, rfl, .head _, rfl, rfl, ⟨p, q, 0⟩, f, rfl, n, hf.nf, ⟨sp, sq⟩, csm_b hf zf, _, rfl, _, rfl, ?_⟩
    unfold RT.inB at kk
    refine ite_b (fun e => ?_) (fun e => ?_)
    · rw [e, Bool.true_and] at kk
      exact ⟨_, rfl, _, _, _, rfl, .head _, rfl, _, rfl, Nat.le_of_ble_eq_true rfl, rfl, c, ⟨p, q, 1⟩, rfl, hc.nf, n, csm_b hc zc, ⟨sp, sq⟩, _, rfl, kk⟩
    · rw [e, Bool.false_and] at kk
      exact kk
  · refine ⟨_, rfl, isiC_not hu ⟨_, rfl, iteT ?_⟩⟩
    exact kk
instance : DecidableEq RT.Cut := fun f g => decidable_of_iff (f.a = g.a ∧ f.b = g.b ∧ f.k = g.k) (by cases f; cases g; simp)
def ph_Span___eq__ (cl : Nat → Addr) : Ct := fun ds M k _ => ∃ f c g d : RT.Cut, ds = [spn cl f c, spn cl g d] ∧ k (.bl (decide (f = g) && decide (c = d))) M
theorem cut_dec (f g : RT.Cut) : decide (f = g) = ((decide (f.a = g.a) && decide (f.b = g.b)) && decide (f.k = g.k)) := by
  obtain ⟨a, b, i⟩ := f
  obtain ⟨c, d, j⟩ := g
  rw [← Bool.decide_and, ← Bool.decide_and]
  apply decide_eq_decide.mpr
  simp only [RT.Cut.mk.injEq]
  constructor
  · rintro ⟨h1, h2, h3⟩; exact ⟨⟨h1, h2⟩, h3⟩
  · rintro ⟨⟨h1, h2⟩, h3⟩; exact ⟨h1, h2, h3⟩
theorem eqT {cl : Nat → Addr} {f g : RT.Cut} {M : Mm} {k : DK} {x : DX} (q : k (.bl (decide (f = g))) M) : dEqT (cl 0) (ph_Ratio___eq__ cl) (cutD cl f) (cutD cl g) M k x := by
  rw [cut_dec] at q
  refine ⟨[("own_top", .int f.a), ("own_bottom", .int f.b)], [("own_top", .int g.a), ("own_bottom", .int g.b)], f.k, g.k, rfl, rfl, rfl, rfl, fun e => ?_, f.a, f.b, g.a, g.b, rfl, _, rfl, q⟩
  simp only [List.cons.injEq, Prod.mk.injEq, D.int.injEq, true_and, and_true] at e
  rw [decide_eq_true e.1, decide_eq_true e.2] at q
  exact q
theorem ok_Span___eq__ {K : PySem.W.Frag} {mg : Str → Option Value} {ad : Nat → Addr} {fd : Nat → FuncData} {cl : Nat → Addr} {P : Program} {w : World} {base : Heap} (T : Txt K mg ad fd cl) : FnOk P w K mg base (L2.CX P w) 3 (ad 24) (fd 24) ["self", "other"] (spD K 2 (ph_Span___eq__ cl)) := by
  have G_Ratio___eq__ := ok_Ratio___eq__ (P := P) (w := w) (base := base) T
  refine fn_D T.F_Span___eq__ sc_Span___eq__ rfl fun cdv A outer s H E hr hp ho => ⟨_, (b_cons (s_if (t_not (t_val (d_isiC (cl 1) (CS cl) T.isiC_Span T.isiB_Span rfl T.b_isinstance rfl T.m_Span (dv 1)))) (b_one (s_ret d_bl)) b_nil)
  (b_one (s_ret (d_and (d_cmp (o_eqT T.sp_Ratio___eq__ T.fn_Ratio___eq__ G_Ratio___eq__ T.bb_Ratio___eq__ (hr.mono (by decide))) (d_fld [cl 1] (one_cls T.ci_Span.cl T.na_Span_own_first) (dv 0)) (d_fld [cl 1] (one_cls T.ci_Span.cl T.na_Span_own_first) (dv 1)) (nomark _)) (d_one (d_cmp (o_eqT T.sp_Ratio___eq__ T.fn_Ratio___eq__ G_Ratio___eq__ T.bb_Ratio___eq__ (hr.mono (by decide))) (d_fld [cl 1] (one_cls T.ci_Span.cl T.na_Span_own_last) (dv 0)) (d_fld [cl 1] (one_cls T.ci_Span.cl T.na_Span_own_last) (dv 1)) (nomark _))))))), ?_⟩
  clear hp ho hr G_Ratio___eq__
  rintro ds M k x hl ⟨f, c, g, d, rfl, q⟩
  refine ⟨_, rfl, List.mem_cons_of_mem _ List.mem_cons_self, _, rfl, ?_⟩
  rw [decide_eq_true rfl]
  refine iteF ?_
  refine ⟨_, rfl, _, _, _, rfl, .head _, rfl, _, rfl, _, _, _, rfl, .head _, rfl, eqT ?_⟩
  refine ⟨_, rfl, ite_b (fun e => ?_) (fun e => ?_)⟩
  · refine ⟨_, rfl, _, _, _, rfl, .head _, rfl, _, rfl, _, _, _, rfl, .head _, rfl, eqT ?_⟩
    rw [(of_decide_eq_true e)] at q
    rw [decide_eq_true rfl, Bool.true_and] at q
    exact q
  · rw [decide_eq_false (of_decide_eq_false e), Bool.false_and] at q
    exact q
def ph_span_between (cl : Nat → Addr) : Ct := fun ds M k _ => ∃ f l : SP.OC, ds = [cutD cl f.1, cutD cl l.1] ∧ CBo f ∧ CBo l ∧ k (if SP.Lin.lt f l then spD' cl (f, l) else .non) M
theorem ok_span_between {K : PySem.W.Frag} {mg : Str → Option Value} {ad : Nat → Addr} {fd : Nat → FuncData} {cl : Nat → Addr} {P : Program} {w : World} {base : Heap} (T : Txt K mg ad fd cl) : FnOk P w K mg base (L2.CX P w) 7 (ad 25) (fd 25) ["first", "last"] (spD K 2 (ph_span_between cl)) := by
  have G_is_before := ok_is_before (P := P) (w := w) (base := base) T
  have G_Span___init__ := ok_Span___init__ (P := P) (w := w) (base := base) T
  refine fn_D T.F_span_between sc_span_between rfl fun cdv A outer s H E hr hp ho => ⟨_, (b_cons (s_if (t_not (t_val (d_call G_is_before (hr.mono (by decide)) rfl T.m_is_before T.k_is_before T.kb_is_before_2 (by intro _ _ h _; exact h) hp (a_cons (dv 0) (a_cons (dv 1) a_nil))))) (b_one (s_ret d_non)) b_nil)
  (b_one (s_ret (d_make T.mk_Span G_Span___init__ (hr.mono (by decide)) rfl T.m_Span T.kb_Span___init___3_has_low_has_high (fun us ws h1 h2 => match us, ws, h1, h2 with | [_, _, _], [_, _], _, _ => rfl) hp (a_cons (d_ix x_ix (dv 0) d_int (fun _ _ => rfl)) (a_cons (d_ix x_ix (dv 1) d_int (fun _ _ => rfl)) a_nil)) (k_cons (d_cmp (o_eq hr.units) (d_ix x_ix (dv 0) d_int (fun _ _ => rfl)) d_int (nomark _)) (k_cons (d_cmp (o_eq hr.units) (d_ix x_ix (dv 1) d_int (fun _ _ => rfl)) d_int (nomark _)) k_nil)))))), ?_⟩
  clear hp ho hr G_is_before G_Span___init__
  rintro ds M k x hl ⟨f, l, rfl, zf, zl, q⟩
  refine ⟨_, rfl, _, rfl, rfl, f.1, l.1, rfl, f.2.nf, l.2.nf, csm_o zf, csm_o zl, _, rfl, ?_⟩
  by_cases e : SP.Lin.lt f l
  · rw [if_pos e] at q
    rw [show decide (RT.Cut.lt f.1 l.1) = true from decide_eq_true e]
    refine iteF ?_
    exact ⟨_, rfl, _, rfl, _, rfl, _, rfl, _, rfl, _, rfl, eqI ⟨_, rfl, _, rfl, eqI ⟨rfl, rfl, mkS (f := f.1) (c := l.1) (fun _ => rfl) ⟨f.2, l.2, e, zf, zl⟩ q⟩⟩⟩
  · rw [if_neg e] at q
    rw [show decide (RT.Cut.lt f.1 l.1) = false from decide_eq_false e]
    refine iteT ?_
    exact q

end W08
set_option Elab.async false
set_option linter.all false
set_option maxRecDepth 100000
set_option maxHeartbeats 4000000
set_option pp.deepTerms false
set_option pp.deepTerms.threshold 12
set_option pp.maxSteps 4000
namespace W08
open PySem PySem.Spec PyProof.Rows L2 DL
local macro_rules | `(tactic| walk_at "sc") => `(tactic| first | assumption | rfl | exact Nat.le_of_ble_eq_true rfl | decide | omega | exact mul_small (by omega) (by omega) | exact mul_smallR (by omega) (by omega) | exact ⟨by decide, by decide, by decide⟩ | exact ⟨by omega, by assumption⟩ | exact ⟨by decide, log2_small (by decide) (by decide)⟩)
local macro_rules | `(tactic| walk_at "go1") => `(tactic| first | refine ⟨_, rfl, ?_⟩ | refine ⟨rfl, ?_⟩ | refine ⟨_, by assumption, ?_⟩ | refine ⟨_, mup_same, ?_⟩ | refine eqI ?_ | refine neI ?_ | refine iteT ?_ | refine iteF ?_ | refine ⟨(by walk_at "sc"), ?_⟩)
local macro_rules | `(tactic| walk_at "go") => `(tactic| repeat walk_at "go1")
theorem map_get {α : Type} {f : α → D} {S : List α} {j : Nat} {d : D} (h : (S.map f)[j]? = some d) : ∃ s, S[j]? = some s ∧ d = f s := by
  rw [List.getElem?_map] at h
  cases e : S[j]? with
  | none => rw [e] at h; cases h
  | some s => rw [e] at h; cases h; exact ⟨s, rfl, rfl⟩
/-- a list or a tuple -/
def SeqD (u : D) (ds : List D) : Prop := u = .lst ds ∨ u = .tup ds
theorem seq_items {u : D} {ds : List D} {K : DKA} {M : Mm} (h : SeqD u ds) (q : K ds M) : dItems u K M := by
  rcases h with rfl | rfl <;> exact q
def ph_ordered (cl : Nat → Addr) : Ct := fun ds M k _ => ∃ (u : D) (S : List SpT), ds = [u] ∧ SeqD u (S.map (spD' cl)) ∧ AllOk S ∧ S.length ≤ 100000 ∧ ∀ T : List SpT, T.Perm S → SP.Srt T → k (.lst (T.map (spD' cl))) M
theorem ok_ordered {K : PySem.W.Frag} {mg : Str → Option Value} {ad : Nat → Addr} {fd : Nat → FuncData} {cl : Nat → Addr} {P : Program} {w : World} {base : Heap} (T : Txt K mg ad fd cl) : FnOk P w K mg base (L2.CX P w) 5 (ad 26) (fd 26) ["spans"] (spD K 1 (ph_ordered cl)) := by
  have G_is_before := ok_is_before (P := P) (w := w) (base := base) T
  have G_Span_cuts := ok_Span_cuts (P := P) (w := w) (base := base) T
  refine fn_D T.F_ordered sc_ordered rfl fun cdv A outer s H E hr hp ho => ⟨_, (b_cons (s_set (i := 1) sc_ordered.nd rfl (Or.inl rfl) (d_lstM a_nil))
  (b_cons (s_for ho rfl (i_seq (dv 0)) (g_name (i := 2) sc_ordered.nd rfl (Or.inl rfl))
  (b_cons (s_set (i := 3) sc_ordered.nd rfl (Or.inl rfl) (d_callB c_len rfl T.b_len boot_len' (a_cons (dv 1) a_nil)))
  (b_cut (s_while ho (DPW.t (w_and (t_cmp o_gt (dv 3) d_int (nomark _)) (w_and1 (t_val (d_call G_is_before (hr.mono (by decide)) rfl T.m_is_before T.k_is_before T.kb_is_before_2 (by intro _ _ h _; exact h) hp (a_cons (d_ix x_ix (d_meth0 T.ci_Span.cl T.mt_Span_cuts G_Span_cuts (hr.mono (by decide)) T.kb_Span_cuts_1 (fun us ws h1 h2 => match us, ws, h1, h2 with | [_], [], _, _ => rfl) hp (dv 2) k_nil) d_int (fun _ _ => rfl)) (a_cons (d_ix x_ix (d_meth0 T.ci_Span.cl T.mt_Span_cuts G_Span_cuts (hr.mono (by decide)) T.kb_Span_cuts_1 (fun us ws h1 h2 => match us, ws, h1, h2 with | [_], [], _, _ => rfl) hp (d_ix x_ix (dv 1) (d_op o_sub (dv 3) d_int) (fun _ _ => rfl)) k_nil) d_int (fun _ _ => rfl)) a_nil)))))))
  (b_one (s_augI ip_sub (i := 3) sc_ordered.nd rfl (Or.inl rfl) d_int)))
  (b_one (s_expr (d_bm PySem.F.plainAttrs_list PySem.F.slot_list_insert PySem.F.type_list_insert m_insert (dv 1) (a_cons (dv 3) (a_cons (dv 2) a_nil))))))))
  (b_one (s_retZ (dv 1))))), ?_⟩
  clear hp ho hr G_is_before G_Span_cuts
  rintro ds M k x hl ⟨u, S, rfl, hu, ok, hz, q⟩
  refine ⟨Nat.zero_le _, fun p hp => ?_⟩
  refine ⟨_, rfl, seq_items hu ?_⟩
  refine ForK.of (fun j ρ M' => ∃ T r2 r3, T.Perm (S.take j) ∧ SP.Srt T ∧ M' = mup M p (.lst (T.map (spD' cl))) ∧ ρ = [some u, some (.cel p), r2, r3]) ?_ ?_ ?_
  · exact ⟨[], _, _, .nil, .nil, rfl, rfl⟩
  · rintro j d ρ M' hd ⟨T, r2, r3, hT, sT, rfl, rfl⟩
    obtain ⟨s, hs, rfl⟩ := map_get hd
    have ss := ok s (List.mem_of_getElem? hs)
    have oT : ∀ t ∈ T, SpOk t := fun t ht => ok t (List.mem_of_mem_take (hT.mem_iff.mp ht))
    have lT : T.length ≤ S.length := by rw [hT.length_eq, List.length_take]; omega
    refine ⟨_, rfl, _, mup_same, ?_⟩
    refine ⟨fun ρ M' => ∃ i : Int, (i = 0 ∨ ∃ t, T[i.toNat - 1]? = some t ∧ ¬ SP.Lin.lt s.1 t.1) ∧ 0 ≤ i ∧ i ≤ T.length ∧ (∀ t ∈ T.drop i.toNat, SP.Lin.lt s.1 t.1) ∧ M' = mup M p (.lst (T.map (spD' cl))) ∧ ρ = [some u, some (.cel p), some (spD' cl s), some (.int i)], ?_, ?_⟩
    · refine WhK.of (fun m ρ M' => ∃ i : Int, m = i.toNat ∧ 0 ≤ i ∧ i ≤ T.length ∧ (∀ t ∈ T.drop i.toNat, SP.Lin.lt s.1 t.1) ∧ M' = mup M p (.lst (T.map (spD' cl))) ∧ ρ = [some u, some (.cel p), some (spD' cl s), some (.int i)]) ⟨_, (T.map (spD' cl)).length, rfl, by omega, by rw [List.length_map]; omega, ?_, rfl, rfl⟩ ?_
      · intro t ht
        rw [Int.toNat_natCast, List.length_map, List.drop_length] at ht
        cases ht
      rintro m ρ M' ⟨i, rfl, i0, i1, hi, rfl, rfl⟩
      refine ⟨_, rfl, _, rfl, ?_⟩
      refine ite_b (fun e => ?_) (fun e => iteF ⟨i, .inl (by have := of_decide_eq_false e; omega), i0, i1, hi, rfl, rfl⟩)
      have e := of_decide_eq_true e
      obtain ⟨t, ht⟩ : ∃ t, T[i.toNat - 1]? = some t := ⟨T[i.toNat - 1]'(by omega), by simp⟩
      have st := oT t (List.mem_of_getElem? ht)
      refine ⟨_, rfl, _, rfl, rfl, rfl, rfl, _, _, rfl, _, rfl, ?_⟩
      refine ⟨_, rfl, _, rfl, _, mup_same, spD' cl t, ?_, ?_⟩
      · rw [show i - 1 = ((i.toNat - 1 : Nat) : Int) by omega]
        exact atI_nat (by simp [ht])
      refine ⟨_, rfl, rfl, rfl, rfl, _, _, rfl, _, rfl, ?_⟩
      refine ⟨rfl, s.1.1, t.1.1, rfl, s.1.2.nf, t.1.2.nf, csm_o ss.f, csm_o st.f, _, rfl, ?_⟩
      refine ite_b (fun e2 => ?_) (fun e2 => ⟨i, .inr ⟨t, ht, of_decide_eq_false e2⟩, i0, i1, hi, rfl, rfl⟩)
      have e2 : SP.Lin.lt s.1 t.1 := of_decide_eq_true e2
      refine ⟨_, rfl, _, rfl, (i - 1).toNat, by omega, i - 1, rfl, by omega, by omega, ?_, rfl, rfl⟩
      intro v hv
      rw [show (i - 1).toNat = i.toNat - 1 by omega, List.drop_eq_getElem_cons (by omega)] at hv
      rcases List.mem_cons.mp hv with e3 | e3
      · have : T[i.toNat - 1] = t := by
          have := ht
          rw [List.getElem?_eq_getElem (by omega)] at this
          exact Option.some.inj this
        rw [e3, this]
        exact e2
      · rw [show i.toNat - 1 + 1 = i.toNat by omega] at e3
        exact hi v e3
    · rintro ρ M' ⟨i, hh, i0, i1, hi, rfl, rfl⟩
      refine ⟨_, rfl, ⟨rfl, _, mup_same⟩, _, rfl, _, rfl, _, mup_same, ?_, i0, by omega, ?_⟩
      · rw [List.length_map]
        exact Nat.lt_of_le_of_lt (Nat.le_trans lT hz) (by decide)
      refine ⟨T.take i.toNat ++ [s] ++ T.drop i.toNat, _, _, ?_, SP.srt_here sT _ (by omega) hi ?_, ?_, rfl⟩
      · have h1 : (T.take i.toNat ++ [s] ++ T.drop i.toNat).Perm (T ++ [s]) := by
          rw [List.append_assoc]
          refine (List.perm_append_comm_assoc _ _ _).trans ?_
          rw [List.take_append_drop]
          exact List.perm_append_comm
        refine h1.trans ?_
        rw [List.take_succ, hs]
        exact hT.append_right _
      · rcases hh with h | h
        · exact .inl (by omega)
        · exact .inr h
      · rw [mup_mup, List.map_append, List.map_append, List.map_take, List.map_drop]
        rfl
  · rintro ρ M' ⟨T, r2, r3, hT, sT, rfl, rfl⟩
    rw [List.length_map, List.take_length] at hT
    refine ⟨_, rfl, p, _, rfl, mup_same, hp, ?_⟩
    show k _ (mdel (mup M p _) p)
    rw [mdel_mup hp]
    exact q T hT sT
theorem ixN_last {n : Nat} : ixN (n + 1) (-1) = some n := by
  unfold ixN
  simp <;> omega
theorem atI_lastD {ds : List D} {d : D} : atI (ds ++ [d]) (-1) = some d := by
  unfold atI
  rw [List.length_append, show [d].length = 1 from rfl, ixN_last]
  simp
theorem set_last {ds : List D} {d e : D} : (ds ++ [d]).set ds.length e = ds ++ [e] := by simp
theorem snoc_cases {α : Type} (F : List α) : F = [] ∨ ∃ G l, F = G ++ [l] := by
  rcases List.eq_nil_or_concat F with h | ⟨G, l, h⟩
  · exact .inl h
  · exact .inr ⟨G, l, by rw [h, List.concat_eq_append]⟩
def ph_merged (cl : Nat → Addr) : Ct := fun ds M k _ => ∃ (u : D) (S : List SpT), ds = [u] ∧ SeqD u (S.map (spD' cl)) ∧ AllOk S ∧ S.length ≤ 100000 ∧ ∀ F : List SpT, SP.Mg S F → k (.lst (F.map (spD' cl))) M
theorem ok_merged {K : PySem.W.Frag} {mg : Str → Option Value} {ad : Nat → Addr} {fd : Nat → FuncData} {cl : Nat → Addr} {P : Program} {w : World} {base : Heap} (T : Txt K mg ad fd cl) : FnOk P w K mg base (L2.CX P w) 9 (ad 27) (fd 27) ["spans"] (spD K 1 (ph_merged cl)) := by
  have G_ordered := ok_ordered (P := P) (w := w) (base := base) T
  have G_is_before := ok_is_before (P := P) (w := w) (base := base) T
  have G_Span_cuts := ok_Span_cuts (P := P) (w := w) (base := base) T
  have G_span_between := ok_span_between (P := P) (w := w) (base := base) T
  have G_later_cut := ok_later_cut (P := P) (w := w) (base := base) T
  refine fn_D T.F_merged sc_merged rfl fun cdv A outer s H E hr hp ho => ⟨_, (b_cons (s_set (i := 1) sc_merged.nd rfl (Or.inl rfl) (d_lstM a_nil))
  (b_cons (s_for ho rfl (i_seq (d_call G_ordered (hr.mono (by decide)) rfl T.m_ordered T.k_ordered T.kb_ordered_1 (by intro _ _ h _; exact h) hp (a_cons (dv 0) a_nil))) (g_name (i := 2) sc_merged.nd rfl (Or.inl rfl))
  (b_one (s_if (DPW.t (w_and (t_cmp (o_neNil hr.units) (dv 1) (d_lst a_nil) (nomark _)) (w_and1 (t_not (t_val (d_call G_is_before (hr.mono (by decide)) rfl T.m_is_before T.k_is_before T.kb_is_before_2 (by intro _ _ h _; exact h) hp (a_cons (d_ix x_ix (d_meth0 T.ci_Span.cl T.mt_Span_cuts G_Span_cuts (hr.mono (by decide)) T.kb_Span_cuts_1 (fun us ws h1 h2 => match us, ws, h1, h2 with | [_], [], _, _ => rfl) hp (d_ix x_ix (dv 1) (d_un o_neg d_int) (fun _ _ => rfl)) k_nil) d_int (fun _ _ => rfl)) (a_cons (d_ix x_ix (d_meth0 T.ci_Span.cl T.mt_Span_cuts G_Span_cuts (hr.mono (by decide)) T.kb_Span_cuts_1 (fun us ws h1 h2 => match us, ws, h1, h2 with | [_], [], _, _ => rfl) hp (dv 2) k_nil) d_int (fun _ _ => rfl)) a_nil)))))))) (b_cons (s_asg (d_meth0 T.ci_Span.cl T.mt_Span_cuts G_Span_cuts (hr.mono (by decide)) T.kb_Span_cuts_1 (fun us ws h1 h2 => match us, ws, h1, h2 with | [_], [], _, _ => rfl) hp (d_ix x_ix (dv 1) (d_un o_neg d_int) (fun _ _ => rfl)) k_nil) (g_tup (n := 2) rfl (gs_cons (g_name (i := 3) sc_merged.nd rfl (Or.inl rfl)) (gs_cons (g_name (i := 4) sc_merged.nd rfl (Or.inl rfl)) gs_nil))))
  (b_one (s_setIx (d_call G_span_between (hr.mono (by decide)) rfl T.m_span_between T.k_span_between T.kb_span_between_2 (by intro _ _ h _; exact h) hp (a_cons (dv 3) (a_cons (d_call G_later_cut (hr.mono (by decide)) rfl T.m_later_cut T.k_later_cut T.kb_later_cut_2 (by intro _ _ h _; exact h) hp (a_cons (dv 4) (a_cons (d_ix x_ix (d_meth0 T.ci_Span.cl T.mt_Span_cuts G_Span_cuts (hr.mono (by decide)) T.kb_Span_cuts_1 (fun us ws h1 h2 => match us, ws, h1, h2 with | [_], [], _, _ => rfl) hp (dv 2) k_nil) d_int (fun _ _ => rfl)) a_nil))) a_nil))) (dv 1) (d_un o_neg d_int)))) (b_one (s_expr (d_bm PySem.F.plainAttrs_list PySem.F.slot_list_append PySem.F.type_list_append m_append (dv 1) (a_cons (dv 2) a_nil)))))))
  (b_one (s_retZ (dv 1))))), ?_⟩
  clear hp ho hr G_ordered G_is_before G_Span_cuts G_span_between G_later_cut
  rintro ds M k x hl ⟨u, S, rfl, hu, ok, hz, q⟩
  refine ⟨Nat.zero_le _, fun p hp => ?_⟩
  refine ⟨_, rfl, rfl, u, S, rfl, hu, ok, hz, fun T hT sT => ?_⟩
  have oT : ∀ t ∈ T, SpOk t := fun t ht => ok t (hT.mem_iff.mp ht)
  have lT : T.length ≤ 100000 := by rw [hT.length_eq]; exact hz
  refine ForK.of (fun j ρ M' => ∃ F r2 r3 r4, SP.Mrg (T.take j) F ∧ F.length ≤ j ∧ M' = mup M p (.lst (F.map (spD' cl))) ∧ ρ = [some u, some (.cel p), r2, r3, r4]) ?_ ?_ ?_
  · exact ⟨[], _, _, _, .nil, Nat.le_refl _, rfl, rfl⟩
  · rintro j d ρ M' hd ⟨F, r2, r3, r4, hF, lF, rfl, rfl⟩
    obtain ⟨s, hs, rfl⟩ := map_get hd
    have hj : j < T.length := (List.getElem?_eq_some_iff.mp hs).1
    have ss := oT s (List.mem_of_getElem? hs)
    have oF : ∀ t ∈ F, CBo t.1 ∧ CBo t.2 := hF.all CBo fun t ht => ⟨(oT t (List.mem_of_mem_take ht)).f, (oT t (List.mem_of_mem_take ht)).l⟩
    have tk : T.take (j + 1) = T.take j ++ [s] := by rw [List.take_succ, hs]; rfl
    refine ⟨_, rfl, Nat.zero_le _, p, _, rfl, rfl, mup_same, _, rfl, ?_⟩
    rcases snoc_cases F with rfl | ⟨G, l, rfl⟩
    · have hh : ∀ t, ([] : List SpT).getLast? = some t → SP.Lin.lt t.2 s.1 := fun t e => by cases e
      refine iteF (iteF ?_)
      refine ⟨_, rfl, ⟨rfl, _, mup_same⟩, _, rfl, _, mup_same, ?_, ?_⟩
      · rw [List.length_map]
        exact Nat.lt_of_le_of_lt (Nat.le_trans lF (Nat.le_trans (Nat.le_of_lt hj) lT)) (by decide)
      refine ⟨[] ++ [s], _, _, _, ?_, ?_, ?_, rfl⟩
      · rw [tk]
        exact hF.next ss.lt hh
      · rw [List.length_append]
        exact Nat.succ_le_succ lF
      · rw [mup_mup, List.map_append]
        rfl
    · have ol := oF l (List.mem_append.mpr (.inr (List.mem_singleton.mpr rfl)))
      have ne : (!(List.map (spD' cl) (G ++ [l])).isEmpty) = true := by simp
      rw [ne]
      refine iteT ?_
      refine ⟨_, rfl, _, mup_same, spD' cl l, by rw [List.map_append]; exact atI_lastD, _, rfl, rfl, rfl, rfl, _, _, rfl, _, rfl, ?_⟩
      refine ⟨_, rfl, _, rfl, rfl, rfl, rfl, _, _, rfl, _, rfl, ?_⟩
      refine ⟨rfl, l.2.1, s.1.1, rfl, l.2.2.nf, s.1.2.nf, csm_o ol.2, csm_o ss.f, _, rfl, ?_⟩
      refine ite_b (fun e => ?_) (fun e => ?_)
      · have e : ¬ SP.Lin.lt l.2 s.1 := by
            have e : (!decide (l.2.1.lt s.1.1)) = true := e
            rw [Bool.not_eq_true'] at e
            exact of_decide_eq_false e
        obtain ⟨t0, ht0, et0⟩ := hF.fst l (List.mem_append.mpr (.inr (List.mem_singleton.mpr rfl)))
        have hf : ¬ SP.Lin.lt s.1 l.1 := by
          rw [et0]
          obtain ⟨i, hi, ei⟩ := List.mem_iff_getElem.mp ht0
          rw [List.length_take] at hi
          exact SP.srt_le sT (i := i) (j := j) (by rw [← ei, List.getElem_take]; simp) hs (by omega)
        have lv := (hF.can.init).2
        have zx : CBo (SP.mx l.2 s.2) := SP.p_mx ol.2 ss.l
        have lx : SP.Lin.lt l.1 (SP.mx l.2 s.2) := SP.lt_le lv (SP.mx_le.mp (SP.Lin.irr _)).1
        refine ⟨_, rfl, _, mup_same, spD' cl l, by rw [List.map_append]; exact atI_lastD, _, rfl, rfl, rfl, rfl, _, _, rfl, _, rfl, rfl, _, _, rfl, _, _, rfl, rfl, ?_⟩
        refine ⟨_, rfl, _, rfl, _, rfl, _, rfl, rfl, rfl, rfl, _, _, rfl, _, rfl, rfl, l.2, s.2, rfl, ol.2, ss.l, ?_⟩
        refine ⟨rfl, l.1, SP.mx l.2 s.2, rfl, ol.1, zx, ?_⟩
        rw [if_pos lx]
        refine ⟨_, rfl, p, _, _, G.length, rfl, rfl, mup_same, ?_, ?_⟩
        · rw [List.length_map, List.length_append]
          exact ixN_last
        refine ⟨G ++ [(l.1, SP.mx l.2 s.2)], _, _, _, ?_, ?_, ?_, rfl⟩
        · rw [tk]
          exact hF.join ss.lt hf e
        · rw [List.length_append] at lF ⊢
          exact Nat.le_succ_of_le lF
        · rw [mup_mup, List.map_append, List.map_append]
          have := set_last (ds := G.map (spD' cl)) (d := spD' cl l) (e := spD' cl (l.1, SP.mx l.2 s.2))
          rw [List.length_map] at this
          exact congrArg (fun z => mup M p (.lst z)) this
      · have hh : ∀ t, (G ++ [l]).getLast? = some t → SP.Lin.lt t.2 s.1 := fun t e' => by
          rw [List.getLast?_append] at e'
          cases e'
          have e : (!decide (l.2.1.lt s.1.1)) = false := e
          rw [Bool.not_eq_false'] at e
          exact of_decide_eq_true e
        refine ⟨_, rfl, ⟨rfl, _, mup_same⟩, _, rfl, _, mup_same, ?_, ?_⟩
        · rw [List.length_map]
          exact Nat.lt_of_le_of_lt (Nat.le_trans lF (Nat.le_trans (Nat.le_of_lt hj) lT)) (by decide)
        refine ⟨(G ++ [l]) ++ [s], _, _, _, ?_, ?_, ?_, rfl⟩
        · rw [tk]
          exact hF.next ss.lt hh
        · rw [List.length_append]
          exact Nat.succ_le_succ lF
        · rw [mup_mup, List.map_append (l₂ := [s])]
          rfl
  · rintro ρ M' ⟨F, r2, r3, r4, hF, lF, rfl, rfl⟩
    rw [List.length_map, List.take_length] at hF
    rw [List.length_map] at lF
    refine ⟨_, rfl, p, _, rfl, mup_same, hp, ?_⟩
    show k _ (mdel (mup M p _) p)
    rw [mdel_mup hp]
    exact q F (.of hF hT lF)
def ph_common_spans (cl : Nat → Addr) : Ct := fun ds M k _ => ∃ S T : List SpT, ds = [.lst (S.map (spD' cl)), .lst (T.map (spD' cl))] ∧ AllOk S ∧ AllOk T ∧ S.length * T.length ≤ 100000 ∧ k (.lst ((SP.cm S T).map (spD' cl))) M
theorem ok_common_spans {K : PySem.W.Frag} {mg : Str → Option Value} {ad : Nat → Addr} {fd : Nat → FuncData} {cl : Nat → Addr} {P : Program} {w : World} {base : Heap} (T : Txt K mg ad fd cl) : FnOk P w K mg base (L2.CX P w) 9 (ad 28) (fd 28) ["ones", "others"] (spD K 2 (ph_common_spans cl)) := by
  have G_later_cut := ok_later_cut (P := P) (w := w) (base := base) T
  have G_Span_cuts := ok_Span_cuts (P := P) (w := w) (base := base) T
  have G_span_between := ok_span_between (P := P) (w := w) (base := base) T
  have G_earlier_cut := ok_earlier_cut (P := P) (w := w) (base := base) T
  refine fn_D T.F_common_spans sc_common_spans rfl fun cdv A outer s H E hr hp ho => ⟨_, (b_cons (s_set (i := 2) sc_common_spans.nd rfl (Or.inl rfl) (d_lstM a_nil))
  (b_cons (s_for ho rfl (i_seq (dv 0)) (g_name (i := 3) sc_common_spans.nd rfl (Or.inl rfl))
  (b_one (s_for ho rfl (i_seq (dv 1)) (g_name (i := 4) sc_common_spans.nd rfl (Or.inl rfl))
  (b_cons (s_set (i := 5) sc_common_spans.nd rfl (Or.inl rfl) (d_call G_later_cut (hr.mono (by decide)) rfl T.m_later_cut T.k_later_cut T.kb_later_cut_2 (by intro _ _ h _; exact h) hp (a_cons (d_ix x_ix (d_meth0 T.ci_Span.cl T.mt_Span_cuts G_Span_cuts (hr.mono (by decide)) T.kb_Span_cuts_1 (fun us ws h1 h2 => match us, ws, h1, h2 with | [_], [], _, _ => rfl) hp (dv 3) k_nil) d_int (fun _ _ => rfl)) (a_cons (d_ix x_ix (d_meth0 T.ci_Span.cl T.mt_Span_cuts G_Span_cuts (hr.mono (by decide)) T.kb_Span_cuts_1 (fun us ws h1 h2 => match us, ws, h1, h2 with | [_], [], _, _ => rfl) hp (dv 4) k_nil) d_int (fun _ _ => rfl)) a_nil))))
  (b_cons (s_set (i := 6) sc_common_spans.nd rfl (Or.inl rfl) (d_call G_span_between (hr.mono (by decide)) rfl T.m_span_between T.k_span_between T.kb_span_between_2 (by intro _ _ h _; exact h) hp (a_cons (dv 5) (a_cons (d_call G_earlier_cut (hr.mono (by decide)) rfl T.m_earlier_cut T.k_earlier_cut T.kb_earlier_cut_2 (by intro _ _ h _; exact h) hp (a_cons (d_ix x_ix (d_meth0 T.ci_Span.cl T.mt_Span_cuts G_Span_cuts (hr.mono (by decide)) T.kb_Span_cuts_1 (fun us ws h1 h2 => match us, ws, h1, h2 with | [_], [], _, _ => rfl) hp (dv 3) k_nil) d_int (fun _ _ => rfl)) (a_cons (d_ix x_ix (d_meth0 T.ci_Span.cl T.mt_Span_cuts G_Span_cuts (hr.mono (by decide)) T.kb_Span_cuts_1 (fun us ws h1 h2 => match us, ws, h1, h2 with | [_], [], _, _ => rfl) hp (dv 4) k_nil) d_int (fun _ _ => rfl)) a_nil))) a_nil))))
  (b_one (s_if (t_cmp o_isNotN (dv 6) d_non (nomark _)) (b_one (s_expr (d_bm PySem.F.plainAttrs_list PySem.F.slot_list_append PySem.F.type_list_append m_append (dv 2) (a_cons (dv 6) a_nil)))) b_nil)))))))
  (b_one (s_retZ (dv 2))))), ?_⟩
  clear hp ho hr G_later_cut G_Span_cuts G_span_between G_earlier_cut
  rintro ds M k x hl ⟨S, T, rfl, oS, oT, hz, q⟩
  refine ⟨Nat.zero_le _, fun p hp => ?_⟩
  refine ⟨_, rfl, ?_⟩
  have bnd : ∀ n, n ≤ S.length → (SP.cm (S.take n) T).length ≤ 100000 := fun n hn => Nat.le_trans SP.len_cm (Nat.le_trans (Nat.mul_le_mul_right _ (by rw [List.length_take]; omega)) hz)
  refine ForK.of (fun j ρ M' => ∃ r3 r4 r5 r6, M' = mup M p (.lst ((SP.cm (S.take j) T).map (spD' cl))) ∧ ρ = [some (.lst (S.map (spD' cl))), some (.lst (T.map (spD' cl))), some (.cel p), r3, r4, r5, r6]) ?_ ?_ ?_
  · exact ⟨_, _, _, _, rfl, rfl⟩
  · rintro j d ρ M' hd ⟨r3, r4, r5, r6, rfl, rfl⟩
    obtain ⟨s, hs, rfl⟩ := map_get hd
    have hj : j < S.length := (List.getElem?_eq_some_iff.mp hs).1
    have ss := oS s (List.mem_of_getElem? hs)
    have tk : SP.cm (S.take (j + 1)) T = SP.cm (S.take j) T ++ T.flatMap (fun t => SP.cut2 (SP.mx s.1 t.1) (SP.mn s.2 t.2)) := by
      unfold SP.cm
      rw [List.take_succ, hs, List.flatMap_append]
      simp
    have b1 := bnd (j + 1) hj
    rw [tk, List.length_append] at b1
    refine ⟨_, rfl, ?_⟩
    refine ForK.of (fun i ρ M' => ∃ r4 r5 r6, M' = mup M p (.lst ((SP.cm (S.take j) T ++ (T.take i).flatMap (fun t => SP.cut2 (SP.mx s.1 t.1) (SP.mn s.2 t.2))).map (spD' cl))) ∧ ρ = [some (.lst (S.map (spD' cl))), some (.lst (T.map (spD' cl))), some (.cel p), some (spD' cl s), r4, r5, r6]) ?_ ?_ ?_
    · exact ⟨_, _, _, by simp, rfl⟩
    · rintro i d ρ M' hd ⟨r4, r5, r6, rfl, rfl⟩
      obtain ⟨t, ht, rfl⟩ := map_get hd
      have st := oT t (List.mem_of_getElem? ht)
      have tk2 : (T.take (i + 1)).flatMap (fun t => SP.cut2 (SP.mx s.1 t.1) (SP.mn s.2 t.2)) = (T.take i).flatMap (fun t => SP.cut2 (SP.mx s.1 t.1) (SP.mn s.2 t.2)) ++ SP.cut2 (SP.mx s.1 t.1) (SP.mn s.2 t.2) := by
        rw [List.take_succ, ht, List.flatMap_append]
        simp
      have zx : CBo (SP.mx s.1 t.1) := SP.p_mx ss.f st.f
      have zn : CBo (SP.mn s.2 t.2) := SP.p_mn ss.l st.l
      refine ⟨_, rfl, _, rfl, rfl, rfl, rfl, _, _, rfl, _, rfl, _, rfl, _, rfl, rfl, rfl, rfl, _, _, rfl, _, rfl, rfl, s.1, t.1, rfl, ss.f, st.f, ?_⟩
      refine ⟨_, rfl, _, rfl, _, rfl, rfl, rfl, rfl, _, _, rfl, _, rfl, _, rfl, _, rfl, rfl, rfl, rfl, _, _, rfl, _, rfl, rfl, s.2, t.2, rfl, ss.l, st.l, ?_⟩
      refine ⟨rfl, SP.mx s.1 t.1, SP.mn s.2 t.2, rfl, zx, zn, ?_⟩
      by_cases e : SP.Lin.lt (SP.mx s.1 t.1) (SP.mn s.2 t.2)
      · rw [if_pos e]
        refine ⟨_, rfl, rfl, _, rfl, iteT ?_⟩
        refine ⟨_, rfl, ⟨rfl, _, mup_same⟩, _, rfl, _, mup_same, ?_, ?_⟩
        · rw [List.length_map, List.length_append]
          have : ((T.take i).flatMap (fun t => SP.cut2 (SP.mx s.1 t.1) (SP.mn s.2 t.2))).length ≤ T.length := by
            have := SP.len_flat (f := fun t : SpT => SP.cut2 (SP.mx s.1 t.1) (SP.mn s.2 t.2)) (n := 1) (S := T.take i) fun t _ => SP.len_cut2
            rw [List.length_take] at this
            omega
          have h2 : T.length ≤ S.length * T.length := Nat.le_mul_of_pos_left _ (by omega)
          have h3 : (100000 : Nat) + 100000 < sizeLine := by decide
          omega
        refine ⟨_, _, _, ?_, rfl⟩
        rw [mup_mup, tk2]
        unfold SP.cut2
        rw [if_pos e]
        simp [List.map_append]
      · rw [if_neg e]
        refine ⟨_, rfl, rfl, _, rfl, iteF ?_⟩
        refine ⟨_, _, _, ?_, rfl⟩
        rw [tk2, show SP.cut2 (SP.mx s.1 t.1) (SP.mn s.2 t.2) = [] by unfold SP.cut2; rw [if_neg e], List.append_nil]
    · rintro ρ M' ⟨r4, r5, r6, rfl, rfl⟩
      refine ⟨_, _, _, _, ?_, rfl⟩
      rw [tk, List.length_map, List.take_length]
  · rintro ρ M' ⟨r3, r4, r5, r6, rfl, rfl⟩
    refine ⟨_, rfl, p, _, rfl, mup_same, hp, ?_⟩
    show k _ (mdel (mup M p _) p)
    rw [mdel_mup hp, List.length_map, List.take_length]
    exact q
theorem filt_y {d : D} (e : (!DL.isNon d) = true) : [d].filter (fun d => !DL.isNon d) = [d] := by simp only [List.filter, e]
theorem filt_n {d : D} (e : (!DL.isNon d) = false) : [d].filter (fun d => !DL.isNon d) = [] := by simp only [List.filter, e]
def ph_spans_without (cl : Nat → Addr) : Ct := fun ds M k _ => ∃ (S : List SpT) (t : SpT), ds = [.lst (S.map (spD' cl)), spD' cl t] ∧ AllOk S ∧ SpOk t ∧ S.length ≤ 100000 ∧ k (.lst ((SP.wo S t).map (spD' cl))) M
theorem ok_spans_without {K : PySem.W.Frag} {mg : Str → Option Value} {ad : Nat → Addr} {fd : Nat → FuncData} {cl : Nat → Addr} {P : Program} {w : World} {base : Heap} (T : Txt K mg ad fd cl) : FnOk P w K mg base (L2.CX P w) 9 (ad 29) (fd 29) ["spans", "other"] (spD K 2 (ph_spans_without cl)) := by
  have G_Span_cuts := ok_Span_cuts (P := P) (w := w) (base := base) T
  have G_span_between := ok_span_between (P := P) (w := w) (base := base) T
  have G_earlier_cut := ok_earlier_cut (P := P) (w := w) (base := base) T
  have G_later_cut := ok_later_cut (P := P) (w := w) (base := base) T
  refine fn_D T.F_spans_without sc_spans_without rfl fun cdv A outer s H E hr hp ho => ⟨_, (b_cons (s_set (i := 2) sc_spans_without.nd rfl (Or.inl rfl) (d_lstM a_nil))
  (b_cons (s_for ho rfl (i_seq (dv 0)) (g_name (i := 3) sc_spans_without.nd rfl (Or.inl rfl))
  (b_cons (s_asg (d_meth0 T.ci_Span.cl T.mt_Span_cuts G_Span_cuts (hr.mono (by decide)) T.kb_Span_cuts_1 (fun us ws h1 h2 => match us, ws, h1, h2 with | [_], [], _, _ => rfl) hp (dv 3) k_nil) (g_tup (n := 2) rfl (gs_cons (g_name (i := 4) sc_spans_without.nd rfl (Or.inl rfl)) (gs_cons (g_name (i := 5) sc_spans_without.nd rfl (Or.inl rfl)) gs_nil))))
  (b_cons (s_set (i := 6) sc_spans_without.nd rfl (Or.inl rfl) (d_lst (a_cons (d_call G_span_between (hr.mono (by decide)) rfl T.m_span_between T.k_span_between T.kb_span_between_2 (by intro _ _ h _; exact h) hp (a_cons (dv 4) (a_cons (d_call G_earlier_cut (hr.mono (by decide)) rfl T.m_earlier_cut T.k_earlier_cut T.kb_earlier_cut_2 (by intro _ _ h _; exact h) hp (a_cons (dv 5) (a_cons (d_ix x_ix (d_meth0 T.ci_Span.cl T.mt_Span_cuts G_Span_cuts (hr.mono (by decide)) T.kb_Span_cuts_1 (fun us ws h1 h2 => match us, ws, h1, h2 with | [_], [], _, _ => rfl) hp (dv 1) k_nil) d_int (fun _ _ => rfl)) a_nil))) a_nil))) (a_cons (d_call G_span_between (hr.mono (by decide)) rfl T.m_span_between T.k_span_between T.kb_span_between_2 (by intro _ _ h _; exact h) hp (a_cons (d_call G_later_cut (hr.mono (by decide)) rfl T.m_later_cut T.k_later_cut T.kb_later_cut_2 (by intro _ _ h _; exact h) hp (a_cons (dv 4) (a_cons (d_ix x_ix (d_meth0 T.ci_Span.cl T.mt_Span_cuts G_Span_cuts (hr.mono (by decide)) T.kb_Span_cuts_1 (fun us ws h1 h2 => match us, ws, h1, h2 with | [_], [], _, _ => rfl) hp (dv 1) k_nil) d_int (fun _ _ => rfl)) a_nil))) (a_cons (dv 5) a_nil))) a_nil))))
  (b_one (s_expr (d_bm PySem.F.plainAttrs_list PySem.F.slot_list_extend PySem.F.type_list_extend m_extend (dv 2) (a_cons (d_lc (own := [("part", 7)]) rfl sc_spans_without.nd (i_seq (dv 6)) (blkOk_by (own := [("part", 7)]) (N := ["spans", "other", "found", "span", "first", "last", "parts", "part"]) (sc := (defScope st_spans_without)) (by decide +kernel)) (gp_name (by decide)) (fun _ _ _ _ _ => (pg_name (i := 7) sc_spans_without.nd rfl (Or.inl rfl))) (fun _ _ _ _ _ => (ts_one (t_cmp o_isNotN (dv 7) d_non (nomark _)))) (fun _ _ _ _ _ => (dv 7))) a_nil)))))))
  (b_one (s_retZ (dv 2))))), ?_⟩
  clear hp ho hr G_Span_cuts G_span_between G_earlier_cut G_later_cut
  rintro ds M k x hl ⟨S, t, rfl, oS, st, hz, q⟩
  refine ⟨Nat.zero_le _, fun p hp => ?_⟩
  refine ⟨_, rfl, ?_⟩
  refine ForK.of (fun j ρ M' => ∃ r3 r4 r5 r6 r7, M' = mup M p (.lst ((SP.wo (S.take j) t).map (spD' cl))) ∧ ρ = [some (.lst (S.map (spD' cl))), some (spD' cl t), some (.cel p), r3, r4, r5, r6, r7]) ?_ ?_ ?_
  · exact ⟨_, _, _, _, _, rfl, rfl⟩
  · rintro j d ρ M' hd ⟨r3, r4, r5, r6, r7, rfl, rfl⟩
    obtain ⟨s, hs, rfl⟩ := map_get hd
    have hj : j < S.length := (List.getElem?_eq_some_iff.mp hs).1
    have ss := oS s (List.mem_of_getElem? hs)
    have tk : SP.wo (S.take (j + 1)) t = SP.wo (S.take j) t ++ SP.wo1 s t := by
      unfold SP.wo
      rw [List.take_succ, hs, List.flatMap_append]
      simp
    have zx : CBo (SP.mx s.1 t.2) := SP.p_mx ss.f st.l
    have zn : CBo (SP.mn s.2 t.1) := SP.p_mn ss.l st.f
    refine ⟨_, rfl, _, rfl, rfl, rfl, rfl, _, _, rfl, _, rfl, rfl, _, _, rfl, _, _, rfl, rfl, ?_⟩
    refine ⟨_, rfl, _, rfl, _, rfl, _, rfl, rfl, rfl, rfl, _, _, rfl, _, rfl, rfl, s.2, t.1, rfl, ss.l, st.f, rfl, s.1, SP.mn s.2 t.1, rfl, ss.f, zn, ?_⟩
    refine ⟨_, rfl, _, rfl, _, rfl, rfl, rfl, rfl, _, _, rfl, _, rfl, rfl, s.1, t.2, rfl, ss.f, st.l, _, rfl, rfl, SP.mx s.1 t.2, s.2, rfl, zx, ss.l, Nat.le_of_ble_eq_true rfl, ?_⟩
    refine ⟨_, rfl, ⟨rfl, _, mup_same⟩, _, rfl, ?_⟩
    have key : ∀ (f l : SP.OC), ((if SP.Lin.lt f l then spD' cl (f, l) else .non) : D) = .non ∧ SP.cut2 f l = [] ∨ ((if SP.Lin.lt f l then spD' cl (f, l) else .non) : D) = spD' cl (f, l) ∧ SP.cut2 f l = [(f, l)] := fun f l => by
      unfold SP.cut2
      by_cases e : SP.Lin.lt f l
      · rw [if_pos e, if_pos e]; exact .inr ⟨rfl, rfl⟩
      · rw [if_neg e, if_neg e]; exact .inl ⟨rfl, rfl⟩
    refine LcK.of (Nat.le_of_ble_eq_true rfl) (fun i acc M' => M' = mup M p (.lst ((SP.wo (S.take j) t).map (spD' cl))) ∧ acc = ([(if SP.Lin.lt s.1 (SP.mn s.2 t.1) then spD' cl (s.1, SP.mn s.2 t.1) else D.non), (if SP.Lin.lt (SP.mx s.1 t.2) s.2 then spD' cl (SP.mx s.1 t.2, s.2) else .non)].take i).filter (fun d => !DL.isNon d)) ⟨rfl, rfl⟩ ?_ ?_
    · rintro i d acc M' hd ⟨rfl, rfl⟩
      refine ⟨_, rfl, rfl, _, rfl, ?_⟩
      rw [List.take_succ, hd, List.filter_append]
      refine ite_b (fun e => ?_) (fun e => ?_)
      · have e : (!DL.isNon d) = true := e
        refine ⟨_, rfl, rfl, ?_⟩
        rw [show (some d : Option D).toList = [d] from rfl, filt_y e]
      · have e : (!DL.isNon d) = false := e
        refine ⟨rfl, ?_⟩
        rw [show (some d : Option D).toList = [d] from rfl, filt_n e, List.append_nil]
    · rintro acc M' ⟨rfl, rfl⟩
      have tot : List.filter (fun d => !DL.isNon d) (List.take [(if SP.Lin.lt s.1 (SP.mn s.2 t.1) then spD' cl (s.1, SP.mn s.2 t.1) else D.non), (if SP.Lin.lt (SP.mx s.1 t.2) s.2 then spD' cl (SP.mx s.1 t.2, s.2) else .non)].length [(if SP.Lin.lt s.1 (SP.mn s.2 t.1) then spD' cl (s.1, SP.mn s.2 t.1) else D.non), (if SP.Lin.lt (SP.mx s.1 t.2) s.2 then spD' cl (SP.mx s.1 t.2, s.2) else .non)]) = (SP.wo1 s t).map (spD' cl) := by
        rw [List.take_length]
        unfold SP.wo1
        rcases key s.1 (SP.mn s.2 t.1) with ⟨e1, e2⟩ | ⟨e1, e2⟩ <;> rcases key (SP.mx s.1 t.2) s.2 with ⟨e3, e4⟩ | ⟨e3, e4⟩ <;> rw [e1, e2, e3, e4] <;> rfl
      rw [tot]
      refine ⟨_, mup_same, ?_, ?_⟩
      · rw [List.length_map, List.length_map, ← List.length_append, ← tk]
        refine Nat.le_trans (SP.len_flat (n := 2) fun s _ => ?_) ?_
        · unfold SP.wo1
          rw [List.length_append]
          have := SP.len_cut2 (f := s.1) (l := SP.mn s.2 t.1)
          have := SP.len_cut2 (f := SP.mx s.1 t.2) (l := s.2)
          omega
        · rw [List.length_take]
          have : (200000 : Nat) ≤ sizeLine := by decide
          omega
      refine ⟨_, _, _, _, _, ?_, rfl⟩
      rw [mup_mup, tk, List.map_append]
  · rintro ρ M' ⟨r3, r4, r5, r6, r7, rfl, rfl⟩
    refine ⟨_, rfl, p, _, rfl, mup_same, hp, ?_⟩
    show k _ (mdel (mup M p _) p)
    rw [mdel_mup hp, List.length_map, List.take_length]
    exact q

end W08
set_option Elab.async false
set_option linter.all false
set_option maxRecDepth 100000
set_option maxHeartbeats 4000000
set_option pp.deepTerms false
set_option pp.deepTerms.threshold 12
set_option pp.maxSteps 4000
namespace W08
open PySem PySem.Spec PyProof.Rows L2 DL
local macro_rules | `(tactic| walk_at "sc") => `(tactic| first | assumption | rfl | exact Nat.le_of_ble_eq_true rfl | decide | omega | exact mul_small (by omega) (by omega) | exact mul_smallR (by omega) (by omega) | exact ⟨by decide, by decide, by decide⟩ | exact ⟨by omega, by assumption⟩ | exact ⟨by decide, log2_small (by decide) (by decide)⟩)
local macro_rules | `(tactic| walk_at "go1") => `(tactic| first | refine ⟨_, rfl, ?_⟩ | refine ⟨rfl, ?_⟩ | refine ⟨_, by assumption, ?_⟩ | refine ⟨_, mup_same, ?_⟩ | refine eqI ?_ | refine neI ?_ | refine iteT ?_ | refine iteF ?_ | refine ⟨(by walk_at "sc"), ?_⟩)
local macro_rules | `(tactic| walk_at "go") => `(tactic| repeat walk_at "go1")
/-- a spread -/
def sprd (cl : Nat → Addr) (S : List SpT) : D := .obj (cl 2) [("own_spans", .lst (S.map (spD' cl)))]
structure SrOk (S : List SpT) : Prop where
  can : SP.Canon S
  ok : AllOk S
theorem SrOk.of {S F : List SpT} (h : AllOk S) (m : SP.Mg S F) : SrOk F := ⟨m.can, allOk_of m.can.val (m.all CBo h.b)⟩
def ph_Spread___init__ (cl : Nat → Addr) : Ct := fun ds M k _ => ∃ (p : Addr) (u : D) (S : List SpT), ds = [.cel p, u] ∧ SeqD u (S.map (spD' cl)) ∧ M p = some (.ins (cl 2) []) ∧ AllOk S ∧ S.length ≤ 100000 ∧ ∀ F, SP.Mg S F → k .non (mup M p (.ins (cl 2) [("own_spans", .lst (F.map (spD' cl)))]))
theorem mkP {cl : Nat → Addr} {M : Mm} {k : DK} {x : DX} {u : D} {S : List SpT} {gD : List D → List D → List D} {ds zs : List D} (h : ∀ p, gD (.cel p :: ds) zs = [.cel p, u]) (hu : SeqD u (S.map (spD' cl))) (ok : AllOk S) (hz : S.length ≤ 100000) (q : ∀ F, SP.Mg S F → k (sprd cl F) M) : mkC (cl 2) (ph_Spread___init__ cl) gD ds zs M k x := by
  intro p hp
  refine ⟨p, u, S, h p, hu, mup_same, ok, hz, fun F hF => ⟨rfl, _, mup_same, ?_⟩⟩
  rw [mup_mup, mdel_mup hp]
  exact q F hF
theorem ok_Spread___init__ {K : PySem.W.Frag} {mg : Str → Option Value} {ad : Nat → Addr} {fd : Nat → FuncData} {cl : Nat → Addr} {P : Program} {w : World} {base : Heap} (T : Txt K mg ad fd cl) : FnOk P w K mg base (L2.CX P w) 11 (ad 30) (fd 30) ["self", "spans"] (spD K 2 (ph_Spread___init__ cl)) := by
  have G_merged := ok_merged (P := P) (w := w) (base := base) T
  refine fn_D T.F_Spread___init__ sc_Spread___init__ rfl fun cdv A outer s H E hr hp ho => ⟨_, (b_cons (s_for ho rfl (i_seq (dv 1)) (g_name (i := 2) sc_Spread___init__.nd rfl (Or.inl rfl))
  (b_one (s_if (t_not (t_val (d_isiC (cl 1) (CS cl) T.isiC_Span T.isiB_Span rfl T.b_isinstance rfl T.m_Span (dv 2)))) (b_one s_never) b_nil)))
  (b_one (s_fld [cl 2] (one_cls T.ci_Spread.cl T.na_Spread_own_spans) (d_call G_merged (hr.mono (by decide)) rfl T.m_merged T.k_merged T.kb_merged_1 (by intro _ _ h _; exact h) hp (a_cons (dv 1) a_nil)) (dv 0) rfl))), ?_⟩
  clear hp ho hr G_merged
  rintro ds M k x hl ⟨p, u, S, rfl, hu, hm, ok, hz, q⟩
  refine ⟨_, rfl, seq_items hu ?_⟩
  refine ForK.of (fun j ρ M' => ∃ r2, M' = M ∧ ρ = [some (.cel p), some u, r2]) ⟨_, rfl, rfl⟩ ?_ ?_
  · rintro j d ρ M' hd ⟨r2, rfl, rfl⟩
    obtain ⟨s, hs, rfl⟩ := map_get hd
    refine ⟨_, rfl, List.mem_cons_of_mem _ List.mem_cons_self, _, rfl, ?_⟩
    rw [decide_eq_true rfl]
    exact iteF ⟨_, rfl, rfl⟩
  · rintro ρ M' ⟨r2, rfl, rfl⟩
    refine ⟨_, rfl, rfl, u, S, rfl, hu, ok, hz, fun F hF => ?_⟩
    exact ⟨_, rfl, p, _, _, rfl, hm, .head _, Nat.le_of_ble_eq_true rfl, q F hF⟩
def ph_Spread___or__ (cl : Nat → Addr) : Ct := fun ds M k _ => ∃ S T : List SpT, ds = [sprd cl S, sprd cl T] ∧ AllOk S ∧ AllOk T ∧ S.length + T.length ≤ 100000 ∧ ∀ F, SP.Mg (S ++ T) F → k (sprd cl F) M
theorem ok_Spread___or__ {K : PySem.W.Frag} {mg : Str → Option Value} {ad : Nat → Addr} {fd : Nat → FuncData} {cl : Nat → Addr} {P : Program} {w : World} {base : Heap} (T : Txt K mg ad fd cl) : FnOk P w K mg base (L2.CX P w) 13 (ad 32) (fd 32) ["self", "other"] (spD K 2 (ph_Spread___or__ cl)) := by
  have G_Spread___init__ := ok_Spread___init__ (P := P) (w := w) (base := base) T
  refine fn_D T.F_Spread___or__ sc_Spread___or__ rfl fun cdv A outer s H E hr hp ho => ⟨_, (b_one (s_ret (d_make T.mk_Spread G_Spread___init__ (hr.mono (by decide)) rfl T.m_Spread T.kb_Spread___init___2 (fun us ws h1 h2 => match us, ws, h1, h2 with | [_, _], [], _, _ => rfl) hp (a_cons (d_op o_add (d_fld [cl 2] (one_cls T.ci_Spread.cl T.na_Spread_own_spans) (dv 0)) (d_fld [cl 2] (one_cls T.ci_Spread.cl T.na_Spread_own_spans) (dv 1))) a_nil) k_nil))), ?_⟩
  clear hp ho hr G_Spread___init__
  rintro ds M k x hl ⟨S, T, rfl, oS, oT, hz, q⟩
  refine ⟨_, rfl, _, _, _, rfl, .head _, rfl, _, rfl, _, _, _, rfl, .head _, rfl, ?_, rfl, rfl, mkP (S := S ++ T) (fun _ => rfl) (.inl (by rw [List.map_append])) ?_ ?_ q⟩
  · rw [List.length_map, List.length_map]
    exact Nat.le_trans hz (by decide)
  · intro s hs
    rcases List.mem_append.mp hs with h | h
    · exact oS s h
    · exact oT s h
  · rw [List.length_append]; exact hz
def ph_Spread___and__ (cl : Nat → Addr) : Ct := fun ds M k _ => ∃ S T : List SpT, ds = [sprd cl S, sprd cl T] ∧ AllOk S ∧ AllOk T ∧ S.length * T.length ≤ 100000 ∧ ∀ F, SP.Mg (SP.cm S T) F → k (sprd cl F) M
theorem ok_Spread___and__ {K : PySem.W.Frag} {mg : Str → Option Value} {ad : Nat → Addr} {fd : Nat → FuncData} {cl : Nat → Addr} {P : Program} {w : World} {base : Heap} (T : Txt K mg ad fd cl) : FnOk P w K mg base (L2.CX P w) 13 (ad 33) (fd 33) ["self", "other"] (spD K 2 (ph_Spread___and__ cl)) := by
  have G_Spread___init__ := ok_Spread___init__ (P := P) (w := w) (base := base) T
  have G_common_spans := ok_common_spans (P := P) (w := w) (base := base) T
  refine fn_D T.F_Spread___and__ sc_Spread___and__ rfl fun cdv A outer s H E hr hp ho => ⟨_, (b_one (s_ret (d_make T.mk_Spread G_Spread___init__ (hr.mono (by decide)) rfl T.m_Spread T.kb_Spread___init___2 (fun us ws h1 h2 => match us, ws, h1, h2 with | [_, _], [], _, _ => rfl) hp (a_cons (d_call G_common_spans (hr.mono (by decide)) rfl T.m_common_spans T.k_common_spans T.kb_common_spans_2 (by intro _ _ h _; exact h) hp (a_cons (d_fld [cl 2] (one_cls T.ci_Spread.cl T.na_Spread_own_spans) (dv 0)) (a_cons (d_fld [cl 2] (one_cls T.ci_Spread.cl T.na_Spread_own_spans) (dv 1)) a_nil))) a_nil) k_nil))), ?_⟩
  clear hp ho hr G_Spread___init__ G_common_spans
  rintro ds M k x hl ⟨S, T, rfl, oS, oT, hz, q⟩
  refine ⟨_, rfl, _, _, _, rfl, .head _, rfl, _, rfl, _, _, _, rfl, .head _, rfl, rfl, S, T, rfl, oS, oT, hz, rfl, rfl, mkP (S := SP.cm S T) (fun _ => rfl) (.inl rfl) ?_ (Nat.le_trans SP.len_cm hz) q⟩
  intro s hs
  obtain ⟨h1, h2, h3⟩ := SP.all_cm oS.b oT.b s hs
  exact ⟨h1, h2, h3⟩
theorem woL_ok {S T : List SpT} (h : SrOk S) (oT : AllOk T) : AllOk (SP.woL S T) := by
  have hc := SP.woL_after oT.v h.can
  refine allOk_of hc.val ?_
  have : ∀ (T : List SpT) (S : List SpT), (∀ s ∈ S, CBo s.1 ∧ CBo s.2) → (∀ s ∈ T, CBo s.1 ∧ CBo s.2) → ∀ s ∈ SP.woL S T, CBo s.1 ∧ CBo s.2 := by
    intro T
    induction T with
    | nil => intro S h1 _; exact h1
    | cons t T ih =>
      intro S h1 h2
      exact ih (SP.wo S t) (fun s hs => (SP.all_wo (P := CBo) h1 (h2 t List.mem_cons_self) s hs).2) fun s hs => h2 s (List.mem_cons_of_mem _ hs)
  exact this T S h.ok.b oT.b
def ph_Spread___sub__ (cl : Nat → Addr) : Ct := fun ds M k _ => ∃ S T : List SpT, ds = [sprd cl S, sprd cl T] ∧ SrOk S ∧ AllOk T ∧ S.length + T.length ≤ 100000 ∧ ∀ F, SP.Mg (SP.woL S T) F → k (sprd cl F) M
theorem ok_Spread___sub__ {K : PySem.W.Frag} {mg : Str → Option Value} {ad : Nat → Addr} {fd : Nat → FuncData} {cl : Nat → Addr} {P : Program} {w : World} {base : Heap} (T : Txt K mg ad fd cl) : FnOk P w K mg base (L2.CX P w) 13 (ad 34) (fd 34) ["self", "other"] (spD K 2 (ph_Spread___sub__ cl)) := by
  have G_spans_without := ok_spans_without (P := P) (w := w) (base := base) T
  have G_Spread___init__ := ok_Spread___init__ (P := P) (w := w) (base := base) T
  refine fn_D T.F_Spread___sub__ sc_Spread___sub__ rfl fun cdv A outer s H E hr hp ho => ⟨_, (b_cons (s_set (i := 2) sc_Spread___sub__.nd rfl (Or.inl rfl) (d_callTy c_list rfl T.b_list boot_list' (a_cons (d_fld [cl 2] (one_cls T.ci_Spread.cl T.na_Spread_own_spans) (dv 0)) a_nil)))
  (b_cons (s_for ho rfl (i_seq (d_fld [cl 2] (one_cls T.ci_Spread.cl T.na_Spread_own_spans) (dv 1))) (g_name (i := 3) sc_Spread___sub__.nd rfl (Or.inl rfl))
  (b_one (s_set (i := 2) sc_Spread___sub__.nd rfl (Or.inl rfl) (d_call G_spans_without (hr.mono (by decide)) rfl T.m_spans_without T.k_spans_without T.kb_spans_without_2 (by intro _ _ h _; exact h) hp (a_cons (dv 2) (a_cons (dv 3) a_nil))))))
  (b_one (s_ret (d_make T.mk_Spread G_Spread___init__ (hr.mono (by decide)) rfl T.m_Spread T.kb_Spread___init___2 (fun us ws h1 h2 => match us, ws, h1, h2 with | [_, _], [], _, _ => rfl) hp (a_cons (dv 2) a_nil) k_nil))))), ?_⟩
  clear hp ho hr G_spans_without G_Spread___init__
  rintro ds M k x hl ⟨S, T, rfl, cS, oT, hz, q⟩
  refine ⟨_, rfl, _, _, _, rfl, .head _, rfl, _, rfl, _, _, _, rfl, .head _, rfl, ?_⟩
  refine ForK.of (fun j ρ M' => ∃ r3, M' = M ∧ ρ = [some (sprd cl S), some (sprd cl T), some (.lst ((SP.woL S (T.take j)).map (spD' cl))), r3]) ⟨_, rfl, rfl⟩ ?_ ?_
  · rintro j d ρ M' hd ⟨r3, rfl, rfl⟩
    obtain ⟨t, ht, rfl⟩ := map_get hd
    have vT : SP.Val (T.take j) := fun s hs => oT.v s (List.mem_of_mem_take hs)
    have hj : j < T.length := (List.getElem?_eq_some_iff.mp ht).1
    refine ⟨_, rfl, _, rfl, rfl, SP.woL S (T.take j), t, rfl, woL_ok cS (fun s hs => oT s (List.mem_of_mem_take hs)), oT t (List.mem_of_getElem? ht), ?_, ?_⟩
    · have := SP.len_woL vT cS.can
      rw [List.length_take] at this
      omega
    · refine ⟨some (spD' cl t), rfl, ?_⟩
      rw [List.take_succ, ht]
      show _ = [_, _, some (D.lst (List.map _ (SP.woL S (T.take j ++ [t])))), _]
      unfold SP.woL
      rw [List.foldl_append]
      rfl
  · rintro ρ M' ⟨r3, rfl, rfl⟩
    rw [List.length_map, List.take_length]
    have := SP.len_woL oT.v cS.can
    exact ⟨_, rfl, rfl, rfl, mkP (S := SP.woL S T) (fun _ => rfl) (.inl rfl) (woL_ok cS oT) (by omega) q⟩
def ph_Spread___bool__ (cl : Nat → Addr) : Ct := fun ds M k _ => ∃ S : List SpT, ds = [sprd cl S] ∧ k (.bl (!S.isEmpty)) M
theorem ok_Spread___bool__ {K : PySem.W.Frag} {mg : Str → Option Value} {ad : Nat → Addr} {fd : Nat → FuncData} {cl : Nat → Addr} {P : Program} {w : World} {base : Heap} (T : Txt K mg ad fd cl) : FnOk P w K mg base (L2.CX P w) 1 (ad 35) (fd 35) ["self"] (spD K 1 (ph_Spread___bool__ cl)) := by
  refine fn_D T.F_Spread___bool__ sc_Spread___bool__ rfl fun cdv A outer s H E hr hp ho => ⟨_, (b_one (s_ret (d_callTy c_bool rfl T.b_bool boot_bool' (a_cons (d_cmp o_gt (d_callB c_len rfl T.b_len boot_len' (a_cons (d_fld [cl 2] (one_cls T.ci_Spread.cl T.na_Spread_own_spans) (dv 0)) a_nil)) d_int (nomark _)) a_nil)))), ?_⟩
  clear hp ho hr
  rintro ds M k x hl ⟨S, rfl, q⟩
  refine ⟨_, rfl, _, _, _, rfl, .head _, rfl, ?_⟩
  have : decide ((0 : Int) < (S.length : Int)) = !S.isEmpty := by
    cases S with
    | nil => rfl
    | cons s S =>
      rw [List.length_cons]
      exact decide_eq_true (by omega)
  show k (.bl (decide ((0 : Int) < ((S.map (spD' cl)).length : Int)))) M
  rw [List.length_map, this]
  exact q
def ph_Spread_within (cl : Nat → Addr) : Ct := fun ds M k _ => ∃ S T : List SpT, ds = [sprd cl S, sprd cl T] ∧ SrOk S ∧ AllOk T ∧ S.length + T.length ≤ 100000 ∧ ∀ F, SP.Mg (SP.woL S T) F → k (.bl F.isEmpty) M
theorem ok_Spread_within {K : PySem.W.Frag} {mg : Str → Option Value} {ad : Nat → Addr} {fd : Nat → FuncData} {cl : Nat → Addr} {P : Program} {w : World} {base : Heap} (T : Txt K mg ad fd cl) : FnOk P w K mg base (L2.CX P w) 15 (ad 36) (fd 36) ["self", "other"] (spD K 2 (ph_Spread_within cl)) := by
  have G_Spread___bool__ := ok_Spread___bool__ (P := P) (w := w) (base := base) T
  have G_Spread___sub__ := ok_Spread___sub__ (P := P) (w := w) (base := base) T
  refine fn_D T.F_Spread_within sc_Spread_within rfl fun cdv A outer s H E hr hp ho => ⟨_, (b_one (s_ret (d_notO T.sp_Spread___bool__ T.fn_Spread___bool__ G_Spread___bool__ T.kb_Spread___bool___1 (hr.mono (by decide)) hp (d_op (o_sel (o_own T.sp_Spread___sub__ T.fn_Spread___sub__ T.sf_Spread G_Spread___sub__ T.kb_Spread___sub___2 (hr.mono (by decide)) hp) o_sub) (dv 0) (dv 1))))), ?_⟩
  clear hp ho hr G_Spread___bool__ G_Spread___sub__
  rintro ds M k x hl ⟨S, T, rfl, cS, oT, hz, q⟩
  refine ⟨_, rfl, _, rfl, ⟨_, rfl⟩, ⟨_, rfl⟩, S, T, rfl, cS, oT, hz, fun F hF => ?_⟩
  refine ⟨⟨_, rfl⟩, F, rfl, _, rfl, ?_⟩
  rw [Bool.not_not]
  exact q F hF
/-- a comprehension over a list of images -/
theorem lc_mapS {α : Type} {γ : DG} {ε : DE} {vs : List Nat} {ρ : DEnv} {M : Mm} {k : DK} {S : List α} {g : α → D} (f : α → D) (hl : (S.map g).length < sizeLine)
    (he : ∀ s ∈ S, ∀ K : DK, K (f s) M → γ (g s) (wipeD ρ vs) M fun ρ1 M2 => ε ρ1 M2 K (fun _ _ _ => False))
    (gm : ∀ d (K K' : DEnv → Mm → Prop), (∀ ρ M, K ρ M → K' ρ M) → γ d (wipeD ρ vs) M K → γ d (wipeD ρ vs) M K') (hk : k (.lst (S.map f)) M) : LcK γ dYes ε vs ρ (S.map g) M k := by
  refine .of hl (fun j acc M' => M' = M ∧ acc = (S.take j).map f) ⟨rfl, rfl⟩ (fun j d acc M' hd ⟨e1, e2⟩ => ?_) (fun acc M' ⟨e1, e2⟩ => ?_)
  · subst e1 e2
    obtain ⟨s, hs, rfl⟩ := map_get hd
    have hn : List.map f (List.take j S) ++ [f s] = List.map f (List.take (j + 1) S) := by
      rw [List.take_succ, hs]
      simp
    refine gm _ _ _ (fun ρ1 M2 hh => ?_) (he s (List.mem_of_getElem? hs) (fun y M4 => M4 = M' ∧ List.map f (List.take j S) ++ [y] = List.map f (List.take (j + 1) S)) ⟨rfl, hn⟩)
    unfold dYes
    dsimp only
    rw [if_pos rfl]
    exact hh
  · subst e1 e2
    rw [List.length_map, List.take_length]
    exact hk
def ph_Spread___contains__ (cl : Nat → Addr) : Ct := fun ds M k _ => ∃ (S : List SpT) (u : D), ds = [sprd cl S, u] ∧ AllOk S ∧ S.length ≤ 100000 ∧ ((∃ p q : Int, u = rat cl p q ∧ RT.Nf p q ∧ Sm p ∧ Sm q ∧ k (.bl (S.any fun s => RT.inB s.1.1 s.2.1 p q)) M) ∨ (NotC cl 0 u M ∧ k (.bl false) M))
theorem ok_Spread___contains__ {K : PySem.W.Frag} {mg : Str → Option Value} {ad : Nat → Addr} {fd : Nat → FuncData} {cl : Nat → Addr} {P : Program} {w : World} {base : Heap} (T : Txt K mg ad fd cl) : FnOk P w K mg base (L2.CX P w) 7 (ad 37) (fd 37) ["self", "value"] (spD K 2 (ph_Spread___contains__ cl)) := by
  have G_Span___contains__ := ok_Span___contains__ (P := P) (w := w) (base := base) T
  refine fn_D T.F_Spread___contains__ sc_Spread___contains__ rfl fun cdv A outer s H E hr hp ho => ⟨_, (b_one (s_ret (d_callB (c_any rfl) rfl T.b_any boot_any' (a_cons (d_lc (own := [("span", 2)]) rfl sc_Spread___contains__.nd (i_seq (d_fld [cl 2] (one_cls T.ci_Spread.cl T.na_Spread_own_spans) (dv 0))) (blkOk_by (own := [("span", 2)]) (N := ["self", "value", "span"]) (sc := (defScope st_Spread___contains__)) (by decide +kernel)) (gp_name (by decide)) (fun _ _ _ _ _ => (pg_name (i := 2) sc_Spread___contains__.nd rfl (Or.inl rfl))) (fun _ _ _ _ _ => ts_nil) (fun _ _ _ _ _ => (d_cmp (o_ownIn T.sp_Span___contains__ T.fn_Span___contains__ G_Span___contains__ T.kb_Span___contains___2 (hr.mono (by decide)) passL) (dv 1) (dv 2) rfl))) a_nil)))), ?_⟩
  clear hp ho hr G_Span___contains__
  rintro ds M k x hl ⟨S, u, rfl, oS, hz, h⟩
  refine ⟨_, rfl, _, _, _, rfl, .head _, rfl, ?_⟩
  have hz' : (S.map (spD' cl)).length < sizeLine := by rw [List.length_map]; exact Nat.lt_of_le_of_lt hz (by decide)
  rcases h with ⟨p, q, rfl, n, sp, sq, kk⟩ | ⟨hu, kk⟩
  · refine lc_mapS (fun s : SpT => .bl (RT.inB s.1.1 s.2.1 p q)) hz' (fun s hs K hK => ?_) (fun d K K' => gN_mono K K') ?_
    · have ss := oS s hs
      exact ⟨_, rfl, _, rfl, ⟨_, rfl⟩, s.1.1, s.2.1, _, rfl, .inl ⟨p, q, rfl, n, sp, sq, s.1.2, s.2.2, ss.f, ss.l, _, rfl, hK⟩⟩
    · refine ⟨S.map fun s => RT.inB s.1.1 s.2.1 p q, by rw [List.map_map]; rfl, ?_⟩
      rw [List.any_map]
      exact kk
  · refine lc_mapS (fun s : SpT => .bl false) hz' (fun s hs K hK => ?_) (fun d K K' => gN_mono K K') ?_
    · exact ⟨_, rfl, _, rfl, ⟨_, rfl⟩, s.1.1, s.2.1, _, rfl, .inr ⟨hu, _, rfl, hK⟩⟩
    · refine ⟨S.map fun s => false, by rw [List.map_map]; rfl, ?_⟩
      have : (List.map (fun s : SpT => false) S).any id = false := by
        rw [List.any_map]
        simp
      rw [this]
      exact kk
theorem gT2_mono {i j : Nat} {d : D} {ρ : DEnv} {M : Mm} (K K' : DEnv → Mm → Prop) (h : ∀ ρ M, K ρ M → K' ρ M) (q : gTupD 2 (gsCons (gN i) (gsCons (gN j) gsNil)) d ρ M K) : gTupD 2 (gsCons (gN i) (gsCons (gN j) gsNil)) d ρ M K' := by
  obtain ⟨ds, e, l, d1, r1, e1, d2, r2, e2, e3, q⟩ := q
  exact ⟨ds, e, l, d1, r1, e1, d2, r2, e2, e3, h _ _ q⟩
theorem zips_map {α β : Type} {f : α → D} {g : β → D} : ∀ (S : List α) (T : List β), zips (S.map f) (T.map g) = (S.zip T).map fun z => .tup [f z.1, g z.2]
  | [], _ => rfl
  | _ :: _, [] => rfl
  | s :: S, t :: T => by simp [zips, zips_map S T]
theorem spt_dec (s t : SpT) : decide (s = t) = (decide (s.1.1 = t.1.1) && decide (s.2.1 = t.2.1)) := by
  rw [← Bool.decide_and]
  apply decide_eq_decide.mpr
  constructor
  · intro h; rw [h]; exact ⟨rfl, rfl⟩
  · rintro ⟨h1, h2⟩; exact Prod.ext (Subtype.ext h1) (Subtype.ext h2)
theorem zip_all {α : Type} [DecidableEq α] : ∀ {S T : List α}, S.length = T.length → (S.zip T).all (id ∘ fun z => decide (z.1 = z.2)) = decide (S = T)
  | [], [], _ => rfl
  | s :: S, t :: T, h => by
    have ih := zip_all (S := S) (T := T) (by simpa using h)
    rw [List.zip_cons_cons, List.all_cons, ih]
    show (decide (s = t) && _) = _
    rw [← Bool.decide_and]
    apply decide_eq_decide.mpr
    simp
def ph_Spread___eq__ (cl : Nat → Addr) : Ct := fun ds M k _ => ∃ S T : List SpT, ds = [sprd cl S, sprd cl T] ∧ S.length ≤ 100000 ∧ k (.bl (decide (S = T))) M
theorem ok_Spread___eq__ {K : PySem.W.Frag} {mg : Str → Option Value} {ad : Nat → Addr} {fd : Nat → FuncData} {cl : Nat → Addr} {P : Program} {w : World} {base : Heap} (T : Txt K mg ad fd cl) : FnOk P w K mg base (L2.CX P w) 5 (ad 38) (fd 38) ["self", "other"] (spD K 2 (ph_Spread___eq__ cl)) := by
  have G_Span___eq__ := ok_Span___eq__ (P := P) (w := w) (base := base) T
  refine fn_D T.F_Spread___eq__ sc_Spread___eq__ rfl fun cdv A outer s H E hr hp ho => ⟨_, (b_cons (s_if (DPW.t (w_or (t_not (t_val (d_isiC (cl 2) (CS cl) T.isiC_Spread T.isiB_Spread rfl T.b_isinstance rfl T.m_Spread (dv 1)))) (w_or1 (t_cmp (o_ne hr.units) (d_callB c_len rfl T.b_len boot_len' (a_cons (d_fld [cl 2] (one_cls T.ci_Spread.cl T.na_Spread_own_spans) (dv 0)) a_nil)) (d_callB c_len rfl T.b_len boot_len' (a_cons (d_fld [cl 2] (one_cls T.ci_Spread.cl T.na_Spread_own_spans) (dv 1)) a_nil)) (nomark _))))) (b_one (s_ret d_bl)) b_nil)
  (b_one (s_ret (d_callB (c_all rfl) rfl T.b_all boot_all' (a_cons (d_lc (own := [("one", 2), ("late", 3)]) rfl sc_Spread___eq__.nd (i_zip rfl T.b_zip (a_cons (d_fld [cl 2] (one_cls T.ci_Spread.cl T.na_Spread_own_spans) (dv 0)) (a_cons (d_fld [cl 2] (one_cls T.ci_Spread.cl T.na_Spread_own_spans) (dv 1)) a_nil))) (blkOk_by (own := [("one", 2), ("late", 3)]) (N := ["self", "other", "one", "late"]) (sc := (defScope st_Spread___eq__)) (by decide +kernel)) (gp_tup (n := 2) (gps_cons (gp_name (by decide)) (gps_cons (gp_name (by decide)) gps_nil))) (fun _ _ _ _ _ => (pg_tup (n := 2) rfl (pgs_cons (pg_name (i := 2) sc_Spread___eq__.nd rfl (Or.inl rfl)) (pgs_cons (pg_name (i := 3) sc_Spread___eq__.nd rfl (Or.inl rfl)) pgs_nil)))) (fun _ _ _ _ _ => ts_nil) (fun _ _ _ _ _ => (d_cmp (o_sel (o_ownEq T.sp_Span___eq__ T.fn_Span___eq__ G_Span___eq__ T.kb_Span___eq___2 (hr.mono (by decide)) passL) (o_eq hr.units)) (dv 2) (dv 3) (nomark _)))) a_nil))))), ?_⟩
  clear hp ho hr G_Span___eq__
  rintro ds M k x hl ⟨S, T, rfl, hz, q⟩
  refine ⟨_, rfl, List.mem_cons_of_mem _ (List.mem_cons_of_mem _ List.mem_cons_self), _, rfl, ?_⟩
  rw [decide_eq_true rfl]
  refine iteF ?_
  refine ⟨_, rfl, _, _, _, rfl, .head _, rfl, _, rfl, _, _, _, rfl, .head _, rfl, neI ⟨_, rfl, ?_⟩⟩
  rw [List.length_map, List.length_map]
  by_cases e : S.length = T.length
  · have e' : ((S.length : Int) = (T.length : Int)) := by omega
    rw [decide_eq_true e']
    refine iteF ?_
    refine ⟨_, rfl, _, _, _, rfl, .head _, rfl, _, rfl, _, _, _, rfl, .head _, rfl, ?_⟩
    show LcK _ _ _ _ _ (zips (S.map (spD' cl)) (T.map (spD' cl))) _ _
    rw [zips_map]
    refine lc_mapS (fun z : SpT × SpT => .bl (decide (z.1 = z.2))) ?_ (fun z hz K hK => ?_) (fun d K K' => gT2_mono K K') ?_
    · rw [List.length_map, List.length_zip]
      have : (100000 : Nat) < sizeLine := by decide
      omega
    · refine ⟨_, rfl, rfl, _, _, rfl, _, _, rfl, rfl, _, rfl, _, rfl, ⟨_, rfl⟩, ⟨_, rfl⟩, z.1.1.1, z.1.2.1, z.2.1.1, z.2.2.1, rfl, ?_⟩
      rw [spt_dec] at hK
      exact hK
    · refine ⟨(S.zip T).map fun z => decide (z.1 = z.2), by rw [List.map_map]; rfl, ?_⟩
      rw [List.all_map]
      have : (S.zip T).all (id ∘ fun z => decide (z.1 = z.2)) = decide (S = T) := zip_all e
      rw [this]
      exact q
  · have e' : ¬ ((S.length : Int) = (T.length : Int)) := by omega
    rw [decide_eq_false e']
    refine iteT ?_
    rw [decide_eq_false (fun z => e (by rw [z]))] at q
    exact q

end W08
set_option Elab.async false
set_option linter.all false
set_option maxRecDepth 100000
set_option maxHeartbeats 4000000
set_option pp.deepTerms false
set_option pp.deepTerms.threshold 12
set_option pp.maxSteps 4000
namespace W08
open PySem PySem.Spec PyProof.Rows L2 DL
local macro_rules | `(tactic| walk_at "sc") => `(tactic| first | assumption | rfl | exact Nat.le_of_ble_eq_true rfl | decide | omega | exact mul_small (by omega) (by omega) | exact mul_smallR (by omega) (by omega) | exact ⟨by decide, by decide, by decide⟩ | exact ⟨by omega, by assumption⟩ | exact ⟨by decide, log2_small (by decide) (by decide)⟩)
local macro_rules | `(tactic| walk_at "go1") => `(tactic| first | refine ⟨_, rfl, ?_⟩ | refine ⟨rfl, ?_⟩ | refine ⟨_, by assumption, ?_⟩ | refine ⟨_, mup_same, ?_⟩ | refine eqI ?_ | refine neI ?_ | refine iteT ?_ | refine iteF ?_ | refine ⟨(by walk_at "sc"), ?_⟩)
local macro_rules | `(tactic| walk_at "go") => `(tactic| repeat walk_at "go1")

/-- the law's bag: cells, place, rest of a great cell, seed, count -/
structure Bag where
  cells : List Int
  pos : Nat
  great : Int
  seed : Int
  cnt : Int
def Bag.mo (b : Bag) : MO := .lst [.lst (b.cells.map .int), .int b.pos, .int b.great, .int b.seed, .int b.cnt]
structure Bag.Ok (b : Bag) : Prop where
  s0 : 0 ≤ b.seed
  s1 : b.seed < 4294967296
theorem mul_small {i j : Int} (h0 : 0 ≤ i) (h1 : i < 18446744073709551616) : MulOk i j := .inl (.inl ⟨by omega, by omega⟩)
theorem mul_smallR {i j : Int} (h0 : -18446744073709551616 < j) (h1 : j < 18446744073709551616) : MulOk i j := .inl (.inr ⟨by omega, by omega⟩)
theorem log2_small {j : Int} (h0 : 0 < j) (h1 : j < 18446744073709551616) : j.natAbs.log2 < 9000 := by
  have : j.natAbs < 2 ^ 64 := by omega
  exact Nat.lt_of_lt_of_le (PySem.Flt.log2_lt_of (by decide) this) (by decide)

theorem mup2 {M : Mm} {p r : Addr} {a b L : MO} (ne : r ≠ p) : mup (mup (mup M p a) r L) p b = mup (mup M p b) r L := by
  funext c
  unfold mup
  by_cases e : c = r
  · subst e; rw [if_neg ne, if_pos rfl, if_pos rfl]
  · rw [if_neg e, if_neg e]
    by_cases e2 : c = p
    · rw [if_pos e2, if_pos e2]
    · rw [if_neg e2, if_neg e2, if_neg e2]
theorem mup2_at {M : Mm} {p r : Addr} {a L : MO} (ne : r ≠ p) : mup (mup M p a) r L p = some a := by rw [mup_ne (Ne.symm ne), mup_same]

def ph__law_start : Ct := fun ds M k _ => ∃ ns : List Int, ds = [.scr ns] ∧ ns.length ≤ 63 ∧ ∀ p b, M p = none → Bag.Ok b → k (.cel p) (mup M p b.mo)
theorem ok__law_start {K : PySem.W.Frag} {mg : Str → Option Value} {ad : Nat → Addr} {fd : Nat → FuncData} {cl : Nat → Addr} {P : Program} {w : World} {base : Heap} (T : Txt K mg ad fd cl) : FnOk P w K mg base (L2.CX P w) 1 (ad 39) (fd 39) ["_law_script"] (spD K 1 ph__law_start) := by
  refine fn_D T.F__law_start sc__law_start rfl fun cdv A outer s H E hr hp ho => ⟨_, (b_one (s_ret (d_lstM (a_cons (d_callTy c_list rfl T.b_list boot_list' (a_cons (d_slice sl_D (dv 0) o_none (o_some d_int)) a_nil)) (a_cons d_int (a_cons d_int (a_cons (d_op o_add d_int (d_callB c_len rfl T.b_len boot_len' (a_cons (dv 0) a_nil))) (a_cons d_int a_nil)))))))), ?_⟩
  clear hp ho hr
  rintro ds M k x hl ⟨ns, rfl, hn, q⟩
  refine ⟨_, rfl, _, rfl, _, rfl, ?_⟩
  refine ⟨by show 5 ≤ sizeLine; decide, fun p hp => ?_⟩
  exact q p ⟨DL.cutD ns none (some 63), 0, 0, 49290 + ns.length, 0⟩ hp ⟨by show 0 ≤ (49290 : Int) + _; omega, by show (49290 : Int) + _ < _; omega⟩

def ph__law_pull : Ct := fun ds M k _ => ∃ (p : Addr) (b : Bag) (many : Int), ds = [.cel p, .int many] ∧ M p = some b.mo ∧ b.Ok ∧ 0 < many ∧ many.natAbs.log2 < 9000 ∧ ∀ (d : Int) (b' : Bag), 0 ≤ d → d < many → b'.Ok → k (.int d) (mup M p b'.mo)
theorem ok__law_pull {K : PySem.W.Frag} {mg : Str → Option Value} {ad : Nat → Addr} {fd : Nat → FuncData} {cl : Nat → Addr} {P : Program} {w : World} {base : Heap} (T : Txt K mg ad fd cl) : FnOk P w K mg base (L2.CX P w) 1 (ad 40) (fd 40) ["_law_bag", "_law_many"] (spD K 2 ph__law_pull) := by
  refine fn_D T.F__law_pull sc__law_pull rfl fun cdv A outer s H E hr hp ho => ⟨_, (b_cut (s_if (DPW.t (w_and (t_cmp (o_eq hr.units) (d_ix x_ix (dv 0) d_int (fun _ _ => rfl)) d_int (nomark _)) (w_and1 (t_cmp o_lt (d_ix x_ix (dv 0) d_int (fun _ _ => rfl)) (d_callB c_len rfl T.b_len boot_len' (a_cons (d_ix x_ix (dv 0) d_int (fun _ _ => rfl)) a_nil)) (nomark _))))) (b_cons (s_set (i := 2) sc__law_pull.nd rfl (Or.inl rfl) (d_ix x_ix (d_ix x_ix (dv 0) d_int (fun _ _ => rfl)) (d_ix x_ix (dv 0) d_int (fun _ _ => rfl)) (fun _ _ => rfl)))
  (b_cons (s_setIx (d_op o_add (d_ix x_ix (dv 0) d_int (fun _ _ => rfl)) d_int) (dv 0) d_int)
  (b_one (s_if (t_cmp o_ge (dv 2) (d_op o_pow d_int d_int) (nomark _)) (b_one (s_setIx (dv 2) (dv 0) d_int)) (b_one (s_setIx (d_op o_mod (d_callTy c_int rfl T.b_int boot_int' (a_cons (d_op o_add (d_op o_add (d_op o_mul (d_ix x_ix (dv 0) d_int (fun _ _ => rfl)) d_int) (d_op o_mul (d_op o_mod (d_callTy c_int rfl T.b_int boot_int' (a_cons (dv 2) a_nil)) d_int) d_int)) d_int) a_nil)) d_int) (dv 0) d_int)))))) b_nil)
  (b_cut (s_if (t_cmp o_gt (d_ix x_ix (dv 0) d_int (fun _ _ => rfl)) d_int (nomark _)) (b_cons (s_set (i := 3) sc__law_pull.nd rfl (Or.inl rfl) (d_op o_mod (d_callTy c_int rfl T.b_int boot_int' (a_cons (d_ix x_ix (dv 0) d_int (fun _ _ => rfl)) a_nil)) (dv 1)))
  (b_cons (s_setIx (d_op o_fdiv (d_ix x_ix (dv 0) d_int (fun _ _ => rfl)) (dv 1)) (dv 0) d_int)
  (b_one (s_ret (dv 3))))) b_nil)
  (b_cons (s_setIx (d_op o_add (d_ix x_ix (dv 0) d_int (fun _ _ => rfl)) d_int) (dv 0) d_int)
  (b_cons (s_set (i := 4) sc__law_pull.nd rfl (Or.inl rfl) (d_ix x_ix (dv 0) d_int (fun _ _ => rfl)))
  (b_cons (s_setIx (d_op o_mod (d_callTy c_int rfl T.b_int boot_int' (a_cons (d_op o_add (d_op o_add (d_op o_add (d_op o_mul (dv 4) (dv 4)) (d_op o_mul (dv 4) d_int)) (d_op o_mul (d_ix x_ix (dv 0) d_int (fun _ _ => rfl)) d_int)) d_int) a_nil)) d_int) (dv 0) d_int)
  (b_one (s_ret (d_op o_mod (d_callTy c_int rfl T.b_int boot_int' (a_cons (d_op o_add (d_op o_fdiv (d_ix x_ix (dv 0) d_int (fun _ _ => rfl)) d_int) (d_op o_mul (d_op o_mod (d_callTy c_int rfl T.b_int boot_int' (a_cons (d_ix x_ix (dv 0) d_int (fun _ _ => rfl)) a_nil)) d_int) d_int)) a_nil)) (dv 1))))))))), ?_⟩
  clear hp ho hr
  rintro ds M k x hl ⟨p, b, many, rfl, hm, hb, h0, hz, q⟩
  obtain ⟨cells, pos, great, seed, cnt⟩ := b
  obtain ⟨s0, s1⟩ := hb
  simp only at s0 s1
  refine ⟨fun ρ1 M1 => ∃ (b1 : Bag) (r : Option D), b1.Ok ∧ M1 = mup M p b1.mo ∧ ρ1 = [some (.cel p), some (.int many), r, none, none], ?_, ?_⟩
  · walk_at "go"
    refine ite_b (fun e1 => ?_) (fun e1 => ?_)
    · walk_at "go"
      refine ite_b (fun e2 => ?_) (fun e2 => ?_)
      · have e2 := of_decide_eq_true e2
        simp only [List.length_map] at e2
        obtain ⟨c, hc⟩ : ∃ c, cells[pos]? = some c := ⟨cells[pos]'(by omega), by simp⟩
        refine ⟨_, rfl, _, hm, _, rfl, _, rfl, _, hm, _, rfl, .int c, atI_nat (by simp [hc]), ?_⟩
        refine ⟨_, rfl, _, hm, _, rfl, ⟨_, rfl, p, _, _, _, rfl, rfl, hm, rfl, ?_⟩⟩
        refine ⟨_, rfl, ⟨by decide, by decide, by decide⟩, ⟨_, rfl, ?_⟩⟩
        refine ite_b (fun e3 => ?_) (fun e3 => ?_)
        · refine ⟨_, rfl, _, rfl, p, _, _, _, rfl, rfl, mup_same, rfl, ?_⟩
          refine ⟨⟨cells, pos + 1, c, seed, cnt⟩, some (.int c), ⟨s0, s1⟩, ?_, rfl⟩
          rw [mup_mup]
          rfl
        · refine ⟨_, rfl, _, mup_same, _, rfl, mul_small s0 (by show seed < _; omega), _, rfl, (show (2147483489 : Int) ≠ 0 by decide), mul_smallR (by decide) (by decide), (show (2147483629 : Int) ≠ 0 by decide), ?_⟩
          refine ⟨_, rfl, p, _, _, _, rfl, rfl, mup_same, rfl, ?_⟩
          refine ⟨⟨cells, pos + 1, great, (seed * 40237 + c.fmod 2147483489 * 6581 + 37).fmod 2147483629, cnt⟩, some (.int c), ⟨(fmod_lt' (show (0 : Int) < 2147483629 by decide)).1, Int.lt_trans (fmod_lt' (show (0 : Int) < 2147483629 by decide)).2 (by decide)⟩, ?_, rfl⟩
          rw [mup_mup]
          rfl
      · refine ⟨⟨cells, pos, great, seed, cnt⟩, none, ⟨s0, s1⟩, ?_, rfl⟩
        funext a
        unfold mup
        split
        · rename_i e; rw [e]; exact hm
        · rfl
    · refine iteF ⟨⟨cells, pos, great, seed, cnt⟩, none, ⟨s0, s1⟩, ?_, rfl⟩
      funext a
      unfold mup
      split
      · rename_i e; rw [e]; exact hm
      · rfl
  · rintro ρ1 M1 ⟨⟨cells, pos, great, seed, cnt⟩, r, ⟨s0, s1⟩, rfl, rfl⟩
    simp only at s0 s1
    refine ⟨fun ρ2 M2 => M2 = mup M p (Bag.mo ⟨cells, pos, great, seed, cnt⟩) ∧ ρ2 = [some (.cel p), some (.int many), r, none, none], ?_, ?_⟩
    · refine ⟨_, rfl, _, mup_same, _, rfl, ⟨_, rfl, ?_⟩⟩
      refine ite_b (fun e => ?_) (fun e => ?_)
      · refine ⟨_, rfl, _, mup_same, _, rfl, _, rfl, by show many ≠ 0; omega, ?_⟩
        refine ⟨_, rfl, _, mup_same, _, rfl, _, rfl, ⟨by omega, hz⟩, _, rfl, p, _, _, _, rfl, rfl, mup_same, rfl, ?_⟩
        refine ⟨_, rfl, ?_⟩
        have q2 := q (great.fmod many) ⟨cells, pos, great.fdiv many, seed, cnt⟩ (fmod_lt' h0).1 (fmod_lt' h0).2 ⟨s0, s1⟩
        rw [mup_mup]
        exact q2
      · exact ⟨rfl, rfl⟩
    · rintro ρ2 M2 ⟨rfl, rfl⟩
      refine ⟨_, rfl, _, mup_same, _, rfl, ⟨_, rfl, p, _, _, _, rfl, rfl, mup_same, rfl, ?_⟩⟩
      refine ⟨_, rfl, _, mup_same, _, rfl, ?_⟩
      refine ⟨_, rfl, _, rfl, mul_small s0 (by show seed < _; omega), _, rfl, mul_small s0 (by show seed < _; omega), _, rfl, _, mup_same, _, rfl, mul_smallR (by decide) (by decide), (show (2147483579 : Int) ≠ 0 by decide), ?_⟩
      refine ⟨_, rfl, p, _, _, _, rfl, rfl, mup_same, rfl, ?_⟩
      refine ⟨_, rfl, _, mup_same, _, rfl, ⟨by decide, log2_small (by decide) (by decide)⟩, ?_⟩
      refine ⟨_, rfl, _, mup_same, _, rfl, (show (8059 : Int) ≠ 0 by decide), mul_smallR (by decide) (by decide), ?_⟩
      refine ⟨_, rfl, by show many ≠ 0; omega, ?_⟩
      rw [mup_mup, mup_mup]
      exact q _ ⟨cells, pos, great, (seed * seed + seed * 28657 + (cnt + 1) * 1300367 + 70001).fmod 2147483579, cnt + 1⟩ (fmod_lt' h0).1 (fmod_lt' h0).2 ⟨(fmod_lt' (show (0 : Int) < 2147483579 by decide)).1, Int.lt_trans (fmod_lt' (show (0 : Int) < 2147483579 by decide)).2 (by decide)⟩

def ph__law_pick : Ct := fun ds M k _ => ∃ (p : Addr) (b : Bag) (s : D), ds = [.cel p, s] ∧ M p = some b.mo ∧ b.Ok ∧ ((∃ es, s = .lst es ∧ 0 < es.length ∧ es.length ≤ 1000 ∧ ∀ d ∈ es, ∀ b' : Bag, b'.Ok → k d (mup M p b'.mo)) ∨
  ∃ z : Str, s = .str z ∧ 0 < z.length ∧ z.length ≤ 1000 ∧ ∀ c ∈ z.cps.toList, ∀ b' : Bag, b'.Ok → k (.str ⟨#[c]⟩) (mup M p b'.mo))
theorem atI_some {α : Type} {xs : List α} {d : Int} (h0 : 0 ≤ d) (h1 : d < xs.length) : ∃ v, atI xs d = some v ∧ v ∈ xs := by
  have h : d.toNat < xs.length := by omega
  refine ⟨xs[d.toNat], ?_, List.getElem_mem h⟩
  have e : d = (d.toNat : Int) := by omega
  exact (congrArg (atI xs) e).trans (atI_nat (xs := xs) (j := d.toNat) (v := xs[d.toNat]) (by simp))
theorem ok__law_pick {K : PySem.W.Frag} {mg : Str → Option Value} {ad : Nat → Addr} {fd : Nat → FuncData} {cl : Nat → Addr} {P : Program} {w : World} {base : Heap} (T : Txt K mg ad fd cl) : FnOk P w K mg base (L2.CX P w) 3 (ad 41) (fd 41) ["_law_bag", "_law_some"] (spD K 2 ph__law_pick) := by
  have G__law_pull := ok__law_pull (P := P) (w := w) (base := base) T
  refine fn_D T.F__law_pick sc__law_pick rfl fun cdv A outer s H E hr hp ho => ⟨_, (b_one (s_ret (d_ix x_ix (dv 1) (d_call G__law_pull (hr.mono (by decide)) rfl T.m__law_pull T.k__law_pull T.kb__law_pull_2 (by intro _ _ h _; exact h) hp (a_cons (dv 0) (a_cons (d_callB c_len rfl T.b_len boot_len' (a_cons (dv 1) a_nil)) a_nil))) (fun _ _ => rfl)))), ?_⟩
  clear hp ho hr G__law_pull
  rintro ds M k x hl ⟨p, b, s, rfl, hm, hb, q⟩
  rcases q with ⟨es, rfl, l0, l1, q⟩ | ⟨z, rfl, l0, l1, q⟩
  · refine ⟨_, rfl, _, rfl, _, rfl, rfl, p, b, _, rfl, hm, hb, by show (0 : Int) < es.length; omega, log2_small (by show (0 : Int) < es.length; omega) (by show (es.length : Int) < _; omega), fun d b' h0 h1 hb' => ?_⟩
    obtain ⟨v, hv, mv⟩ := atI_some h0 h1
    exact ⟨v, hv, q v mv b' hb'⟩
  · refine ⟨_, rfl, _, rfl, _, rfl, ⟨Nat.le_trans l1 (by decide), ?_⟩⟩
    refine ⟨rfl, p, b, _, rfl, hm, hb, by show (0 : Int) < z.length; omega, log2_small (by show (0 : Int) < z.length; omega) (by show (z.length : Int) < _; omega), fun d b' h0 h1 hb' => ?_⟩
    have hz : z.cps.toList.length = z.length := by simp [Str.length]
    obtain ⟨v, hv, mv⟩ := atI_some (xs := z.cps.toList) h0 (by rw [hz]; exact h1)
    exact ⟨Nat.le_trans l1 (by decide), v, hv, q v mv b' hb'⟩
def ph__law_gcd : Ct := fun ds M k _ => ∃ a b : Int, ds = [.int a, .int b] ∧ 0 ≤ a ∧ 0 ≤ b ∧ k (.int (Int.gcd a b)) M
theorem ok__law_gcd {K : PySem.W.Frag} {mg : Str → Option Value} {ad : Nat → Addr} {fd : Nat → FuncData} {cl : Nat → Addr} {P : Program} {w : World} {base : Heap} (T : Txt K mg ad fd cl) : FnOk P w K mg base (L2.CX P w) 1 (ad 42) (fd 42) ["_law_a", "_law_b"] (spD K 2 ph__law_gcd) := by
  refine fn_D T.F__law_gcd sc__law_gcd rfl fun cdv A outer s H E hr hp ho => ⟨_, (b_cons (s_while ho (t_cmp o_gt (dv 1) d_int (nomark _))
  (b_one (s_par (i := 0) (j := 1) rfl sc__law_gcd.nd rfl rfl (by decide) rfl rfl (a_cons (dv 1) (a_cons (d_op o_mod (d_callTy c_int rfl T.b_int boot_int' (a_cons (dv 0) a_nil)) (dv 1)) a_nil)) rfl)))
  (b_one (s_ret (dv 0)))), ?_⟩
  clear hp ho hr
  rintro ds M k x hl ⟨a, b, rfl, ha, hb, q⟩
  refine WhK.of (fun m ρ M' => ∃ x y : Int, M' = M ∧ ρ = [some (.int x), some (.int y)] ∧ 0 ≤ x ∧ 0 ≤ y ∧ Int.gcd x y = Int.gcd a b ∧ m = y.toNat) ⟨_, a, b, rfl, rfl, ha, hb, rfl, rfl⟩ ?_
  rintro m ρ M' ⟨x, y, rfl, rfl, hx, hy, hg, rfl⟩
  refine ⟨_, rfl, _, rfl, ?_⟩
  refine ite_b (fun e => ?_) (fun e => ?_)
  · have e := of_decide_eq_true e
    have f := fmod_lt' (i := x) e
    refine ⟨_, rfl, _, rfl, _, rfl, by show y ≠ 0; omega, _, _, rfl, _, ?_, y, x.fmod y, rfl, rfl, hy, f.1, (gcd_step e).trans hg, rfl⟩
    omega
  · have e : ¬ (0 < y) := of_decide_eq_false e
    have z : y = 0 := by omega
    subst z
    have : (Int.gcd a b : Int) = x := by rw [← hg, Int.gcd_zero_right]; omega
    refine ⟨_, rfl, ?_⟩
    rw [← this]
    exact q
section
variable {M0 : Mm} {p r : Addr} {b : Bag} {L : MO} {k : DK} {x : DX}
theorem pullK {many : Int} (hb : b.Ok) (h0 : 0 < many) (hz : many.natAbs.log2 < 9000) (h : ∀ (d : Int) (b' : Bag), 0 ≤ d → d < many → b'.Ok → k (.int d) (mup M0 p b'.mo)) : ph__law_pull [.cel p, .int many] (mup M0 p b.mo) k x :=
  ⟨p, b, many, rfl, mup_same, hb, h0, hz, fun d b' h1 h2 h3 => by rw [mup_mup]; exact h d b' h1 h2 h3⟩
theorem pickL {es : List D} (hb : b.Ok) (h0 : 0 < es.length) (h1 : es.length ≤ 1000) (h : ∀ d ∈ es, ∀ b' : Bag, b'.Ok → k d (mup M0 p b'.mo)) : ph__law_pick [.cel p, .lst es] (mup M0 p b.mo) k x :=
  ⟨p, b, _, rfl, mup_same, hb, .inl ⟨es, rfl, h0, h1, fun d hd b' h3 => by rw [mup_mup]; exact h d hd b' h3⟩⟩
theorem pullK2 {many : Int} (ne : r ≠ p) (hb : b.Ok) (h0 : 0 < many) (hz : many.natAbs.log2 < 9000) (h : ∀ (d : Int) (b' : Bag), 0 ≤ d → d < many → b'.Ok → k (.int d) (mup (mup M0 p b'.mo) r L)) : ph__law_pull [.cel p, .int many] (mup (mup M0 p b.mo) r L) k x :=
  ⟨p, b, many, rfl, mup2_at ne, hb, h0, hz, fun d b' h1 h2 h3 => by rw [mup2 ne]; exact h d b' h1 h2 h3⟩
theorem pickL2 {es : List D} (ne : r ≠ p) (hb : b.Ok) (h0 : 0 < es.length) (h1 : es.length ≤ 1000) (h : ∀ d ∈ es, ∀ b' : Bag, b'.Ok → k d (mup (mup M0 p b'.mo) r L)) : ph__law_pick [.cel p, .lst es] (mup (mup M0 p b.mo) r L) k x :=
  ⟨p, b, _, rfl, mup2_at ne, hb, .inl ⟨es, rfl, h0, h1, fun d hd b' h3 => by rw [mup2 ne]; exact h d hd b' h3⟩⟩
end
theorem lg_le {n : Int} (h0 : 0 < n) (h1 : n ≤ 10 ^ 40) : n.natAbs.log2 < 9000 := by
  have : n.natAbs < 2 ^ 200 := by omega
  exact Nat.lt_trans ((Nat.log2_lt (by omega)).mpr this) (by decide)
theorem cp (j : Int) (h0 : 0 ≤ j) (h1 : j ≤ 40) : CPow 10 j := ⟨h0, by omega, by decide⟩
theorem e29 : (10 : Int) ^ Int.toNat 29 = 100000000000000000000000000000 := by decide +kernel
theorem e30 : (10 : Int) ^ Int.toNat 30 = 1000000000000000000000000000000 := by decide +kernel
theorem e6 : (10 : Int) ^ Int.toNat 6 = 1000000 := by decide +kernel
theorem e3 : (10 : Int) ^ Int.toNat 3 = 1000 := by decide +kernel
theorem e9 : (10 : Int) ^ Int.toNat 9 = 1000000000 := by decide +kernel
def frc (a b : Int) : D := .tup [.int a, .int b]
def ph__law_frac : Ct := fun ds M k _ => ∃ a b : Int, ds = [.int a, .int b] ∧ b ≠ 0 ∧ Lg b ∧ k (frc (RT.nrm a b).1 (RT.nrm a b).2) M
theorem ok__law_frac {K : PySem.W.Frag} {mg : Str → Option Value} {ad : Nat → Addr} {fd : Nat → FuncData} {cl : Nat → Addr} {P : Program} {w : World} {base : Heap} (T : Txt K mg ad fd cl) : FnOk P w K mg base (L2.CX P w) 3 (ad 43) (fd 43) ["_law_a", "_law_b"] (spD K 2 ph__law_frac) := by
  have G__law_gcd := ok__law_gcd (P := P) (w := w) (base := base) T
  refine fn_D T.F__law_frac sc__law_frac rfl fun cdv A outer s H E hr hp ho => ⟨_, (b_cons (s_set (i := 2) sc__law_frac.nd rfl (Or.inl rfl) (d_call G__law_gcd (hr.mono (by decide)) rfl T.m__law_gcd T.k__law_gcd T.kb__law_gcd_2 (by intro _ _ h _; exact h) hp (a_cons (d_callB c_abs rfl T.b_abs boot_abs' (a_cons (dv 0) a_nil)) (a_cons (d_callB c_abs rfl T.b_abs boot_abs' (a_cons (dv 1) a_nil)) a_nil))))
  (b_cons (s_set (i := 2) sc__law_frac.nd rfl (Or.inl rfl) (d_if (t_cmp o_gt (dv 1) d_int (nomark _)) (dv 2) (d_op o_sub d_int (dv 2))))
  (b_one (s_ret (d_tup (a_cons (d_op o_fdiv (dv 0) (dv 2)) (a_cons (d_op o_fdiv (dv 1) (dv 2)) a_nil))))))), ?_⟩
  clear hp ho hr G__law_gcd
  rintro ds M k x hl ⟨a, b, rfl, hb, lb, q⟩
  obtain ⟨g1, g2⟩ := gcd_div (a := a) hb lb
  refine ⟨_, rfl, _, rfl, rfl, _, _, rfl, ?_, ?_, ?_⟩
  · rw [abs_eq]; omega
  · rw [abs_eq]; omega
  rw [abs_eq, abs_eq, gcd_abs]
  refine ⟨_, rfl, _, rfl, ?_⟩
  refine ite_b (fun e => ?_) (fun e => ?_)
  · have e := of_decide_eq_true e
    refine ⟨_, rfl, ?_⟩
    refine ⟨_, rfl, _, rfl, g1, _, rfl, _, rfl, g1, Nat.le_of_ble_eq_true rfl, ?_⟩
    have en : RT.nrm a b = (a.fdiv (Int.gcd a b : Int), b.fdiv (Int.gcd a b : Int)) := by
      unfold RT.nrm
      rw [if_neg (by omega)]
    rw [en] at q
    exact q
  · have e : ¬ 0 < b := of_decide_eq_false e
    refine ⟨_, rfl, ?_⟩
    have g2' : DL.DivOk 0 (0 - (Int.gcd a b : Int)) := by rw [Int.zero_sub]; exact g2
    refine ⟨_, rfl, _, rfl, g2', _, rfl, _, rfl, g2', Nat.le_of_ble_eq_true rfl, ?_⟩
    have en : RT.nrm a b = (a.fdiv (0 - (Int.gcd a b : Int)), b.fdiv (0 - (Int.gcd a b : Int))) := by
      unfold RT.nrm
      rw [if_pos (by omega)]
    rw [en] at q
    exact q
def ph__law_less : Ct := fun ds M k _ => ∃ a b c d : Int, ds = [frc a b, frc c d] ∧ DL.MulOk a d ∧ DL.MulOk c b ∧ k (.bl (decide (a * d < c * b))) M
theorem ok__law_less {K : PySem.W.Frag} {mg : Str → Option Value} {ad : Nat → Addr} {fd : Nat → FuncData} {cl : Nat → Addr} {P : Program} {w : World} {base : Heap} (T : Txt K mg ad fd cl) : FnOk P w K mg base (L2.CX P w) 1 (ad 44) (fd 44) ["_law_p", "_law_q"] (spD K 2 ph__law_less) := by
  refine fn_D T.F__law_less sc__law_less rfl fun cdv A outer s H E hr hp ho => ⟨_, (b_one (s_ret (d_cmp o_lt (d_op o_mul (d_ix x_ix (dv 0) d_int (fun _ _ => rfl)) (d_ix x_ix (dv 1) d_int (fun _ _ => rfl))) (d_op o_mul (d_ix x_ix (dv 1) d_int (fun _ _ => rfl)) (d_ix x_ix (dv 0) d_int (fun _ _ => rfl))) (nomark _)))), ?_⟩
  clear hp ho hr
  rintro ds M k x hl ⟨a, b, c, d, rfl, h1, h2, q⟩
  refine ⟨_, rfl, _, rfl, _, rfl, _, rfl, h1, _, rfl, _, rfl, _, rfl, _, rfl, h2, q⟩
def lcut (c : RT.Cut) : D := .tup [frc c.a c.b, .int c.k]
def area (f c : RT.Cut) : D := .tup [lcut f, lcut c]
def arD (s : SpT) : D := area s.1.1 s.2.1
theorem eqF {a b c d : Int} {M : Mm} {k : DK} (q : k (.bl (decide (a = c) && decide (b = d))) M) : EqK (frc a b) (frc c d) M k := by
  refine eqP (p := .tuple [.int a, .int b]) (r := .tuple [.int c, .int d]) rfl rfl rfl rfl ?_
  show k (.bl (decide (a = c) && (decide (b = d) && true))) M
  rw [Bool.and_true]
  exact q
theorem cb_of {a b i : Int} (h0 : -(10 ^ 40) ≤ a) (h1 : a ≤ 10 ^ 40) (h2 : b ≤ 10 ^ 40) : RT.CB BB ⟨a, b, i⟩ := by
  have : (10 ^ 40 : Int) ≤ BB := by unfold BB; decide +kernel
  exact ⟨by show -BB ≤ a; omega, by show a ≤ BB; omega, by show b ≤ BB; omega⟩
/-- an area of two ratios -/
theorem area_of {a b c d i j : Int} (n1 : RT.Nf a b) (n2 : RT.Nf c d) (h : a * d ≤ c * b) (e : ¬ (a = c ∧ b = d) ∨ (i = 0 ∧ j = 1)) (ki : i = 0 ∨ i = 1) (kj : j = 0 ∨ j = 1) (z1 : RT.CB BB ⟨a, b, i⟩) (z2 : RT.CB BB ⟨c, d, j⟩) : RT.areaOk BB ⟨a, b, i⟩ ⟨c, d, j⟩ := by
  refine ⟨⟨n1, ki⟩, ⟨n2, kj⟩, ?_, z1, z2⟩
  rcases e with e | ⟨e1, e2⟩
  · exact RT.two_lt n1 n2 h e
  · unfold RT.Cut.lt
    show a * d < c * b ∨ (a * d = c * b ∧ i < j)
    omega
theorem ar_sp {f c : RT.Cut} (h : RT.areaOk BB f c) : SpOk (⟨f, h.1⟩, ⟨c, h.2.1⟩) := ⟨h.2.2.1, h.2.2.2.1, h.2.2.2.2⟩
def ph__law_near_areas : Ct := fun ds M k _ => ∃ (p : Addr) (b : Bag) (many : Int), ds = [.cel p, .int many] ∧ M p = some b.mo ∧ b.Ok ∧ 0 ≤ many ∧ many ≤ 100 ∧ ∀ (S : List SpT) (b' : Bag), b'.Ok → AllOk S → S.length = many.toNat → k (.lst (S.map arD)) (mup M p b'.mo)
theorem ok__law_near_areas {K : PySem.W.Frag} {mg : Str → Option Value} {ad : Nat → Addr} {fd : Nat → FuncData} {cl : Nat → Addr} {P : Program} {w : World} {base : Heap} (T : Txt K mg ad fd cl) : FnOk P w K mg base (L2.CX P w) 5 (ad 45) (fd 45) ["_law_bag", "_law_many"] (spD K 2 ph__law_near_areas) := by
  have G__law_pick := ok__law_pick (P := P) (w := w) (base := base) T
  have G__law_frac := ok__law_frac (P := P) (w := w) (base := base) T
  have G__law_pull := ok__law_pull (P := P) (w := w) (base := base) T
  have G__law_less := ok__law_less (P := P) (w := w) (base := base) T
  refine fn_D T.F__law_near_areas sc__law_near_areas rfl fun cdv A outer s H E hr hp ho => ⟨_, (b_cons (s_set (i := 2) sc__law_near_areas.nd rfl (Or.inl rfl) (d_lstM a_nil))
  (b_cons (s_for ho rfl (i_range1 rfl T.b_range (a_cons (dv 1) a_nil)) (g_name (i := 3) sc__law_near_areas.nd rfl (Or.inl rfl))
  (b_cons (s_set (i := 4) sc__law_near_areas.nd rfl (Or.inl rfl) (d_call G__law_pick (hr.mono (by decide)) rfl T.m__law_pick T.k__law_pick T.kb__law_pick_2 (by intro _ _ h _; exact h) hp (a_cons (dv 0) (a_cons (d_lst (a_cons d_int (a_cons d_int (a_cons d_int (a_cons d_int a_nil))))) a_nil))))
  (b_cons (s_par (i := 5) (j := 6) rfl sc__law_near_areas.nd rfl rfl (by decide) rfl rfl (a_cons (d_call G__law_frac (hr.mono (by decide)) rfl T.m__law_frac T.k__law_frac T.kb__law_frac_2 (by intro _ _ h _; exact h) hp (a_cons (d_op o_sub (d_call G__law_pull (hr.mono (by decide)) rfl T.m__law_pull T.k__law_pull T.kb__law_pull_2 (by intro _ _ h _; exact h) hp (a_cons (dv 0) (a_cons d_int a_nil))) d_int) (a_cons (dv 4) a_nil))) (a_cons (d_call G__law_frac (hr.mono (by decide)) rfl T.m__law_frac T.k__law_frac T.kb__law_frac_2 (by intro _ _ h _; exact h) hp (a_cons (d_op o_sub (d_call G__law_pull (hr.mono (by decide)) rfl T.m__law_pull T.k__law_pull T.kb__law_pull_2 (by intro _ _ h _; exact h) hp (a_cons (dv 0) (a_cons d_int a_nil))) d_int) (a_cons (dv 4) a_nil))) a_nil)) rfl)
  (b_cut (s_if (t_val (d_call G__law_less (hr.mono (by decide)) rfl T.m__law_less T.k__law_less T.kb__law_less_2 (by intro _ _ h _; exact h) hp (a_cons (dv 6) (a_cons (dv 5) a_nil)))) (b_one (s_par (i := 5) (j := 6) rfl sc__law_near_areas.nd rfl rfl (by decide) rfl rfl (a_cons (dv 6) (a_cons (dv 5) a_nil)) rfl)) b_nil)
  (b_one (s_expr (d_bm PySem.F.plainAttrs_list PySem.F.slot_list_append PySem.F.type_list_append m_append (dv 2) (a_cons (d_if (t_cmp (o_eq hr.units) (dv 5) (dv 6) (nomark _)) (d_tup (a_cons (d_tup (a_cons (dv 5) (a_cons d_int a_nil))) (a_cons (d_tup (a_cons (dv 6) (a_cons d_int a_nil))) a_nil))) (d_tup (a_cons (d_tup (a_cons (dv 5) (a_cons (d_call G__law_pull (hr.mono (by decide)) rfl T.m__law_pull T.k__law_pull T.kb__law_pull_2 (by intro _ _ h _; exact h) hp (a_cons (dv 0) (a_cons d_int a_nil))) a_nil))) (a_cons (d_tup (a_cons (dv 6) (a_cons (d_call G__law_pull (hr.mono (by decide)) rfl T.m__law_pull T.k__law_pull T.kb__law_pull_2 (by intro _ _ h _; exact h) hp (a_cons (dv 0) (a_cons d_int a_nil))) a_nil))) a_nil)))) a_nil))))))))
  (b_one (s_retZ (dv 2))))), ?_⟩
  clear hp ho hr G__law_pick G__law_frac G__law_pull G__law_less
  rintro ds M k x hl ⟨p, b, many, rfl, hm, hb, m0, m1, q⟩
  obtain ⟨M, rfl⟩ : ∃ M1, M = mup M1 p b.mo := ⟨M, mup_of hm⟩
  simp only [mup_mup] at q
  refine ⟨Nat.zero_le _, fun r hr => ?_⟩
  have ne : r ≠ p := fun z => by rw [z, hm] at hr; cases hr
  have hr' : ∀ o, mup M p o r = none := fun o => by rw [mup_ne ne]; rw [mup_ne ne] at hr; exact hr
  refine ⟨_, rfl, many, rfl, by omega, by omega, ?_⟩
  refine ForK.of (fun j ρ M' => ∃ (S : List SpT) (b : Bag) (r3 r4 r5 r6 : Option D), b.Ok ∧ AllOk S ∧ S.length = j ∧ M' = mup (mup M p b.mo) r (.lst (S.map arD)) ∧ ρ = [some (.cel p), some (.int many), some (.cel r), r3, r4, r5, r6]) ?_ ?_ ?_
  · exact ⟨[], b, _, _, _, _, hb, (fun s h => by cases h), rfl, rfl, rfl⟩
  · rintro j d ρ M' hd ⟨S, b, r3, r4, r5, r6, hb, oS, lS, rfl, rfl⟩
    obtain ⟨hj, rfl⟩ := upto_get hd
    refine ⟨_, rfl, Nat.le_of_ble_eq_true rfl, rfl, pickL2 ne hb (Nat.le_of_ble_eq_true rfl) (Nat.le_of_ble_eq_true rfl) fun m hm1 b1 hb1 => ?_⟩
    obtain ⟨m, rfl, m2, m3⟩ : ∃ i : Int, m = .int i ∧ 0 < i ∧ i ≤ 3 := by
      simp only [List.mem_cons, List.not_mem_nil, or_false] at hm1
      rcases hm1 with rfl | rfl | rfl | rfl <;> exact ⟨_, rfl, by decide, by decide⟩
    have hmz : m ≠ 0 := by omega
    refine ⟨_, rfl, rfl, pullK2 ne hb1 (by decide) (log2_small (by decide) (by decide)) fun a b2 a0 a1 hb2 => ?_⟩
    refine ⟨_, rfl, rfl, a - 3, m, rfl, hmz, (sm_le (by omega) (by omega)).lg, ?_⟩
    refine ⟨_, rfl, rfl, pullK2 ne hb2 (by decide) (log2_small (by decide) (by decide)) fun c b3 c0 c1 hb3 => ?_⟩
    refine ⟨_, rfl, rfl, c - 3, m, rfl, hmz, (sm_le (by omega) (by omega)).lg, _, _, rfl, ?_⟩
    have n1 := RT.nrm_nf (a := a - 3) hmz
    have n2 := RT.nrm_nf (a := c - 3) hmz
    obtain ⟨z1, z2⟩ := RT.nrm_sz (a := a - 3) hmz
    obtain ⟨z3, z4⟩ := RT.nrm_sz (a := c - 3) hmz
    generalize (RT.nrm (a - 3) m).1 = x1 at *
    generalize (RT.nrm (a - 3) m).2 = y1 at *
    generalize (RT.nrm (c - 3) m).1 = x2 at *
    generalize (RT.nrm (c - 3) m).2 = y2 at *
    have p1 := n1.pos
    have p2 := n2.pos
    refine ⟨fun ρ M' => ∃ a1 b1 a2 b2 : Int, M' = mup (mup M p b3.mo) r (.lst (S.map arD)) ∧ ρ = [some (.cel p), some (.int many), some (.cel r), some (.int (0 + j)), some (.int m), some (frc a1 b1), some (frc a2 b2)] ∧ RT.Nf a1 b1 ∧ RT.Nf a2 b2 ∧ a1 * b2 ≤ a2 * b1 ∧ (-(10 ^ 40) ≤ a1 ∧ a1 ≤ 10 ^ 40 ∧ b1 ≤ 10 ^ 40) ∧ (-(10 ^ 40) ≤ a2 ∧ a2 ≤ 10 ^ 40 ∧ b2 ≤ 10 ^ 40), ?_, ?_⟩
    · refine ⟨_, rfl, _, rfl, rfl, x2, y2, x1, y1, rfl, (sm_le (by omega) (by omega)).mul (sm_le (by omega) (by omega)), (sm_le (by omega) (by omega)).mul (sm_le (by omega) (by omega)), _, rfl, ?_⟩
      refine ite_b (fun e => ?_) (fun e => ?_)
      · have e := of_decide_eq_true e
        exact ⟨_, rfl, _, rfl, _, _, rfl, x2, y2, x1, y1, rfl, rfl, n2, n1, by omega, ⟨by omega, by omega, by omega⟩, ⟨by omega, by omega, by omega⟩⟩
      · have e : ¬ (x2 * y1 < x1 * y2) := of_decide_eq_false e
        exact ⟨x1, y1, x2, y2, rfl, rfl, n1, n2, by omega, ⟨by omega, by omega, by omega⟩, ⟨by omega, by omega, by omega⟩⟩
    · clear z1 z2 z3 z4 n1 n2 p1 p2
      rintro ρ M' ⟨a1, b1, a2, b2, rfl, rfl, n1, n2, hle, ⟨x1, y1, z1⟩, ⟨x2, y2, z2⟩⟩
      have lS2 : (S.map arD).length < sizeLine := by
        rw [List.length_map, lS]
        have : (1000 : Nat) < sizeLine := by decide
        omega
      refine ⟨_, rfl, ⟨rfl, _, mup_same⟩, ?_⟩
      have fin : ∀ {f c : RT.Cut} (ar : RT.areaOk BB f c), AllOk (S ++ [(⟨f, ar.1⟩, ⟨c, ar.2.1⟩)]) := fun ar s hs => by
        rcases List.mem_append.mp hs with h | h
        · exact oS s h
        · cases List.mem_singleton.mp h
          exact ar_sp ar
      refine ⟨_, rfl, _, rfl, eqF ⟨_, rfl, ?_⟩⟩
      refine ite_b (fun e => ?_) (fun e => ?_)
      · have ar : RT.areaOk BB ⟨a1, b1, 0⟩ ⟨a2, b2, 1⟩ := area_of n1 n2 hle (.inr ⟨rfl, rfl⟩) (.inl rfl) (.inr rfl) (cb_of x1 y1 z1) (cb_of x2 y2 z2)
        refine ⟨_, rfl, Nat.le_of_ble_eq_true rfl, _, rfl, Nat.le_of_ble_eq_true rfl, Nat.le_of_ble_eq_true rfl, _, mup_same, lS2, ?_⟩
        refine ⟨S ++ [(⟨_, ar.1⟩, ⟨_, ar.2.1⟩)], b3, _, _, _, _, hb3, fin ar, by rw [List.length_append, lS]; rfl, ?_, rfl⟩
        rw [mup_mup, List.map_append]
        rfl
      · have e' : ¬ (a1 = a2 ∧ b1 = b2) := fun z => by rw [decide_eq_true z.1, decide_eq_true z.2] at e; cases e
        refine ⟨_, rfl, _, rfl, rfl, pullK2 ne hb3 (by decide) (log2_small (by decide) (by decide)) fun i g3 i0 i1 hb4 => ?_⟩
        refine ⟨Nat.le_of_ble_eq_true rfl, _, rfl, _, rfl, rfl, pullK2 ne hb4 (by decide) (log2_small (by decide) (by decide)) fun l g4 l0 l1 hb5 => ?_⟩
        have ar : RT.areaOk BB ⟨a1, b1, i⟩ ⟨a2, b2, l⟩ := area_of n1 n2 hle (.inl e') (by omega) (by omega) (cb_of x1 y1 z1) (cb_of x2 y2 z2)
        refine ⟨Nat.le_of_ble_eq_true rfl, Nat.le_of_ble_eq_true rfl, _, mup_same, lS2, ?_⟩
        refine ⟨S ++ [(⟨_, ar.1⟩, ⟨_, ar.2.1⟩)], g4, _, _, _, _, hb5, fin ar, by rw [List.length_append, lS]; rfl, ?_, rfl⟩
        rw [mup_mup, List.map_append]
        rfl
  · rintro ρ M' ⟨S, b, r3, r4, r5, r6, hb, oS, lS, rfl, rfl⟩
    refine ⟨_, rfl, r, _, rfl, mup_same, hr, ?_⟩
    show k _ (mdel (mup _ r _) r)
    rw [mdel_mup (hr' _)]
    rw [upto_length] at lS
    exact q S b hb oS lS
def ph__law_some_frac : Ct := fun ds M k _ => ∃ (p : Addr) (b : Bag), ds = [.cel p] ∧ M p = some b.mo ∧ b.Ok ∧ ∀ (x y : Int) (b' : Bag), b'.Ok → RT.Nf x y → -(10 ^ 40) ≤ x → x ≤ 10 ^ 40 → y ≤ 10 ^ 40 → k (frc x y) (mup M p b'.mo)
theorem ok__law_some_frac {K : PySem.W.Frag} {mg : Str → Option Value} {ad : Nat → Addr} {fd : Nat → FuncData} {cl : Nat → Addr} {P : Program} {w : World} {base : Heap} (T : Txt K mg ad fd cl) : FnOk P w K mg base (L2.CX P w) 5 (ad 46) (fd 46) ["_law_bag"] (spD K 1 ph__law_some_frac) := by
  have G__law_pull := ok__law_pull (P := P) (w := w) (base := base) T
  have G__law_pick := ok__law_pick (P := P) (w := w) (base := base) T
  have G__law_frac := ok__law_frac (P := P) (w := w) (base := base) T
  refine fn_D T.F__law_some_frac sc__law_some_frac rfl fun cdv A outer s H E hr hp ho => ⟨_, (b_cons (s_set (i := 1) sc__law_some_frac.nd rfl (Or.inl rfl) (d_op o_add d_int (d_call G__law_pull (hr.mono (by decide)) rfl T.m__law_pull T.k__law_pull T.kb__law_pull_2 (by intro _ _ h _; exact h) hp (a_cons (dv 0) (a_cons (d_call G__law_pick (hr.mono (by decide)) rfl T.m__law_pick T.k__law_pick T.kb__law_pick_2 (by intro _ _ h _; exact h) hp (a_cons (dv 0) (a_cons (d_lst (a_cons d_int (a_cons d_int (a_cons d_int (a_cons (d_op o_pow d_int d_int) (a_cons (d_op o_pow d_int d_int) a_nil)))))) a_nil))) a_nil)))))
  (b_cons (s_set (i := 2) sc__law_some_frac.nd rfl (Or.inl rfl) (d_call G__law_pull (hr.mono (by decide)) rfl T.m__law_pull T.k__law_pull T.kb__law_pull_2 (by intro _ _ h _; exact h) hp (a_cons (dv 0) (a_cons (d_call G__law_pick (hr.mono (by decide)) rfl T.m__law_pick T.k__law_pick T.kb__law_pick_2 (by intro _ _ h _; exact h) hp (a_cons (dv 0) (a_cons (d_lst (a_cons d_int (a_cons d_int (a_cons (d_op o_add (d_op o_mul d_int (dv 1)) d_int) (a_cons (d_op o_pow d_int d_int) a_nil))))) a_nil))) a_nil))))
  (b_one (s_ret (d_call G__law_frac (hr.mono (by decide)) rfl T.m__law_frac T.k__law_frac T.kb__law_frac_2 (by intro _ _ h _; exact h) hp (a_cons (d_call G__law_pick (hr.mono (by decide)) rfl T.m__law_pick T.k__law_pick T.kb__law_pick_2 (by intro _ _ h _; exact h) hp (a_cons (dv 0) (a_cons (d_lst (a_cons (dv 2) (a_cons (dv 2) (a_cons (d_op o_sub d_int (dv 2)) a_nil)))) a_nil))) (a_cons (dv 1) a_nil))))))), ?_⟩
  clear hp ho hr G__law_pull G__law_pick G__law_frac
  rintro ds M k x hl ⟨p, b, rfl, hm, hb, q⟩
  rw [mup_of hm]
  refine ⟨_, rfl, _, rfl, cp 6 (by decide) (by decide), cp 29 (by decide) (by decide), Nat.le_of_ble_eq_true rfl, rfl, pickL hb (Nat.le_of_ble_eq_true rfl) (Nat.le_of_ble_eq_true rfl) fun m hm1 b1 hb1 => ?_⟩
  obtain ⟨m, rfl, m0, m1⟩ : ∃ i : Int, m = .int i ∧ 0 < i ∧ i ≤ 10 ^ 29 := by
    simp only [List.mem_cons, List.not_mem_nil, or_false, e29, e6] at hm1
    rcases hm1 with rfl | rfl | rfl | rfl | rfl <;> exact ⟨_, rfl, by decide +kernel, by decide +kernel⟩
  refine ⟨rfl, pullK hb1 m0 (lg_le m0 (by omega)) fun d b2 h0 h1 hb2 => ?_⟩
  refine ⟨_, rfl, _, rfl, _, rfl, mul_small (by decide) (by decide), cp 30 (by decide) (by decide), Nat.le_of_ble_eq_true rfl, rfl, pickL hb2 (Nat.le_of_ble_eq_true rfl) (Nat.le_of_ble_eq_true rfl) fun m' hm2 b3 hb3 => ?_⟩
  obtain ⟨m', rfl, m2, m3⟩ : ∃ i : Int, m' = .int i ∧ 0 < i ∧ i ≤ 10 ^ 31 := by
    simp only [List.mem_cons, List.not_mem_nil, or_false, e30] at hm2
    rcases hm2 with rfl | rfl | rfl | rfl
    · exact ⟨_, rfl, by decide +kernel, by decide +kernel⟩
    · exact ⟨_, rfl, by decide +kernel, by decide +kernel⟩
    · exact ⟨3 * (1 + d) + 1, rfl, by omega, by omega⟩
    · exact ⟨_, rfl, by decide +kernel, by decide +kernel⟩
  refine ⟨rfl, pullK hb3 m2 (lg_le m2 (by omega)) fun a b4 h2 h3 hb4 => ?_⟩
  refine ⟨_, rfl, _, rfl, _, rfl, _, rfl, Nat.le_of_ble_eq_true rfl, rfl, pickL hb4 (Nat.le_of_ble_eq_true rfl) (Nat.le_of_ble_eq_true rfl) fun t ht b5 hb5 => ?_⟩
  obtain ⟨t, rfl, t0, t1⟩ : ∃ i : Int, t = .int i ∧ -(10 ^ 31) ≤ i ∧ i ≤ 10 ^ 31 := by
    simp only [List.mem_cons, List.not_mem_nil, or_false] at ht
    rcases ht with rfl | rfl | rfl
    · exact ⟨_, rfl, by omega, by omega⟩
    · exact ⟨_, rfl, by omega, by omega⟩
    · exact ⟨0 - a, rfl, by omega, by omega⟩
  have hB : (1 + d : Int) ≠ 0 := by omega
  obtain ⟨z1, z2⟩ := RT.nrm_sz (a := t) hB
  refine ⟨_, rfl, rfl, t, 1 + d, rfl, hB, (sm_le (by omega) (by omega)).lg, ?_⟩
  exact q _ _ b5 hb5 (RT.nrm_nf hB) (by omega) (by omega) (by omega)
def ph__law_some_area : Ct := fun ds M k _ => ∃ (p : Addr) (b : Bag), ds = [.cel p] ∧ M p = some b.mo ∧ b.Ok ∧ ∀ (f c : RT.Cut) (b' : Bag), b'.Ok → RT.areaOk BB f c → k (area f c) (mup M p b'.mo)
theorem ok__law_some_area {K : PySem.W.Frag} {mg : Str → Option Value} {ad : Nat → Addr} {fd : Nat → FuncData} {cl : Nat → Addr} {P : Program} {w : World} {base : Heap} (T : Txt K mg ad fd cl) : FnOk P w K mg base (L2.CX P w) 7 (ad 47) (fd 47) ["_law_bag"] (spD K 1 ph__law_some_area) := by
  have G__law_some_frac := ok__law_some_frac (P := P) (w := w) (base := base) T
  have G__law_less := ok__law_less (P := P) (w := w) (base := base) T
  have G__law_pull := ok__law_pull (P := P) (w := w) (base := base) T
  refine fn_D T.F__law_some_area sc__law_some_area rfl fun cdv A outer s H E hr hp ho => ⟨_, (b_cons (s_par (i := 1) (j := 2) rfl sc__law_some_area.nd rfl rfl (by decide) rfl rfl (a_cons (d_call G__law_some_frac (hr.mono (by decide)) rfl T.m__law_some_frac T.k__law_some_frac T.kb__law_some_frac_1 (by intro _ _ h _; exact h) hp (a_cons (dv 0) a_nil)) (a_cons (d_call G__law_some_frac (hr.mono (by decide)) rfl T.m__law_some_frac T.k__law_some_frac T.kb__law_some_frac_1 (by intro _ _ h _; exact h) hp (a_cons (dv 0) a_nil)) a_nil)) rfl)
  (b_cut (s_if (t_val (d_call G__law_less (hr.mono (by decide)) rfl T.m__law_less T.k__law_less T.kb__law_less_2 (by intro _ _ h _; exact h) hp (a_cons (dv 2) (a_cons (dv 1) a_nil)))) (b_one (s_par (i := 1) (j := 2) rfl sc__law_some_area.nd rfl rfl (by decide) rfl rfl (a_cons (dv 2) (a_cons (dv 1) a_nil)) rfl)) b_nil)
  (b_cons (s_if (t_cmp (o_eq hr.units) (dv 1) (dv 2) (nomark _)) (b_one (s_ret (d_tup (a_cons (d_tup (a_cons (dv 1) (a_cons d_int a_nil))) (a_cons (d_tup (a_cons (dv 2) (a_cons d_int a_nil))) a_nil))))) b_nil)
  (b_one (s_ret (d_tup (a_cons (d_tup (a_cons (dv 1) (a_cons (d_call G__law_pull (hr.mono (by decide)) rfl T.m__law_pull T.k__law_pull T.kb__law_pull_2 (by intro _ _ h _; exact h) hp (a_cons (dv 0) (a_cons d_int a_nil))) a_nil))) (a_cons (d_tup (a_cons (dv 2) (a_cons (d_call G__law_pull (hr.mono (by decide)) rfl T.m__law_pull T.k__law_pull T.kb__law_pull_2 (by intro _ _ h _; exact h) hp (a_cons (dv 0) (a_cons d_int a_nil))) a_nil))) a_nil)))))))), ?_⟩
  clear hp ho hr G__law_some_frac G__law_less G__law_pull
  rintro ds M k x hl ⟨p, b, rfl, hm, hb, q⟩
  rw [mup_of hm]
  refine ⟨_, rfl, rfl, p, b, rfl, mup_same, hb, fun a1 b1 g1 hb1 n1 x1 y1 z1 => ?_⟩
  rw [mup_mup]
  refine ⟨_, rfl, rfl, p, g1, rfl, mup_same, hb1, fun a2 b2 g2 hb2 n2 x2 y2 z2 => ?_⟩
  rw [mup_mup]
  refine ⟨_, _, rfl, ?_⟩
  refine ⟨fun ρ M' => ∃ a1 b1 a2 b2 : Int, M' = mup M p g2.mo ∧ ρ = [some (.cel p), some (frc a1 b1), some (frc a2 b2)] ∧ RT.Nf a1 b1 ∧ RT.Nf a2 b2 ∧ a1 * b2 ≤ a2 * b1 ∧ (-(10 ^ 40) ≤ a1 ∧ a1 ≤ 10 ^ 40 ∧ b1 ≤ 10 ^ 40) ∧ (-(10 ^ 40) ≤ a2 ∧ a2 ≤ 10 ^ 40 ∧ b2 ≤ 10 ^ 40), ?_, ?_⟩
  · have p1 := n1.pos
    have p2 := n2.pos
    have s1 := sm_le x1 y1
    have s2 := sm_le x2 y2
    have s3 : Sm b1 := sm_le (by omega) z1
    have s4 : Sm b2 := sm_le (by omega) z2
    refine ⟨_, rfl, _, rfl, rfl, a2, b2, a1, b1, rfl, s2.mul s3, s1.mul s4, _, rfl, ?_⟩
    refine ite_b (fun e => ?_) (fun e => ?_)
    · have e := of_decide_eq_true e
      exact ⟨_, rfl, _, rfl, _, _, rfl, a2, b2, a1, b1, rfl, rfl, n2, n1, by omega, ⟨x2, y2, z2⟩, ⟨x1, y1, z1⟩⟩
    · have e : ¬ (a2 * b1 < a1 * b2) := of_decide_eq_false e
      exact ⟨a1, b1, a2, b2, rfl, rfl, n1, n2, by omega, ⟨x1, y1, z1⟩, ⟨x2, y2, z2⟩⟩
  · rintro ρ M' ⟨a1, b1, a2, b2, rfl, rfl, n1, n2, hle, ⟨x1, y1, z1⟩, ⟨x2, y2, z2⟩⟩
    refine ⟨_, rfl, _, rfl, eqF ⟨_, rfl, ?_⟩⟩
    refine ite_b (fun e => ?_) (fun e => ?_)
    · refine ⟨_, rfl, Nat.le_of_ble_eq_true rfl, _, rfl, Nat.le_of_ble_eq_true rfl, Nat.le_of_ble_eq_true rfl, ?_⟩
      exact q ⟨a1, b1, 0⟩ ⟨a2, b2, 1⟩ g2 hb2 (area_of n1 n2 hle (.inr ⟨rfl, rfl⟩) (.inl rfl) (.inr rfl) (cb_of x1 y1 z1) (cb_of x2 y2 z2))
    · have e' : ¬ (a1 = a2 ∧ b1 = b2) := fun z => by rw [decide_eq_true z.1, decide_eq_true z.2] at e; cases e
      refine ⟨_, rfl, _, rfl, rfl, pullK hb2 (by decide) (log2_small (by decide) (by decide)) fun i g3 i0 i1 hb3 => ?_⟩
      refine ⟨Nat.le_of_ble_eq_true rfl, _, rfl, _, rfl, rfl, pullK hb3 (by decide) (log2_small (by decide) (by decide)) fun j g4 j0 j1 hb4 => ?_⟩
      refine ⟨Nat.le_of_ble_eq_true rfl, Nat.le_of_ble_eq_true rfl, ?_⟩
      exact q ⟨a1, b1, i⟩ ⟨a2, b2, j⟩ g4 hb4 (area_of n1 n2 hle (.inl e') (by omega) (by omega) (cb_of x1 y1 z1) (cb_of x2 y2 z2))
def ph__law_ratio (cl : Nat → Addr) : Ct := fun ds M k _ => ∃ a b : Int, ds = [frc a b] ∧ b ≠ 0 ∧ Lg b ∧ k (rat cl (RT.nrm a b).1 (RT.nrm a b).2) M
theorem ok__law_ratio {K : PySem.W.Frag} {mg : Str → Option Value} {ad : Nat → Addr} {fd : Nat → FuncData} {cl : Nat → Addr} {P : Program} {w : World} {base : Heap} (T : Txt K mg ad fd cl) : FnOk P w K mg base (L2.CX P w) 5 (ad 48) (fd 48) ["_law_p"] (spD K 1 (ph__law_ratio cl)) := by
  have G_Ratio___init__ := ok_Ratio___init__ (P := P) (w := w) (base := base) T
  refine fn_D T.F__law_ratio sc__law_ratio rfl fun cdv A outer s H E hr hp ho => ⟨_, (b_one (s_ret (d_make T.mk_Ratio G_Ratio___init__ (hr.mono (by decide)) rfl T.m_Ratio T.kb_Ratio___init___3 (fun us ws h1 h2 => match us, ws, h1, h2 with | [_, _, _], [], _, _ => rfl) hp (a_cons (d_ix x_ix (dv 0) d_int (fun _ _ => rfl)) (a_cons (d_ix x_ix (dv 0) d_int (fun _ _ => rfl)) a_nil)) k_nil))), ?_⟩
  clear hp ho hr G_Ratio___init__
  rintro ds M k x hl ⟨a, b, rfl, hb, lb, q⟩
  refine ⟨_, rfl, _, rfl, _, rfl, _, rfl, rfl, rfl, mkR (fun _ => rfl) hb lb q⟩
def ph__law_made_span (cl : Nat → Addr) : Ct := fun ds M k _ => ∃ f c : RT.Cut, ds = [area f c] ∧ RT.areaOk BB f c ∧ k (spn cl f c) M
theorem ok__law_made_span {K : PySem.W.Frag} {mg : Str → Option Value} {ad : Nat → Addr} {fd : Nat → FuncData} {cl : Nat → Addr} {P : Program} {w : World} {base : Heap} (T : Txt K mg ad fd cl) : FnOk P w K mg base (L2.CX P w) 7 (ad 49) (fd 49) ["_law_area"] (spD K 1 (ph__law_made_span cl)) := by
  have G_Span___init__ := ok_Span___init__ (P := P) (w := w) (base := base) T
  have G__law_ratio := ok__law_ratio (P := P) (w := w) (base := base) T
  refine fn_D T.F__law_made_span sc__law_made_span rfl fun cdv A outer s H E hr hp ho => ⟨_, (b_cons (s_asg (dv 0) (g_tup (n := 2) rfl (gs_cons (g_name (i := 1) sc__law_made_span.nd rfl (Or.inl rfl)) (gs_cons (g_name (i := 2) sc__law_made_span.nd rfl (Or.inl rfl)) gs_nil))))
  (b_one (s_ret (d_make T.mk_Span G_Span___init__ (hr.mono (by decide)) rfl T.m_Span T.kb_Span___init___3_has_low_has_high (fun us ws h1 h2 => match us, ws, h1, h2 with | [_, _, _], [_, _], _, _ => rfl) hp (a_cons (d_call G__law_ratio (hr.mono (by decide)) rfl T.m__law_ratio T.k__law_ratio T.kb__law_ratio_1 (by intro _ _ h _; exact h) hp (a_cons (d_ix x_ix (dv 1) d_int (fun _ _ => rfl)) a_nil)) (a_cons (d_call G__law_ratio (hr.mono (by decide)) rfl T.m__law_ratio T.k__law_ratio T.kb__law_ratio_1 (by intro _ _ h _; exact h) hp (a_cons (d_ix x_ix (dv 2) d_int (fun _ _ => rfl)) a_nil)) a_nil)) (k_cons (d_cmp (o_eq hr.units) (d_ix x_ix (dv 1) d_int (fun _ _ => rfl)) d_int (nomark _)) (k_cons (d_cmp (o_eq hr.units) (d_ix x_ix (dv 2) d_int (fun _ _ => rfl)) d_int (nomark _)) k_nil)))))), ?_⟩
  clear hp ho hr G_Span___init__ G__law_ratio
  rintro ds M k x hl ⟨f, c, rfl, z, q⟩
  have nf := z.1.nf
  have nc := z.2.1.nf
  have n1 := nf.pos
  have n2 := nc.pos
  have lf := (csm_b z.1 z.2.2.2.1).b.lg
  have lc := (csm_b z.2.1 z.2.2.2.2).b.lg
  refine ⟨_, rfl, _, rfl, rfl, _, _, rfl, _, _, rfl, rfl, ?_⟩
  refine ⟨_, rfl, _, rfl, rfl, f.a, f.b, rfl, by omega, lf, ?_⟩
  rw [RT.nrm_of_nf nf]
  refine ⟨_, rfl, _, rfl, rfl, c.a, c.b, rfl, by omega, lc, ?_⟩
  rw [RT.nrm_of_nf nc]
  refine ⟨_, rfl, _, rfl, eqI ?_⟩
  refine ⟨_, rfl, _, rfl, eqI ?_⟩
  exact ⟨rfl, rfl, mkS (f := f) (c := c) (fun _ => rfl) z q⟩
def ph__law_spread (cl : Nat → Addr) : Ct := fun ds M k _ => ∃ S : List SpT, ds = [.lst (S.map arD)] ∧ AllOk S ∧ S.length ≤ 100000 ∧ ∀ F, SP.Mg S F → k (sprd cl F) M
theorem ok__law_spread {K : PySem.W.Frag} {mg : Str → Option Value} {ad : Nat → Addr} {fd : Nat → FuncData} {cl : Nat → Addr} {P : Program} {w : World} {base : Heap} (T : Txt K mg ad fd cl) : FnOk P w K mg base (L2.CX P w) 13 (ad 50) (fd 50) ["_law_areas"] (spD K 1 (ph__law_spread cl)) := by
  have G_Spread___init__ := ok_Spread___init__ (P := P) (w := w) (base := base) T
  have G__law_made_span := ok__law_made_span (P := P) (w := w) (base := base) T
  refine fn_D T.F__law_spread sc__law_spread rfl fun cdv A outer s H E hr hp ho => ⟨_, (b_one (s_ret (d_make T.mk_Spread G_Spread___init__ (hr.mono (by decide)) rfl T.m_Spread T.kb_Spread___init___2 (fun us ws h1 h2 => match us, ws, h1, h2 with | [_, _], [], _, _ => rfl) hp (a_cons (d_lc (own := [("_law_area", 1)]) rfl sc__law_spread.nd (i_seq (dv 0)) (blkOk_by (own := [("_law_area", 1)]) (N := ["_law_areas", "_law_area"]) (sc := (defScope st__law_spread)) (by decide +kernel)) (gp_name (by decide)) (fun _ _ _ _ _ => (pg_name (i := 1) sc__law_spread.nd rfl (Or.inl rfl))) (fun _ _ _ _ _ => ts_nil) (fun _ _ _ _ _ => (d_call G__law_made_span (hr.mono (by decide)) rfl T.m__law_made_span T.k__law_made_span T.kb__law_made_span_1 (by intro _ _ h _; exact h) passL (a_cons (dv 1) a_nil)))) a_nil) k_nil))), ?_⟩
  clear hp ho hr G_Spread___init__ G__law_made_span
  rintro ds M k x hl ⟨S, rfl, oS, hz, q⟩
  refine ⟨_, rfl, lc_mapS (spD' cl) (by rw [List.length_map]; exact Nat.lt_of_le_of_lt hz (by decide)) (fun s hs K hK => ?_) (fun d K K' => gN_mono K K') ?_⟩
  · exact ⟨_, rfl, rfl, s.1.1, s.2.1, rfl, (oS s hs).ar, hK⟩
  · exact ⟨rfl, rfl, mkP (fun _ => rfl) (.inl rfl) oS hz q⟩

end W08
set_option Elab.async false
set_option linter.all false
set_option maxRecDepth 100000
set_option maxHeartbeats 4000000
set_option pp.deepTerms false
set_option pp.deepTerms.threshold 12
set_option pp.maxSteps 4000
namespace W08
open PySem PySem.Spec PyProof.Rows L2 DL
local macro_rules | `(tactic| walk_at "sc") => `(tactic| first | assumption | rfl | exact Nat.le_of_ble_eq_true rfl | decide | omega | exact mul_small (by omega) (by omega) | exact mul_smallR (by omega) (by omega) | exact ⟨by decide, by decide, by decide⟩ | exact ⟨by omega, by assumption⟩ | exact ⟨by decide, log2_small (by decide) (by decide)⟩)
local macro_rules | `(tactic| walk_at "go1") => `(tactic| first | refine ⟨_, rfl, ?_⟩ | refine ⟨rfl, ?_⟩ | refine ⟨_, by assumption, ?_⟩ | refine ⟨_, mup_same, ?_⟩ | refine eqI ?_ | refine neI ?_ | refine iteT ?_ | refine iteF ?_ | refine ⟨(by walk_at "sc"), ?_⟩)
local macro_rules | `(tactic| walk_at "go") => `(tactic| repeat walk_at "go1")
def ph_law : Ct := fun ds M k _ => ∃ ns : List Int, ds = [.scr ns] ∧ ns.length ≤ 63 ∧ (∀ a, M a = none) ∧ ∀ M', k (.bl true) M'
theorem ph_law_of {ns : List Int} {M : Mm} {kk : DK} {xx : DX} (h1 : ns.length ≤ 63) (h2 : ∀ z ∈ ns, Builtin.Int.intBits z ≤ 1048576) (h3 : ∀ a, M a = none) (h4 : ∀ M', kk (.bl true) M') : ph_law [.scr ns] M kk xx := ⟨ns, rfl, h1, h3, h4⟩
section
variable {cl : Nat → Addr} {M : Mm} {k : DK} {x : DX} {p : Addr} {b : Bag} {A B : List SpT}
theorem pullG {many : Int} (hm : M p = some b.mo) (hb : b.Ok) (h0 : 0 < many) (hz : many.natAbs.log2 < 9000) (h : ∀ (d : Int) (b' : Bag), 0 ≤ d → d < many → b'.Ok → k (.int d) (mup M p b'.mo)) : ph__law_pull [.cel p, .int many] M k x := by
  obtain ⟨M0, rfl⟩ : ∃ M0, M = mup M0 p b.mo := ⟨M, mup_of hm⟩
  exact pullK hb h0 hz fun d b' a1 a2 a3 => by have := h d b' a1 a2 a3; rwa [mup_mup] at this
theorem orK (hA : SrOk A) (hB : SrOk B) (hz : A.length + B.length ≤ 100000) (q : ∀ F, SrOk F → (∀ x, SP.mem F x ↔ SP.mem A x ∨ SP.mem B x) → F.length ≤ A.length + B.length → k (sprd cl F) M) : ph_Spread___or__ cl [sprd cl A, sprd cl B] M k x :=
  ⟨A, B, rfl, hA.ok, hB.ok, hz, fun F hF => q F (SrOk.of (fun s hs => (List.mem_append.mp hs).elim (hA.ok s) (hB.ok s)) hF) (fun x => by rw [hF.mem, SP.mem_append]) (by have := hF.len; rw [List.length_append] at this; exact this)⟩
theorem andK (hA : SrOk A) (hB : SrOk B) (hz : A.length * B.length ≤ 100000) (q : ∀ F, SrOk F → (∀ x, SP.mem F x ↔ SP.mem A x ∧ SP.mem B x) → F.length ≤ A.length * B.length → k (sprd cl F) M) : ph_Spread___and__ cl [sprd cl A, sprd cl B] M k x :=
  ⟨A, B, rfl, hA.ok, hB.ok, hz, fun F hF => q F (SrOk.of (fun s hs => by obtain ⟨h1, h2, h3⟩ := SP.all_cm hA.ok.b hB.ok.b s hs; exact (⟨h1, h2, h3⟩ : SpOk s)) hF) (fun x => by rw [hF.mem, SP.mem_cm]) (Nat.le_trans hF.len SP.len_cm)⟩
theorem subK (hA : SrOk A) (hB : SrOk B) (hz : A.length + B.length ≤ 100000) (q : ∀ F, SrOk F → (∀ x, SP.mem F x ↔ SP.mem A x ∧ ¬ SP.mem B x) → F.length ≤ A.length + B.length → k (sprd cl F) M) : ph_Spread___sub__ cl [sprd cl A, sprd cl B] M k x :=
  ⟨A, B, rfl, hA, hB.ok, hz, fun F hF => q F (SrOk.of (woL_ok hA hB.ok) hF) (fun x => by rw [hF.mem, SP.mem_woL]) (Nat.le_trans hF.len (SP.len_woL hB.ok.v hA.can))⟩
theorem withinK (hA : SrOk A) (hB : SrOk B) (hz : A.length + B.length ≤ 100000) (q : ∀ F : List SpT, SrOk F → (∀ x, SP.mem F x ↔ SP.mem A x ∧ ¬ SP.mem B x) → k (.bl F.isEmpty) M) : ph_Spread_within cl [sprd cl A, sprd cl B] M k x :=
  ⟨A, B, rfl, hA, hB.ok, hz, fun F hF => q F (SrOk.of (woL_ok hA hB.ok) hF) (fun x => by rw [hF.mem, SP.mem_woL])⟩
theorem eqK (hz : A.length ≤ 100000) (q : k (.bl (decide (A = B))) M) : ph_Spread___eq__ cl [sprd cl A, sprd cl B] M k x := ⟨A, B, rfl, hz, q⟩
theorem set_eq (hA : SrOk A) (hB : SrOk B) (h : ∀ x, SP.mem A x ↔ SP.mem B x) : A = B := SP.canon_eq hA.can hB.can fun x _ => h x
theorem nil_ok : SrOk ([] : List SpT) := ⟨.nil, fun s h => by cases h⟩
theorem set_nil (hA : SrOk A) (h : ∀ x, ¬ SP.mem A x) : A = [] := set_eq hA nil_ok fun x => ⟨fun z => absurd z (h x), fun z => absurd z SP.mem_nil⟩
theorem mg_nil {F : List SpT} (h : SP.Mg [] F) : F = [] := List.eq_nil_of_length_eq_zero (Nat.le_zero.mp h.len)
theorem eqB {i j : Bool} (q : k (.bl (decide (i = j))) M) : EqK (.bl i) (.bl j) M k := .of (eqD_bl i j) q
theorem empty_iff {F : List SpT} : F.isEmpty = decide (F = []) := by cases F <;> rfl
theorem cK {S : List SpT} {p q : Int} {t : Bool} (n : RT.Nf p q) (sp : Sm p) (sq : Sm q) (oS : SrOk S) (hz : S.length ≤ 100000) (h : t = true ↔ SP.mem S (SP.pt n)) (kk : k (.bl t) M) : ph_Spread___contains__ cl [sprd cl S, rat cl p q] M k x := by
  refine ⟨S, _, rfl, oS.ok, hz, .inl ⟨p, q, rfl, n, sp, sq, ?_⟩⟩
  have e : (S.any fun s => RT.inB s.1.1 s.2.1 p q) = t := by
    rw [Bool.eq_iff_iff]
    exact (SP.mem_pt n).symm.trans h.symm
  rw [e]
  exact kk
theorem not_nil (hA : SrOk A) (e : A ≠ []) : ∃ x, SP.mem A x := by
  cases A with
  | nil => exact absurd rfl e
  | cons s r =>
    exact ⟨s.1, SP.mem_cons.mpr (.inl ⟨SP.Lin.irr _, (hA.ok s List.mem_cons_self).lt⟩)⟩
end
theorem ok_law {K : PySem.W.Frag} {mg : Str → Option Value} {ad : Nat → Addr} {fd : Nat → FuncData} {cl : Nat → Addr} {P : Program} {w : World} {base : Heap} (T : Txt K mg ad fd cl) : FnOk P w K mg base (L2.CX P w) 17 (ad 51) (fd 51) ["_law_script"] (spD K 1 ph_law) := by
  have G__law_start := ok__law_start (P := P) (w := w) (base := base) T
  have G__law_near_areas := ok__law_near_areas (P := P) (w := w) (base := base) T
  have G__law_pull := ok__law_pull (P := P) (w := w) (base := base) T
  have G_Spread___eq__ := ok_Spread___eq__ (P := P) (w := w) (base := base) T
  have G__law_some_area := ok__law_some_area (P := P) (w := w) (base := base) T
  have G__law_spread := ok__law_spread (P := P) (w := w) (base := base) T
  have G_Spread___sub__ := ok_Spread___sub__ (P := P) (w := w) (base := base) T
  have G_Spread___or__ := ok_Spread___or__ (P := P) (w := w) (base := base) T
  have G_Spread___and__ := ok_Spread___and__ (P := P) (w := w) (base := base) T
  have G_Spread___bool__ := ok_Spread___bool__ (P := P) (w := w) (base := base) T
  have G_Spread___init__ := ok_Spread___init__ (P := P) (w := w) (base := base) T
  have G_Spread_within := ok_Spread_within (P := P) (w := w) (base := base) T
  have G_Span_simplest := ok_Span_simplest (P := P) (w := w) (base := base) T
  have G_Spread___contains__ := ok_Spread___contains__ (P := P) (w := w) (base := base) T
  refine fn_D T.F_law sc_law rfl fun cdv A outer s H E hr hp ho => ⟨_, (b_cons (s_set (i := 1) sc_law.nd rfl (Or.inl rfl) (d_call G__law_start (hr.mono (by decide)) rfl T.m__law_start T.k__law_start T.kb__law_start_1 (by intro _ _ h _; exact h) hp (a_cons (dv 0) a_nil)))
  (b_cons (s_for ho rfl (i_range1 rfl T.b_range (a_cons d_int a_nil)) (g_name (i := 2) sc_law.nd rfl (Or.inl rfl))
  (b_cons (s_set (i := 3) sc_law.nd rfl (Or.inl rfl) (d_lstM a_nil))
  (b_cons (s_for ho rfl (i_range1 rfl T.b_range (a_cons d_int a_nil)) (g_name (i := 4) sc_law.nd rfl (Or.inl rfl))
  (b_cons (s_set (i := 5) sc_law.nd rfl (Or.inl rfl) (d_call G__law_near_areas (hr.mono (by decide)) rfl T.m__law_near_areas T.k__law_near_areas T.kb__law_near_areas_2 (by intro _ _ h _; exact h) hp (a_cons (dv 1) (a_cons (d_call G__law_pull (hr.mono (by decide)) rfl T.m__law_pull T.k__law_pull T.kb__law_pull_2 (by intro _ _ h _; exact h) hp (a_cons (dv 1) (a_cons d_int a_nil))) a_nil))))
  (b_cut (s_if (t_cmp (o_sel (o_ownEq T.sp_Spread___eq__ T.fn_Spread___eq__ G_Spread___eq__ T.kb_Spread___eq___2 (hr.mono (by decide)) hp) (o_eq hr.units)) (d_call G__law_pull (hr.mono (by decide)) rfl T.m__law_pull T.k__law_pull T.kb__law_pull_2 (by intro _ _ h _; exact h) hp (a_cons (dv 1) (a_cons d_int a_nil))) d_int (nomark _)) (b_one (s_set (i := 5) sc_law.nd rfl (Or.inl rfl) (d_op o_add (dv 5) (d_lst (a_cons (d_call G__law_some_area (hr.mono (by decide)) rfl T.m__law_some_area T.k__law_some_area T.kb__law_some_area_1 (by intro _ _ h _; exact h) hp (a_cons (dv 1) a_nil)) a_nil))))) b_nil)
  (b_one (s_expr (d_bm PySem.F.plainAttrs_list PySem.F.slot_list_append PySem.F.type_list_append m_append (dv 3) (a_cons (d_call G__law_spread (hr.mono (by decide)) rfl T.m__law_spread T.k__law_spread T.kb__law_spread_1 (by intro _ _ h _; exact h) hp (a_cons (dv 5) a_nil)) a_nil)))))))
  (b_cons (s_asg (dv 3) (g_unl (n := 3) rfl (gs_cons (g_name (i := 6) sc_law.nd rfl (Or.inl rfl)) (gs_cons (g_name (i := 7) sc_law.nd rfl (Or.inl rfl)) (gs_cons (g_name (i := 8) sc_law.nd rfl (Or.inl rfl)) gs_nil)))))
  (b_cons (s_set (i := 9) sc_law.nd rfl (Or.inl rfl) (d_lst (a_cons (d_cmp (o_sel (o_ownEq T.sp_Spread___eq__ T.fn_Spread___eq__ G_Spread___eq__ T.kb_Spread___eq___2 (hr.mono (by decide)) hp) (o_eq hr.units)) (d_op (o_sel (o_own T.sp_Spread___sub__ T.fn_Spread___sub__ T.sf_Spread G_Spread___sub__ T.kb_Spread___sub___2 (hr.mono (by decide)) hp) o_sub) (d_op (o_own T.sp_Spread___or__ T.fn_Spread___or__ T.sf_Spread G_Spread___or__ T.kb_Spread___or___2 (hr.mono (by decide)) hp) (dv 6) (dv 7)) (dv 8)) (d_op (o_own T.sp_Spread___or__ T.fn_Spread___or__ T.sf_Spread G_Spread___or__ T.kb_Spread___or___2 (hr.mono (by decide)) hp) (d_op (o_sel (o_own T.sp_Spread___sub__ T.fn_Spread___sub__ T.sf_Spread G_Spread___sub__ T.kb_Spread___sub___2 (hr.mono (by decide)) hp) o_sub) (dv 6) (dv 8)) (d_op (o_sel (o_own T.sp_Spread___sub__ T.fn_Spread___sub__ T.sf_Spread G_Spread___sub__ T.kb_Spread___sub___2 (hr.mono (by decide)) hp) o_sub) (dv 7) (dv 8))) (nomark _)) (a_cons (d_cmp (o_sel (o_ownEq T.sp_Spread___eq__ T.fn_Spread___eq__ G_Spread___eq__ T.kb_Spread___eq___2 (hr.mono (by decide)) hp) (o_eq hr.units)) (d_op (o_sel (o_own T.sp_Spread___sub__ T.fn_Spread___sub__ T.sf_Spread G_Spread___sub__ T.kb_Spread___sub___2 (hr.mono (by decide)) hp) o_sub) (dv 6) (d_op (o_own T.sp_Spread___or__ T.fn_Spread___or__ T.sf_Spread G_Spread___or__ T.kb_Spread___or___2 (hr.mono (by decide)) hp) (dv 7) (dv 8))) (d_op (o_own T.sp_Spread___and__ T.fn_Spread___and__ T.sf_Spread G_Spread___and__ T.kb_Spread___and___2 (hr.mono (by decide)) hp) (d_op (o_sel (o_own T.sp_Spread___sub__ T.fn_Spread___sub__ T.sf_Spread G_Spread___sub__ T.kb_Spread___sub___2 (hr.mono (by decide)) hp) o_sub) (dv 6) (dv 7)) (d_op (o_sel (o_own T.sp_Spread___sub__ T.fn_Spread___sub__ T.sf_Spread G_Spread___sub__ T.kb_Spread___sub___2 (hr.mono (by decide)) hp) o_sub) (dv 6) (dv 8))) (nomark _)) (a_cons (d_cmp (o_sel (o_ownEq T.sp_Spread___eq__ T.fn_Spread___eq__ G_Spread___eq__ T.kb_Spread___eq___2 (hr.mono (by decide)) hp) (o_eq hr.units)) (d_op (o_own T.sp_Spread___and__ T.fn_Spread___and__ T.sf_Spread G_Spread___and__ T.kb_Spread___and___2 (hr.mono (by decide)) hp) (dv 6) (d_op (o_own T.sp_Spread___or__ T.fn_Spread___or__ T.sf_Spread G_Spread___or__ T.kb_Spread___or___2 (hr.mono (by decide)) hp) (dv 7) (dv 8))) (d_op (o_own T.sp_Spread___or__ T.fn_Spread___or__ T.sf_Spread G_Spread___or__ T.kb_Spread___or___2 (hr.mono (by decide)) hp) (d_op (o_own T.sp_Spread___and__ T.fn_Spread___and__ T.sf_Spread G_Spread___and__ T.kb_Spread___and___2 (hr.mono (by decide)) hp) (dv 6) (dv 7)) (d_op (o_own T.sp_Spread___and__ T.fn_Spread___and__ T.sf_Spread G_Spread___and__ T.kb_Spread___and___2 (hr.mono (by decide)) hp) (dv 6) (dv 8))) (nomark _)) a_nil)))))
  (b_cons (s_set (i := 9) sc_law.nd rfl (Or.inl rfl) (d_op o_add (dv 9) (d_lst (a_cons (d_cmp (o_sel (o_ownEq T.sp_Spread___eq__ T.fn_Spread___eq__ G_Spread___eq__ T.kb_Spread___eq___2 (hr.mono (by decide)) hp) (o_eq hr.units)) (d_op (o_sel (o_own T.sp_Spread___sub__ T.fn_Spread___sub__ T.sf_Spread G_Spread___sub__ T.kb_Spread___sub___2 (hr.mono (by decide)) hp) o_sub) (dv 6) (d_op (o_sel (o_own T.sp_Spread___sub__ T.fn_Spread___sub__ T.sf_Spread G_Spread___sub__ T.kb_Spread___sub___2 (hr.mono (by decide)) hp) o_sub) (dv 6) (dv 7))) (d_op (o_own T.sp_Spread___and__ T.fn_Spread___and__ T.sf_Spread G_Spread___and__ T.kb_Spread___and___2 (hr.mono (by decide)) hp) (dv 6) (dv 7)) (nomark _)) (a_cons (d_cmp (o_sel (o_ownEq T.sp_Spread___eq__ T.fn_Spread___eq__ G_Spread___eq__ T.kb_Spread___eq___2 (hr.mono (by decide)) hp) (o_eq hr.units)) (d_op (o_own T.sp_Spread___or__ T.fn_Spread___or__ T.sf_Spread G_Spread___or__ T.kb_Spread___or___2 (hr.mono (by decide)) hp) (d_op (o_sel (o_own T.sp_Spread___sub__ T.fn_Spread___sub__ T.sf_Spread G_Spread___sub__ T.kb_Spread___sub___2 (hr.mono (by decide)) hp) o_sub) (dv 6) (dv 7)) (d_op (o_own T.sp_Spread___and__ T.fn_Spread___and__ T.sf_Spread G_Spread___and__ T.kb_Spread___and___2 (hr.mono (by decide)) hp) (dv 6) (dv 7))) (dv 6) (nomark _)) (a_cons (d_cmp (o_sel (o_ownEq T.sp_Spread___eq__ T.fn_Spread___eq__ G_Spread___eq__ T.kb_Spread___eq___2 (hr.mono (by decide)) hp) (o_eq hr.units)) (d_op (o_own T.sp_Spread___or__ T.fn_Spread___or__ T.sf_Spread G_Spread___or__ T.kb_Spread___or___2 (hr.mono (by decide)) hp) (dv 6) (dv 7)) (d_op (o_own T.sp_Spread___or__ T.fn_Spread___or__ T.sf_Spread G_Spread___or__ T.kb_Spread___or___2 (hr.mono (by decide)) hp) (dv 7) (dv 6)) (nomark _)) (a_cons (d_notO T.sp_Spread___bool__ T.fn_Spread___bool__ G_Spread___bool__ T.kb_Spread___bool___1 (hr.mono (by decide)) hp (d_op (o_own T.sp_Spread___and__ T.fn_Spread___and__ T.sf_Spread G_Spread___and__ T.kb_Spread___and___2 (hr.mono (by decide)) hp) (d_op (o_sel (o_own T.sp_Spread___sub__ T.fn_Spread___sub__ T.sf_Spread G_Spread___sub__ T.kb_Spread___sub___2 (hr.mono (by decide)) hp) o_sub) (dv 6) (dv 7)) (dv 7))) a_nil)))))))
  (b_cons (s_set (i := 9) sc_law.nd rfl (Or.inl rfl) (d_op o_add (dv 9) (d_lst (a_cons (d_cmp (o_sel (o_ownEq T.sp_Spread___eq__ T.fn_Spread___eq__ G_Spread___eq__ T.kb_Spread___eq___2 (hr.mono (by decide)) hp) (o_eq hr.units)) (d_cmp (o_sel (o_ownEq T.sp_Spread___eq__ T.fn_Spread___eq__ G_Spread___eq__ T.kb_Spread___eq___2 (hr.mono (by decide)) hp) (o_eq hr.units)) (d_op (o_own T.sp_Spread___or__ T.fn_Spread___or__ T.sf_Spread G_Spread___or__ T.kb_Spread___or___2 (hr.mono (by decide)) hp) (d_op (o_sel (o_own T.sp_Spread___sub__ T.fn_Spread___sub__ T.sf_Spread G_Spread___sub__ T.kb_Spread___sub___2 (hr.mono (by decide)) hp) o_sub) (dv 6) (dv 7)) (d_op (o_sel (o_own T.sp_Spread___sub__ T.fn_Spread___sub__ T.sf_Spread G_Spread___sub__ T.kb_Spread___sub___2 (hr.mono (by decide)) hp) o_sub) (dv 7) (dv 6))) (d_make0 T.mk_Spread G_Spread___init__ (hr.mono (by decide)) rfl T.m_Spread T.kb_Spread___init___1 (fun us ws h1 h2 => match us, ws, h1, h2 with | [_], [], _, _ => rfl) hp k_nil) (nomark _)) (d_cmp (o_sel (o_ownEq T.sp_Spread___eq__ T.fn_Spread___eq__ G_Spread___eq__ T.kb_Spread___eq___2 (hr.mono (by decide)) hp) (o_eq hr.units)) (dv 6) (dv 7) (nomark _)) (nomark _)) (a_cons (d_cmp (o_sel (o_ownEq T.sp_Spread___eq__ T.fn_Spread___eq__ G_Spread___eq__ T.kb_Spread___eq___2 (hr.mono (by decide)) hp) (o_eq hr.units)) (d_meth T.ci_Spread.cl T.mt_Spread_within G_Spread_within (hr.mono (by decide)) T.kb_Spread_within_2 (fun us ws h1 h2 => match us, ws, h1, h2 with | [_, _], [], _, _ => rfl) hp (dv 6) (a_cons (dv 7) a_nil) k_nil) (d_cmp (o_sel (o_ownEq T.sp_Spread___eq__ T.fn_Spread___eq__ G_Spread___eq__ T.kb_Spread___eq___2 (hr.mono (by decide)) hp) (o_eq hr.units)) (d_op (o_own T.sp_Spread___or__ T.fn_Spread___or__ T.sf_Spread G_Spread___or__ T.kb_Spread___or___2 (hr.mono (by decide)) hp) (dv 6) (dv 7)) (dv 7) (nomark _)) (nomark _)) (a_cons (d_meth T.ci_Spread.cl T.mt_Spread_within G_Spread_within (hr.mono (by decide)) T.kb_Spread_within_2 (fun us ws h1 h2 => match us, ws, h1, h2 with | [_, _], [], _, _ => rfl) hp (d_op (o_own T.sp_Spread___and__ T.fn_Spread___and__ T.sf_Spread G_Spread___and__ T.kb_Spread___and___2 (hr.mono (by decide)) hp) (dv 6) (dv 7)) (a_cons (dv 6) a_nil) k_nil) a_nil))))))
  (b_cons (s_if (t_not (t_val (d_callB (c_all rfl) rfl T.b_all boot_all' (a_cons (dv 9) a_nil)))) (b_one (s_ret d_bl)) b_nil)
  (b_one (s_for ho rfl (i_seq (d_tup (a_cons (d_op (o_sel (o_own T.sp_Spread___sub__ T.fn_Spread___sub__ T.sf_Spread G_Spread___sub__ T.kb_Spread___sub___2 (hr.mono (by decide)) hp) o_sub) (dv 6) (dv 7)) (a_cons (d_op (o_sel (o_own T.sp_Spread___sub__ T.fn_Spread___sub__ T.sf_Spread G_Spread___sub__ T.kb_Spread___sub___2 (hr.mono (by decide)) hp) o_sub) (dv 7) (dv 6)) a_nil)))) (g_name (i := 10) sc_law.nd rfl (Or.inl rfl))
  (b_one (s_forS GSw.xe_cx ho (i_walk rfl (room5 hr) (dv 10) T.ci_Spread.cl T.mt_Spread_walk T.na_Spread_own_spans T.F_Spread_walk T.bb_Spread_walk) (g_name (i := 11) sc_law.nd rfl (Or.inl rfl))
  (b_cons (s_set (i := 12) sc_law.nd rfl (Or.inl rfl) (d_meth0 T.ci_Span.cl T.mt_Span_simplest G_Span_simplest (hr.mono (by decide)) T.kb_Span_simplest_1 (fun us ws h1 h2 => match us, ws, h1, h2 with | [_], [], _, _ => rfl) hp (dv 11) k_nil))
  (b_one (s_if (DPW.t (w_or (t_cmp (o_sel (o_ownEq T.sp_Spread___eq__ T.fn_Spread___eq__ G_Spread___eq__ T.kb_Spread___eq___2 (hr.mono (by decide)) hp) (o_eq hr.units)) (d_cmp (o_ownIn T.sp_Spread___contains__ T.fn_Spread___contains__ G_Spread___contains__ T.kb_Spread___contains___2 (hr.mono (by decide)) hp) (dv 12) (dv 6) rfl) (d_cmp (o_ownIn T.sp_Spread___contains__ T.fn_Spread___contains__ G_Spread___contains__ T.kb_Spread___contains___2 (hr.mono (by decide)) hp) (dv 12) (dv 7) rfl) (nomark _)) (w_or (t_cmp (o_ownNotIn T.sp_Spread___contains__ T.fn_Spread___contains__ G_Spread___contains__ T.kb_Spread___contains___2 (hr.mono (by decide)) hp) (dv 12) (d_op (o_own T.sp_Spread___or__ T.fn_Spread___or__ T.sf_Spread G_Spread___or__ T.kb_Spread___or___2 (hr.mono (by decide)) hp) (dv 6) (dv 7)) rfl) (w_or1 (t_cmp (o_ownIn T.sp_Spread___contains__ T.fn_Spread___contains__ G_Spread___contains__ T.kb_Spread___contains___2 (hr.mono (by decide)) hp) (dv 12) (d_op (o_own T.sp_Spread___and__ T.fn_Spread___and__ T.sf_Spread G_Spread___and__ T.kb_Spread___and___2 (hr.mono (by decide)) hp) (dv 6) (dv 7)) rfl))))) (b_one (s_ret d_bl)) b_nil)))))))))))))))
  (b_one (s_ret d_bl)))), ?_⟩
  clear hp ho hr G__law_start G__law_near_areas G__law_pull G_Spread___eq__ G__law_some_area G__law_spread G_Spread___sub__ G_Spread___or__ G_Spread___and__ G_Spread___bool__ G_Spread___init__ G_Spread_within G_Span_simplest G_Spread___contains__
  rintro ds M k x hl ⟨ns, rfl, hn, hM, q⟩
  clear T
  refine ⟨_, rfl, rfl, ns, rfl, hn, fun p b hp hb => ?_⟩
  refine ⟨3, rfl, by decide, by decide, ?_⟩
  refine ForK.of (fun j ρ M' => ∃ (b : Bag) (r2 r3 r4 r5 r6 r7 r8 r9 r10 r11 r12 : Option D), b.Ok ∧ M' p = some b.mo ∧ ρ = [some (.scr ns), some (.cel p), r2, r3, r4, r5, r6, r7, r8, r9, r10, r11, r12]) ?_ ?_ ?_
  · exact ⟨b, _, _, _, _, _, _, _, _, _, _, _, hb, mup_same, rfl⟩
  · rintro j d ρ M' hd ⟨b, r2, r3, r4, r5, r6, r7, r8, r9, r10, r11, r12, hb, hm, rfl⟩
    clear hd
    refine ⟨Nat.zero_le _, fun r hr => ?_⟩
    have ne : r ≠ p := fun z => by rw [z, hm] at hr; cases hr
    refine ⟨3, rfl, by decide, by decide, ?_⟩
    refine ForK.of (fun i ρ M' => ∃ (L : List (List SpT)) (b : Bag) (r4 r5 : Option D), b.Ok ∧ L.length = i ∧ (∀ S ∈ L, SrOk S ∧ S.length ≤ 4) ∧ M' p = some b.mo ∧ M' r = some (.lst (L.map (sprd cl))) ∧ ρ = [some (.scr ns), some (.cel p), some d, some (.cel r), r4, r5, r6, r7, r8, r9, r10, r11, r12]) ?_ ?_ ?_
    · exact ⟨[], b, _, _, hb, rfl, (fun S h => by cases h), by rw [mup_ne (Ne.symm ne)]; exact hm, mup_same, rfl⟩
    · rintro i e ρ M1 hd ⟨L, b, r4, r5, hb, hL, oL, hp1, hr1, rfl⟩
      have hi : i < 3 := (upto_get hd).1
      clear hd
      refine ⟨_, rfl, _, rfl, rfl, pullG hp1 hb (by decide) (log2_small (by decide) (by decide)) fun m b1 m0 m1 hb1 => ?_⟩
      refine ⟨rfl, p, b1, m, rfl, mup_same, hb1, m0, by omega, fun S b2 hb2 oS lS => ?_⟩
      rw [mup_mup]
      refine ⟨fun ρ M2 => ∃ (T : List SpT) (b : Bag), b.Ok ∧ AllOk T ∧ T.length ≤ 4 ∧ M2 p = some b.mo ∧ M2 r = some (.lst (L.map (sprd cl))) ∧ ρ = [some (.scr ns), some (.cel p), some d, some (.cel r), some e, some (.lst (T.map arD)), r6, r7, r8, r9, r10, r11, r12], ?_, ?_⟩
      · refine ⟨_, rfl, rfl, pullG mup_same hb2 (by decide) (log2_small (by decide) (by decide)) fun t b3 t0 t1 hb3 => eqI ⟨_, rfl, ?_⟩⟩
        have hr3 : mup (mup M1 p b2.mo) p b3.mo r = some (.lst (L.map (sprd cl))) := by rw [mup_ne ne, mup_ne ne]; exact hr1
        refine ite_b (fun z => ?_) (fun z => ?_)
        · refine ⟨_, rfl, _, rfl, rfl, p, b3, rfl, mup_same, hb3, fun f c b4 hb4 ar => ?_⟩
          refine ⟨Nat.le_of_ble_eq_true rfl, ?_⟩
          refine ⟨by rw [List.length_map]; show S.length + 1 ≤ _; exact Nat.le_trans (show S.length + 1 ≤ 4 by omega) (by decide), ?_⟩
          refine ⟨S ++ [(⟨f, ar.1⟩, ⟨c, ar.2.1⟩)], b4, hb4, fun s hs => ?_, by rw [List.length_append]; show S.length + 1 ≤ 4; omega, mup_same, by rw [mup_ne ne]; exact hr3, by rw [List.map_append]; rfl⟩
          rcases List.mem_append.mp hs with h | h
          · exact oS s h
          · cases List.mem_singleton.mp h
            exact ar_sp ar
        · exact ⟨S, b3, hb3, oS, by omega, mup_same, hr3, rfl⟩
      · clear oS lS hb2 hb1 m0 m1
        rintro ρ M2 ⟨T, b5, hb5, oT, lT, hp2, hr2, rfl⟩
        refine ⟨_, rfl, ⟨rfl, _, hr2⟩, _, rfl, rfl, T, rfl, oT, by omega, fun F hF => ?_⟩
        refine ⟨_, hr2, by rw [List.length_map, hL]; exact Nat.lt_trans hi (by decide), ?_⟩
        refine ⟨L ++ [F], b5, _, _, hb5, by rw [List.length_append, hL]; rfl, fun U hU => ?_, by rw [mup_ne (Ne.symm ne)]; exact hp2, ?_, rfl⟩
        · rcases List.mem_append.mp hU with h | h
          · exact oL U h
          · cases List.mem_singleton.mp h
            exact ⟨SrOk.of oT hF, Nat.le_trans hF.len lT⟩
        · rw [mup_same, List.map_append]
          rfl
    · rintro ρ M1 ⟨L, b1, r4, r5, hb1, hL, oL, hp1, hr1, rfl⟩
      rw [upto_length] at hL
      match L, hL, oL, hr1 with
      | [A, B, C], _, oL, hr1 =>
        obtain ⟨oA, lA⟩ := oL A (by simp)
        obtain ⟨oB, lB⟩ := oL B (by simp)
        obtain ⟨oC, lC⟩ := oL C (by simp)
        refine ⟨_, rfl, _, .inr ⟨r, rfl, hr1⟩, rfl, _, _, rfl, _, _, rfl, _, _, rfl, rfl, ?_⟩
        clear oL hL hr1
        refine ⟨_, rfl, _, rfl, ⟨_, rfl⟩, ⟨_, rfl⟩, orK oA oB (by omega) fun F1 oF1 mF1 lF1 => ?_⟩
        replace lF1 : F1.length ≤ 8 := by omega
        refine ⟨_, rfl, ⟨_, rfl⟩, ⟨_, rfl⟩, subK oF1 oC (by omega) fun F2 oF2 mF2 lF2 => ?_⟩
        replace lF2 : F2.length ≤ 12 := by omega
        refine ⟨_, rfl, _, rfl, ⟨_, rfl⟩, ⟨_, rfl⟩, subK oA oC (by omega) fun F3 oF3 mF3 lF3 => ?_⟩
        replace lF3 : F3.length ≤ 8 := by omega
        refine ⟨_, rfl, _, rfl, ⟨_, rfl⟩, ⟨_, rfl⟩, subK oB oC (by omega) fun F4 oF4 mF4 lF4 => ?_⟩
        replace lF4 : F4.length ≤ 8 := by omega
        refine ⟨⟨_, rfl⟩, ⟨_, rfl⟩, orK oF3 oF4 (by omega) fun F5 oF5 mF5 lF5 => ?_⟩
        replace lF5 : F5.length ≤ 16 := by omega
        refine ⟨⟨_, rfl⟩, ⟨_, rfl⟩, eqK (by omega) ?_⟩
        have eqF2F5 : F2 = F5 := set_eq oF2 oF5 fun z => by
          simp only [mF1, mF2, mF3, mF4, mF5]
          by_cases h1 : SP.mem A z <;> by_cases h2 : SP.mem B z <;> by_cases h3 : SP.mem C z <;> simp [h1, h2, h3]
        rw [decide_eq_true eqF2F5]
        refine ⟨_, rfl, _, rfl, _, rfl, ⟨_, rfl⟩, ⟨_, rfl⟩, orK oB oC (by omega) fun F6 oF6 mF6 lF6 => ?_⟩
        replace lF6 : F6.length ≤ 8 := by omega
        refine ⟨⟨_, rfl⟩, ⟨_, rfl⟩, subK oA oF6 (by omega) fun F7 oF7 mF7 lF7 => ?_⟩
        replace lF7 : F7.length ≤ 12 := by omega
        refine ⟨_, rfl, _, rfl, ⟨_, rfl⟩, ⟨_, rfl⟩, subK oA oB (by omega) fun F8 oF8 mF8 lF8 => ?_⟩
        replace lF8 : F8.length ≤ 8 := by omega
        refine ⟨_, rfl, _, rfl, ⟨_, rfl⟩, ⟨_, rfl⟩, subK oA oC (by omega) fun F9 oF9 mF9 lF9 => ?_⟩
        replace lF9 : F9.length ≤ 8 := by omega
        refine ⟨⟨_, rfl⟩, ⟨_, rfl⟩, andK oF8 oF9 (Nat.le_trans (Nat.mul_le_mul lF8 lF9) (by decide)) fun F10 oF10 mF10 lF10 => ?_⟩
        replace lF10 : F10.length ≤ 64 := Nat.le_trans lF10 (Nat.mul_le_mul lF8 lF9)
        refine ⟨⟨_, rfl⟩, ⟨_, rfl⟩, eqK (by omega) ?_⟩
        have eqF7F10 : F7 = F10 := set_eq oF7 oF10 fun z => by
          simp only [mF1, mF2, mF3, mF4, mF5, mF6, mF7, mF8, mF9, mF10]
          by_cases h1 : SP.mem A z <;> by_cases h2 : SP.mem B z <;> by_cases h3 : SP.mem C z <;> simp [h1, h2, h3]
        rw [decide_eq_true eqF7F10]
        refine ⟨_, rfl, _, rfl, _, rfl, ⟨_, rfl⟩, ⟨_, rfl⟩, orK oB oC (by omega) fun F11 oF11 mF11 lF11 => ?_⟩
        replace lF11 : F11.length ≤ 8 := by omega
        refine ⟨⟨_, rfl⟩, ⟨_, rfl⟩, andK oA oF11 (Nat.le_trans (Nat.mul_le_mul lA lF11) (by decide)) fun F12 oF12 mF12 lF12 => ?_⟩
        replace lF12 : F12.length ≤ 32 := Nat.le_trans lF12 (Nat.mul_le_mul lA lF11)
        refine ⟨_, rfl, _, rfl, ⟨_, rfl⟩, ⟨_, rfl⟩, andK oA oB (Nat.le_trans (Nat.mul_le_mul lA lB) (by decide)) fun F13 oF13 mF13 lF13 => ?_⟩
        replace lF13 : F13.length ≤ 16 := Nat.le_trans lF13 (Nat.mul_le_mul lA lB)
        refine ⟨_, rfl, _, rfl, ⟨_, rfl⟩, ⟨_, rfl⟩, andK oA oC (Nat.le_trans (Nat.mul_le_mul lA lC) (by decide)) fun F14 oF14 mF14 lF14 => ?_⟩
        replace lF14 : F14.length ≤ 16 := Nat.le_trans lF14 (Nat.mul_le_mul lA lC)
        refine ⟨⟨_, rfl⟩, ⟨_, rfl⟩, orK oF13 oF14 (by omega) fun F15 oF15 mF15 lF15 => ?_⟩
        replace lF15 : F15.length ≤ 32 := by omega
        refine ⟨⟨_, rfl⟩, ⟨_, rfl⟩, eqK (by omega) ?_⟩
        have eqF12F15 : F12 = F15 := set_eq oF12 oF15 fun z => by
          simp only [mF1, mF2, mF3, mF4, mF5, mF6, mF7, mF8, mF9, mF10, mF11, mF12, mF13, mF14, mF15]
          by_cases h1 : SP.mem A z <;> by_cases h2 : SP.mem B z <;> by_cases h3 : SP.mem C z <;> simp [h1, h2, h3]
        rw [decide_eq_true eqF12F15]
        refine ⟨Nat.le_of_ble_eq_true rfl, _, rfl, ?_⟩
        refine ⟨_, rfl, _, rfl, _, rfl, ⟨_, rfl⟩, ⟨_, rfl⟩, subK oA oB (by omega) fun F16 oF16 mF16 lF16 => ?_⟩
        replace lF16 : F16.length ≤ 8 := by omega
        refine ⟨⟨_, rfl⟩, ⟨_, rfl⟩, subK oA oF16 (by omega) fun F17 oF17 mF17 lF17 => ?_⟩
        replace lF17 : F17.length ≤ 12 := by omega
        refine ⟨_, rfl, _, rfl, ⟨_, rfl⟩, ⟨_, rfl⟩, andK oA oB (Nat.le_trans (Nat.mul_le_mul lA lB) (by decide)) fun F18 oF18 mF18 lF18 => ?_⟩
        replace lF18 : F18.length ≤ 16 := Nat.le_trans lF18 (Nat.mul_le_mul lA lB)
        refine ⟨⟨_, rfl⟩, ⟨_, rfl⟩, eqK (by omega) ?_⟩
        have eqF17F18 : F17 = F18 := set_eq oF17 oF18 fun z => by
          simp only [mF1, mF2, mF3, mF4, mF5, mF6, mF7, mF8, mF9, mF10, mF11, mF12, mF13, mF14, mF15, mF16, mF17, mF18]
          by_cases h1 : SP.mem A z <;> by_cases h2 : SP.mem B z <;> by_cases h3 : SP.mem C z <;> simp [h1, h2, h3]
        rw [decide_eq_true eqF17F18]
        refine ⟨_, rfl, _, rfl, ⟨_, rfl⟩, ⟨_, rfl⟩, subK oA oB (by omega) fun F19 oF19 mF19 lF19 => ?_⟩
        replace lF19 : F19.length ≤ 8 := by omega
        refine ⟨_, rfl, _, rfl, ⟨_, rfl⟩, ⟨_, rfl⟩, andK oA oB (Nat.le_trans (Nat.mul_le_mul lA lB) (by decide)) fun F20 oF20 mF20 lF20 => ?_⟩
        replace lF20 : F20.length ≤ 16 := Nat.le_trans lF20 (Nat.mul_le_mul lA lB)
        refine ⟨⟨_, rfl⟩, ⟨_, rfl⟩, orK oF19 oF20 (by omega) fun F21 oF21 mF21 lF21 => ?_⟩
        replace lF21 : F21.length ≤ 24 := by omega
        refine ⟨_, rfl, ⟨_, rfl⟩, ⟨_, rfl⟩, eqK (by omega) ?_⟩
        have eqF21A : F21 = A := set_eq oF21 oA fun z => by
          simp only [mF1, mF2, mF3, mF4, mF5, mF6, mF7, mF8, mF9, mF10, mF11, mF12, mF13, mF14, mF15, mF16, mF17, mF18, mF19, mF20, mF21]
          by_cases h1 : SP.mem A z <;> by_cases h2 : SP.mem B z <;> by_cases h3 : SP.mem C z <;> simp [h1, h2, h3]
        rw [decide_eq_true eqF21A]
        refine ⟨_, rfl, _, rfl, ⟨_, rfl⟩, ⟨_, rfl⟩, orK oA oB (by omega) fun F22 oF22 mF22 lF22 => ?_⟩
        replace lF22 : F22.length ≤ 8 := by omega
        refine ⟨_, rfl, _, rfl, ⟨_, rfl⟩, ⟨_, rfl⟩, orK oB oA (by omega) fun F23 oF23 mF23 lF23 => ?_⟩
        replace lF23 : F23.length ≤ 8 := by omega
        refine ⟨⟨_, rfl⟩, ⟨_, rfl⟩, eqK (by omega) ?_⟩
        have eqF22F23 : F22 = F23 := set_eq oF22 oF23 fun z => by
          simp only [mF1, mF2, mF3, mF4, mF5, mF6, mF7, mF8, mF9, mF10, mF11, mF12, mF13, mF14, mF15, mF16, mF17, mF18, mF19, mF20, mF21, mF22, mF23]
          by_cases h1 : SP.mem A z <;> by_cases h2 : SP.mem B z <;> by_cases h3 : SP.mem C z <;> simp [h1, h2, h3]
        rw [decide_eq_true eqF22F23]
        refine ⟨_, rfl, _, rfl, ⟨_, rfl⟩, ⟨_, rfl⟩, subK oA oB (by omega) fun F24 oF24 mF24 lF24 => ?_⟩
        replace lF24 : F24.length ≤ 8 := by omega
        refine ⟨_, rfl, ⟨_, rfl⟩, ⟨_, rfl⟩, andK oF24 oB (Nat.le_trans (Nat.mul_le_mul lF24 lB) (by decide)) fun F25 oF25 mF25 lF25 => ?_⟩
        replace lF25 : F25.length ≤ 32 := Nat.le_trans lF25 (Nat.mul_le_mul lF24 lB)
        have enF25 : F25 = [] := set_nil oF25 fun z => by
          simp only [mF1, mF2, mF3, mF4, mF5, mF6, mF7, mF8, mF9, mF10, mF11, mF12, mF13, mF14, mF15, mF16, mF17, mF18, mF19, mF20, mF21, mF22, mF23, mF24, mF25]
          by_cases h1 : SP.mem A z <;> by_cases h2 : SP.mem B z <;> by_cases h3 : SP.mem C z <;> simp [h1, h2, h3]
        rw [enF25]
        refine ⟨⟨_, rfl⟩, [], rfl, _, rfl, Nat.le_of_ble_eq_true rfl, ?_⟩
        refine ⟨Nat.le_of_ble_eq_true rfl, _, rfl, ?_⟩
        refine ⟨_, rfl, _, rfl, ⟨_, rfl⟩, ⟨_, rfl⟩, subK oA oB (by omega) fun F26 oF26 mF26 lF26 => ?_⟩
        replace lF26 : F26.length ≤ 8 := by omega
        refine ⟨_, rfl, _, rfl, ⟨_, rfl⟩, ⟨_, rfl⟩, subK oB oA (by omega) fun F27 oF27 mF27 lF27 => ?_⟩
        replace lF27 : F27.length ≤ 8 := by omega
        refine ⟨⟨_, rfl⟩, ⟨_, rfl⟩, orK oF26 oF27 (by omega) fun F28 oF28 mF28 lF28 => ?_⟩
        replace lF28 : F28.length ≤ 16 := by omega
        refine ⟨rfl, rfl, mkP (S := []) (fun _ => rfl) (.inr rfl) (fun s h => by cases h) (Nat.zero_le _) fun G hG => ?_⟩
        have eG := mg_nil hG
        subst eG
        refine ⟨⟨_, rfl⟩, ⟨_, rfl⟩, eqK (by omega) ?_⟩
        refine ⟨_, rfl, _, rfl, ⟨_, rfl⟩, ⟨_, rfl⟩, eqK (by omega) (eqB ?_)⟩
        have e8 : decide (F28 = []) = decide (A = B) := decide_eq_decide.mpr ⟨fun e => set_eq oA oB fun z => by
            have h0 := SP.mem_nil (x := z)
            rw [← e] at h0
            simp only [mF1, mF2, mF3, mF4, mF5, mF6, mF7, mF8, mF9, mF10, mF11, mF12, mF13, mF14, mF15, mF16, mF17, mF18, mF19, mF20, mF21, mF22, mF23, mF24, mF25, mF26, mF27, mF28] at h0
            by_cases h1 : SP.mem A z <;> by_cases h2 : SP.mem B z <;> simp [h1, h2] at h0 ⊢, fun e => set_nil oF28 fun z => by
            simp only [mF1, mF2, mF3, mF4, mF5, mF6, mF7, mF8, mF9, mF10, mF11, mF12, mF13, mF14, mF15, mF16, mF17, mF18, mF19, mF20, mF21, mF22, mF23, mF24, mF25, mF26, mF27, mF28]
            rw [e]
            by_cases h2 : SP.mem B z <;> simp [h2]⟩
        rw [decide_eq_true e8]
        refine ⟨_, rfl, _, rfl, rfl, _, rfl, rfl, rfl, withinK oA oB (by omega) fun V oV mV => ?_⟩
        refine ⟨_, rfl, _, rfl, ⟨_, rfl⟩, ⟨_, rfl⟩, orK oA oB (by omega) fun F29 oF29 mF29 lF29 => ?_⟩
        replace lF29 : F29.length ≤ 8 := by omega
        refine ⟨_, rfl, ⟨_, rfl⟩, ⟨_, rfl⟩, eqK (by omega) (eqB ?_)⟩
        have e9 : V.isEmpty = decide (F29 = B) := empty_iff.trans <| decide_eq_decide.mpr ⟨fun e => set_eq oF29 oB fun z => by
            have h0 := SP.mem_nil (x := z)
            rw [← e] at h0
            simp only [mF1, mF2, mF3, mF4, mF5, mF6, mF7, mF8, mF9, mF10, mF11, mF12, mF13, mF14, mF15, mF16, mF17, mF18, mF19, mF20, mF21, mF22, mF23, mF24, mF25, mF26, mF27, mF28, mV, mF29] at h0 ⊢
            by_cases h1 : SP.mem A z <;> by_cases h2 : SP.mem B z <;> simp [h1, h2] at h0 ⊢, fun e => set_nil oV fun z => by
            have h0 : SP.mem F29 z ↔ SP.mem B z := by rw [e]
            simp only [mF1, mF2, mF3, mF4, mF5, mF6, mF7, mF8, mF9, mF10, mF11, mF12, mF13, mF14, mF15, mF16, mF17, mF18, mF19, mF20, mF21, mF22, mF23, mF24, mF25, mF26, mF27, mF28, mV, mF29] at h0 ⊢
            by_cases h1 : SP.mem A z <;> by_cases h2 : SP.mem B z <;> simp [h1, h2] at h0 ⊢⟩
        rw [decide_eq_true e9]
        refine ⟨_, rfl, _, rfl, ⟨_, rfl⟩, ⟨_, rfl⟩, andK oA oB (Nat.le_trans (Nat.mul_le_mul lA lB) (by decide)) fun F30 oF30 mF30 lF30 => ?_⟩
        replace lF30 : F30.length ≤ 16 := Nat.le_trans lF30 (Nat.mul_le_mul lA lB)
        refine ⟨_, rfl, rfl, _, rfl, rfl, rfl, withinK oF30 oA (by omega) fun U oU mU => ?_⟩
        have eU : U = [] := set_nil oU fun z => by
          simp only [mF1, mF2, mF3, mF4, mF5, mF6, mF7, mF8, mF9, mF10, mF11, mF12, mF13, mF14, mF15, mF16, mF17, mF18, mF19, mF20, mF21, mF22, mF23, mF24, mF25, mF26, mF27, mF28, mV, mF29, mF30, mU]
          by_cases h1 : SP.mem A z <;> by_cases h2 : SP.mem B z <;> by_cases h3 : SP.mem C z <;> simp [h1, h2, h3]
        subst eU
        refine ⟨Nat.le_of_ble_eq_true rfl, Nat.le_of_ble_eq_true rfl, ?_⟩
        refine ⟨_, rfl, [true, true, true, true, true, true, true, true, true, true], rfl, _, rfl, iteF ?_⟩
        refine ⟨_, rfl, _, rfl, ⟨_, rfl⟩, ⟨_, rfl⟩, subK oA oB (by omega) fun D1 oD1 mD1 lD1 => ?_⟩
        refine ⟨_, rfl, _, rfl, ⟨_, rfl⟩, ⟨_, rfl⟩, subK oB oA (by omega) fun D2 oD2 mD2 lD2 => ?_⟩
        refine ⟨Nat.le_of_ble_eq_true rfl, ?_⟩
        refine ForK.of (fun i ρ M' => ∃ (r9 r10 r11 r12 : Option D), M1 = M' ∧ ρ = [some (.scr ns), some (.cel p), some d, some (.cel r), r4, r5, some (sprd cl A), some (sprd cl B), some (sprd cl C), r9, r10, r11, r12]) ⟨_, _, _, _, rfl, rfl⟩ ?_ ?_
        · rintro i g ρ M' hg ⟨r9, r10, r11, r12, rfl, rfl⟩
          obtain ⟨G, rfl, oG, hG⟩ : ∃ G, g = sprd cl G ∧ SrOk G ∧ ∀ z, SP.mem G z → ((SP.mem A z ∧ ¬ SP.mem B z) ∨ (SP.mem B z ∧ ¬ SP.mem A z)) := by
            have hg' := List.mem_of_getElem? hg
            simp only [List.mem_cons, List.not_mem_nil, or_false] at hg'
            rcases hg' with rfl | rfl
            · exact ⟨D1, rfl, oD1, fun z hz => .inl ((mD1 z).mp hz)⟩
            · exact ⟨D2, rfl, oD2, fun z hz => .inr ((mD2 z).mp hz)⟩
          clear hg
          refine ⟨_, rfl, _, G.map (spD' cl), rfl, rfl, rfl, fun u hu => ?_, ?_⟩
          · obtain ⟨s, _, rfl⟩ := List.mem_map.mp hu
            exact ⟨_, _, rfl⟩
          refine ForK.of (fun i ρ M' => ∃ (r11 r12 : Option D), M1 = M' ∧ ρ = [some (.scr ns), some (.cel p), some d, some (.cel r), r4, r5, some (sprd cl A), some (sprd cl B), some (sprd cl C), r9, some (sprd cl G), r11, r12]) ⟨_, _, rfl, rfl⟩ ?_ ?_
          · rintro t u ρ M' hu ⟨r11, r12, rfl, rfl⟩
            obtain ⟨s, hs, rfl⟩ := map_get hu
            have hs := List.mem_of_getElem? hs
            have os := oG.ok s hs
            refine ⟨_, rfl, _, rfl, rfl, rfl, rfl, s.1.1, s.2.1, rfl, s.1.2, s.2.2, os.lt, os.f, os.l, fun x' y' bst => ?_⟩
            have n : RT.Nf x' y' := ⟨bst.q0, bst.one⟩
            have hin := hG (SP.pt n) ⟨s, hs, (SP.mem1_pt n).mpr (RT.best_in s.1.2 s.2.2 bst)⟩
            obtain ⟨z1, z2⟩ := RT.best2_sz os.ar bst
            have sx : Sm x' := by
              unfold Sm
              have : (x'.natAbs : Int) < (2 : Int) ^ 1000 := Int.lt_of_le_of_lt z1 (by unfold BB; decide)
              exact_mod_cast this
            have sy : Sm y' := Sm.of (Int.le_of_lt bst.q0) z2 (by unfold BB; decide)
            rcases hin with ⟨h1, h2⟩ | ⟨h1, h2⟩
            · refine ⟨_, rfl, _, rfl, ⟨_, rfl⟩, cK (t := true) n sx sy oA (by omega) ⟨fun _ => h1, fun _ => rfl⟩ ⟨_, rfl, ?_⟩⟩
              refine ⟨_, rfl, _, rfl, ⟨_, rfl⟩, cK (t := false) n sx sy oB (by omega) ⟨fun z => (by cases z), fun z => absurd z h2⟩ ⟨_, rfl, eqB ⟨_, rfl, iteF ?_⟩⟩⟩
              refine ⟨_, rfl, _, rfl, _, rfl, ⟨_, rfl⟩, ⟨_, rfl⟩, orK oA oB (by omega) fun U' oU' mU' lU' => ?_⟩
              refine ⟨⟨_, rfl⟩, cK (t := true) n sx sy oU' (by omega) ⟨fun _ => (mU' _).mpr (.inl h1), fun _ => rfl⟩ ⟨_, rfl, _, rfl, iteF ?_⟩⟩
              refine ⟨_, rfl, _, rfl, _, rfl, ⟨_, rfl⟩, ⟨_, rfl⟩, andK oA oB (Nat.le_trans (Nat.mul_le_mul lA lB) (by decide)) fun N oN mN lN => ?_⟩
              exact ⟨⟨_, rfl⟩, cK (t := false) n sx sy oN (Nat.le_trans lN (Nat.le_trans (Nat.mul_le_mul lA lB) (by decide))) ⟨fun z => (by cases z), fun z => absurd ((mN _).mp z).2 h2⟩ ⟨_, rfl, _, rfl, iteF ⟨_, _, rfl, rfl⟩⟩⟩
            · refine ⟨_, rfl, _, rfl, ⟨_, rfl⟩, cK (t := false) n sx sy oA (by omega) ⟨fun z => (by cases z), fun z => absurd z h2⟩ ⟨_, rfl, ?_⟩⟩
              refine ⟨_, rfl, _, rfl, ⟨_, rfl⟩, cK (t := true) n sx sy oB (by omega) ⟨fun _ => h1, fun _ => rfl⟩ ⟨_, rfl, eqB ⟨_, rfl, iteF ?_⟩⟩⟩
              refine ⟨_, rfl, _, rfl, _, rfl, ⟨_, rfl⟩, ⟨_, rfl⟩, orK oA oB (by omega) fun U' oU' mU' lU' => ?_⟩
              refine ⟨⟨_, rfl⟩, cK (t := true) n sx sy oU' (by omega) ⟨fun _ => (mU' _).mpr (.inr h1), fun _ => rfl⟩ ⟨_, rfl, _, rfl, iteF ?_⟩⟩
              refine ⟨_, rfl, _, rfl, _, rfl, ⟨_, rfl⟩, ⟨_, rfl⟩, andK oA oB (Nat.le_trans (Nat.mul_le_mul lA lB) (by decide)) fun N oN mN lN => ?_⟩
              exact ⟨⟨_, rfl⟩, cK (t := false) n sx sy oN (Nat.le_trans lN (Nat.le_trans (Nat.mul_le_mul lA lB) (by decide))) ⟨fun z => (by cases z), fun z => absurd ((mN _).mp z).1 h2⟩ ⟨_, rfl, _, rfl, iteF ⟨_, _, rfl, rfl⟩⟩⟩
          · rintro ρ M' ⟨r11, r12, rfl, rfl⟩
            exact ⟨_, _, _, _, rfl, rfl⟩
        · rintro ρ M' ⟨r9, r10, r11, r12, rfl, rfl⟩
          exact ⟨b1, _, _, _, _, _, _, _, _, _, _, _, hb1, hp1, rfl⟩
  · rintro ρ M' ⟨b, r2, r3, r4, r5, r6, r7, r8, r9, r10, r11, r12, hb, hm, rfl⟩
    exact q _

end W08
set_option Elab.async false
set_option linter.all false
set_option maxRecDepth 100000
set_option maxHeartbeats 4000000
set_option pp.deepTerms false
set_option pp.deepTerms.threshold 12
set_option pp.maxSteps 4000
namespace W08
open PySem PySem.Spec PyProof.Rows L2 DL
theorem all_mk {l : PySem.W.OpenLaw} {w : World} {K : PySem.W.Frag} {h : Heap} {mg : Str → Option Value} {fa f0 f1 f2 f3 f4 f5 f6 f7 f8 f9 f10 f11 f12 f13 f14 f15 f16 f17 f18 f19 f20 f21 f22 f23 f24 f25 f26 f27 f28 f29 f30 f31 f32 f33 f34 f35 f36 f37 f38 f39 f40 f41 f42 f43 f44 f45 f46 f47 f48 f49 f50 f51 C0 C1 C2 : Addr} (X : K.In h) (G : h.Ns mainGlobals mg) (hfa : mg "law" = some (.ref fa))
    {od0 an0 od1 an1 od2 an2 od3 an3 od4 an4 od5 an5 od6 an6 od7 an7 od8 an8 od9 an9 od10 an10 od11 an11 od12 an12 od13 an13 od14 an14 od15 an15 od16 an16 od17 an17 od18 an18 od19 an19 od20 an20 od21 an21 od22 an22 od23 an23 od24 an24 od25 an25 od26 an26 od27 an27 od28 an28 od29 an29 od30 an30 od31 an31 od32 an32 od33 an33 od34 an34 od35 an35 od36 an36 od37 an37 od38 an38 od39 an39 od40 an40 od41 an41 od42 an42 od43 an43 od44 an44 od45 an45 od46 an46 od47 an47 od48 an48 od49 an49 od50 an50 od51 an51 : Option Addr} {sl0 sl1 sl2 sl3 sl4 sl5 sl6 sl7 sl8 sl9 sl10 sl11 sl12 sl13 sl14 sl15 sl16 sl17 sl18 sl19 sl20 sl21 sl22 sl23 sl24 sl25 sl26 sl27 sl28 sl29 sl30 sl31 sl32 sl33 sl34 sl35 sl36 sl37 sl38 sl39 sl40 sl41 sl42 sl43 sl44 sl45 sl46 sl47 sl48 sl49 sl50 sl51 : Array (Option Value)} {oc0 dc0 pm0 cd0 ct0 oc1 dc1 pm1 cd1 ct1 oc2 dc2 pm2 cd2 ct2 oc3 dc3 pm3 cd3 ct3 oc4 dc4 pm4 cd4 ct4 oc5 dc5 pm5 cd5 ct5 oc6 dc6 pm6 cd6 ct6 oc7 dc7 pm7 cd7 ct7 oc8 dc8 pm8 cd8 ct8 oc9 dc9 pm9 cd9 ct9 oc10 dc10 pm10 cd10 ct10 oc11 dc11 pm11 cd11 ct11 oc12 dc12 pm12 cd12 ct12 oc13 dc13 pm13 cd13 ct13 oc14 dc14 pm14 cd14 ct14 oc15 dc15 pm15 cd15 ct15 oc16 dc16 pm16 cd16 ct16 oc17 dc17 pm17 cd17 ct17 oc18 dc18 pm18 cd18 ct18 oc19 dc19 pm19 cd19 ct19 oc20 dc20 pm20 cd20 ct20 oc21 dc21 pm21 cd21 ct21 oc22 dc22 pm22 cd22 ct22 oc23 dc23 pm23 cd23 ct23 oc24 dc24 pm24 cd24 ct24 oc25 dc25 pm25 cd25 ct25 oc26 dc26 pm26 cd26 ct26 oc27 dc27 pm27 cd27 ct27 oc28 dc28 pm28 cd28 ct28 oc29 dc29 pm29 cd29 ct29 oc30 dc30 pm30 cd30 ct30 oc31 dc31 pm31 cd31 ct31 oc32 dc32 pm32 cd32 ct32 oc33 dc33 pm33 cd33 ct33 oc34 dc34 pm34 cd34 ct34 oc35 dc35 pm35 cd35 ct35 oc36 dc36 pm36 cd36 ct36 oc37 dc37 pm37 cd37 ct37 oc38 dc38 pm38 cd38 ct38 oc39 dc39 pm39 cd39 ct39 oc40 dc40 pm40 cd40 ct40 oc41 dc41 pm41 cd41 ct41 oc42 dc42 pm42 cd42 ct42 oc43 dc43 pm43 cd43 ct43 oc44 dc44 pm44 cd44 ct44 oc45 dc45 pm45 cd45 ct45 oc46 dc46 pm46 cd46 ct46 oc47 dc47 pm47 cd47 ct47 oc48 dc48 pm48 cd48 ct48 oc49 dc49 pm49 cd49 ct49 oc50 dc50 pm50 cd50 ct50 oc51 dc51 pm51 cd51 ct51 : Value}
    {kV0 : Value} {kV1 : Value} {kV2 : Value} {T2 : Addr} {oT2 : Value} {dT2 : Option Addr} {nT2 : Nat} {sT2 : Array (Option Value)} {tk2_0 : _}  {p3 : Addr} {rest3 : List Value} {kV3 : Value} {p4 : Addr} {rest4 : List Value} {kV4 : Value} {kV5 : Value} {kV6 : Value} {kV7 : Value} {kV8 : Value} {kV9 : Value} {kV10 : Value} {kV11 : Value} {kV12 : Value} {kV13 : Value} {kV14 : Value} {kV15 : Value} {kV16 : Value} {kV17 : Value} {kV18 : Value} {kV19 : Value} {D20 : Addr} {kV21 : Value} {kV22 : Value} {kV23 : Value} {kV24 : Value} {kV25 : Value} {kV26 : Value} {kV27 : Value} {kV28 : Value} {kV29 : Value} {kV30 : Value} {T30 : Addr} {oT30 : Value} {dT30 : Option Addr} {nT30 : Nat} {sT30 : Array (Option Value)}  {kV31 : Value} {kV32 : Value} {kV33 : Value} {kV34 : Value} {kV35 : Value} {kV36 : Value} {kV37 : Value} {kV38 : Value} {kV39 : Value} {kV40 : Value} {kV41 : Value} {kV42 : Value} {kV43 : Value} {kV44 : Value} {kV45 : Value} {kV46 : Value} {kV47 : Value} {kV48 : Value} {kV49 : Value} {kV50 : Value} {kV51 : Value} {E0 : Addr} {dE0 : Option Addr} {nE0 : Nat} {sE0 : Array (Option Value)}
    (aC0 : PySem.W.nsIn K mainGlobals "Ratio" = some (some (.ref C0)))
    (aC1 : PySem.W.nsIn K mainGlobals "Span" = some (some (.ref C1)))
    (aC2 : PySem.W.nsIn K mainGlobals "Spread" = some (some (.ref C2)))
    (pg0 : PySem.W.plainGet K C0 Str.empty = true)
    (hd0 : PySem.W.hasDictIn K C0 = true)
    (po0 : PySem.W.plainOver K C0 = true)
    (sa0 : PySem.W.findIn K (.ref C0) "__setattr__" = some (some (.builtin "object.__setattr__")))
    (ha0 : PySem.W.findIn K (.ref C0) "__class__" = some (some (.builtin "object.__class__")))
    (hm0 : PySem.W.mroIn K C0 (.type "object") = some true)
    (ic0 : PySem.W.isClsIn K C0 = true)
    (ty0 : PySem.W.typeIn K (.ref C0) = some (.type "type"))
    (sf0 : PySem.W.selfFirst K C0 = true)
    (kk1_0 : PySem.W.subIn K (.ref C1) (.ref C0) = some false)
    (kk2_0 : PySem.W.subIn K (.ref C2) (.ref C0) = some false)
    (kb0_non : PySem.W.subIn K (.type "NoneType") (.ref C0) = some false)
    (kb0_bl : PySem.W.subIn K (.type "bool") (.ref C0) = some false)
    (kb0_int : PySem.W.subIn K (.type "int") (.ref C0) = some false)
    (kb0_str : PySem.W.subIn K (.type "str") (.ref C0) = some false)
    (kb0_lst : PySem.W.subIn K (.type "list") (.ref C0) = some false)
    (kb0_tup : PySem.W.subIn K (.type "tuple") (.ref C0) = some false)
    (ki0_bool : PySem.W.subIn K (.ref C0) (.type "bool") = some false)
    (ki0_int : PySem.W.subIn K (.ref C0) (.type "int") = some false)
    (pg1 : PySem.W.plainGet K C1 Str.empty = true)
    (hd1 : PySem.W.hasDictIn K C1 = true)
    (po1 : PySem.W.plainOver K C1 = true)
    (sa1 : PySem.W.findIn K (.ref C1) "__setattr__" = some (some (.builtin "object.__setattr__")))
    (ha1 : PySem.W.findIn K (.ref C1) "__class__" = some (some (.builtin "object.__class__")))
    (hm1 : PySem.W.mroIn K C1 (.type "object") = some true)
    (ic1 : PySem.W.isClsIn K C1 = true)
    (ty1 : PySem.W.typeIn K (.ref C1) = some (.type "type"))
    (sf1 : PySem.W.selfFirst K C1 = true)
    (kk0_1 : PySem.W.subIn K (.ref C0) (.ref C1) = some false)
    (kk2_1 : PySem.W.subIn K (.ref C2) (.ref C1) = some false)
    (kb1_non : PySem.W.subIn K (.type "NoneType") (.ref C1) = some false)
    (kb1_bl : PySem.W.subIn K (.type "bool") (.ref C1) = some false)
    (kb1_int : PySem.W.subIn K (.type "int") (.ref C1) = some false)
    (kb1_str : PySem.W.subIn K (.type "str") (.ref C1) = some false)
    (kb1_lst : PySem.W.subIn K (.type "list") (.ref C1) = some false)
    (kb1_tup : PySem.W.subIn K (.type "tuple") (.ref C1) = some false)
    (ki1_bool : PySem.W.subIn K (.ref C1) (.type "bool") = some false)
    (ki1_int : PySem.W.subIn K (.ref C1) (.type "int") = some false)
    (ne1_0 : C1 ≠ C0)
    (pg2 : PySem.W.plainGet K C2 Str.empty = true)
    (hd2 : PySem.W.hasDictIn K C2 = true)
    (po2 : PySem.W.plainOver K C2 = true)
    (sa2 : PySem.W.findIn K (.ref C2) "__setattr__" = some (some (.builtin "object.__setattr__")))
    (ha2 : PySem.W.findIn K (.ref C2) "__class__" = some (some (.builtin "object.__class__")))
    (hm2 : PySem.W.mroIn K C2 (.type "object") = some true)
    (ic2 : PySem.W.isClsIn K C2 = true)
    (ty2 : PySem.W.typeIn K (.ref C2) = some (.type "type"))
    (sf2 : PySem.W.selfFirst K C2 = true)
    (kk0_2 : PySem.W.subIn K (.ref C0) (.ref C2) = some false)
    (kk1_2 : PySem.W.subIn K (.ref C1) (.ref C2) = some false)
    (kb2_non : PySem.W.subIn K (.type "NoneType") (.ref C2) = some false)
    (kb2_bl : PySem.W.subIn K (.type "bool") (.ref C2) = some false)
    (kb2_int : PySem.W.subIn K (.type "int") (.ref C2) = some false)
    (kb2_str : PySem.W.subIn K (.type "str") (.ref C2) = some false)
    (kb2_lst : PySem.W.subIn K (.type "list") (.ref C2) = some false)
    (kb2_tup : PySem.W.subIn K (.type "tuple") (.ref C2) = some false)
    (ki2_bool : PySem.W.subIn K (.ref C2) (.type "bool") = some false)
    (ki2_int : PySem.W.subIn K (.ref C2) (.type "int") = some false)
    (ne2_0 : C2 ≠ C0)
    (ne2_1 : C2 ≠ C1)
    (hn : PySem.W.specialIn K (.builtin "object.__class__") "__get__" = some (some (.builtin "getset_descriptor.__get__")))
    (htk : PySem.W.takesIn K (.builtin "object.__class__") = some true)
    (na_Ratio_own_bottom : PySem.W.findIn K (.ref C0) "own_bottom" = some none)
    (na_Ratio_own_top : PySem.W.findIn K (.ref C0) "own_top" = some none)
    (na_Span_own_first : PySem.W.findIn K (.ref C1) "own_first" = some none)
    (na_Span_own_last : PySem.W.findIn K (.ref C1) "own_last" = some none)
    (na_Spread_own_spans : PySem.W.findIn K (.ref C2) "own_spans" = some none)
    (a0 : PySem.W.nsIn K mainGlobals "is_number" = some (some (.ref f0)))
    (l0 : K.lookup f0 = some ⟨oc0, od0, .func (PySem.W.fnOf "is_number" "is_number" (defArgs st_is_number) (defBody st_is_number) (defScope st_is_number) .none kV0 dc0 pm0 an0 cd0 ct0), sl0⟩)
    (c0 : PySem.W.codeIn K cd0 "is_number" = true)
    (k0 : PySem.W.keepIn K (.ref f0) = true)
    (a1 : PySem.W.nsIn K mainGlobals "common_divisor" = some (some (.ref f1)))
    (l1 : K.lookup f1 = some ⟨oc1, od1, .func (PySem.W.fnOf "common_divisor" "common_divisor" (defArgs st_common_divisor) (defBody st_common_divisor) (defScope st_common_divisor) .none kV1 dc1 pm1 an1 cd1 ct1), sl1⟩)
    (c1 : PySem.W.codeIn K cd1 "common_divisor" = true)
    (k1 : PySem.W.keepIn K (.ref f1) = true)
    (a2 : PySem.W.findIn K (.ref C0) "__init__" = some (some (.ref f2)))
    (i2 : PySem.W.isFn K (.ref f2) = true)
    (l2 : K.lookup f2 = some ⟨oc2, od2, .func (PySem.W.fnOf "__init__" "Ratio.__init__" (defArgs st_Ratio___init__) (defBody st_Ratio___init__) (defScope st_Ratio___init__) (.ref T2) kV2 dc2 pm2 an2 cd2 ct2), sl2⟩)
    (lT2 : K.lookup T2 = some ⟨oT2, dT2, .seq #[(.int 1 tk2_0)] nT2, sT2⟩)
    (c2 : PySem.W.codeIn K cd2 "Ratio.__init__" = true)
    (k2 : PySem.W.keepIn K (.ref f2) = true)
    (a3 : PySem.W.findIn K (.ref C0) "top" = some (some (.ref p3)))
    (g3 : PySem.W.specialIn K (.ref p3) "__get__" = some (some (.builtin "property.__get__")))
    (t3 : PySem.W.takesIn K (.ref p3) = some true)
    (r3 : PySem.W.recIn K p3 "property" = some (.ref f3 :: rest3))
    (l3 : K.lookup f3 = some ⟨oc3, od3, .func (PySem.W.fnOf "top" "Ratio.top" (defArgs st_Ratio_top) (defBody st_Ratio_top) (defScope st_Ratio_top) .none kV3 dc3 pm3 an3 cd3 ct3), sl3⟩)
    (c3 : PySem.W.codeIn K cd3 "Ratio.top" = true)
    (k3 : PySem.W.keepIn K (.ref f3) = true)
    (a4 : PySem.W.findIn K (.ref C0) "bottom" = some (some (.ref p4)))
    (g4 : PySem.W.specialIn K (.ref p4) "__get__" = some (some (.builtin "property.__get__")))
    (t4 : PySem.W.takesIn K (.ref p4) = some true)
    (r4 : PySem.W.recIn K p4 "property" = some (.ref f4 :: rest4))
    (l4 : K.lookup f4 = some ⟨oc4, od4, .func (PySem.W.fnOf "bottom" "Ratio.bottom" (defArgs st_Ratio_bottom) (defBody st_Ratio_bottom) (defScope st_Ratio_bottom) .none kV4 dc4 pm4 an4 cd4 ct4), sl4⟩)
    (c4 : PySem.W.codeIn K cd4 "Ratio.bottom" = true)
    (k4 : PySem.W.keepIn K (.ref f4) = true)
    (a5 : PySem.W.findIn K (.ref C0) "is_below" = some (some (.ref f5)))
    (i5 : PySem.W.isFn K (.ref f5) = true)
    (l5 : K.lookup f5 = some ⟨oc5, od5, .func (PySem.W.fnOf "is_below" "Ratio.is_below" (defArgs st_Ratio_is_below) (defBody st_Ratio_is_below) (defScope st_Ratio_is_below) .none kV5 dc5 pm5 an5 cd5 ct5), sl5⟩)
    (c5 : PySem.W.codeIn K cd5 "Ratio.is_below" = true)
    (k5 : PySem.W.keepIn K (.ref f5) = true)
    (a6 : PySem.W.findIn K (.ref C0) "__add__" = some (some (.ref f6)))
    (i6 : PySem.W.isFn K (.ref f6) = true)
    (l6 : K.lookup f6 = some ⟨oc6, od6, .func (PySem.W.fnOf "__add__" "Ratio.__add__" (defArgs st_Ratio___add__) (defBody st_Ratio___add__) (defScope st_Ratio___add__) .none kV6 dc6 pm6 an6 cd6 ct6), sl6⟩)
    (c6 : PySem.W.codeIn K cd6 "Ratio.__add__" = true)
    (k6 : PySem.W.keepIn K (.ref f6) = true)
    (a7 : PySem.W.findIn K (.ref C0) "__sub__" = some (some (.ref f7)))
    (i7 : PySem.W.isFn K (.ref f7) = true)
    (l7 : K.lookup f7 = some ⟨oc7, od7, .func (PySem.W.fnOf "__sub__" "Ratio.__sub__" (defArgs st_Ratio___sub__) (defBody st_Ratio___sub__) (defScope st_Ratio___sub__) .none kV7 dc7 pm7 an7 cd7 ct7), sl7⟩)
    (c7 : PySem.W.codeIn K cd7 "Ratio.__sub__" = true)
    (k7 : PySem.W.keepIn K (.ref f7) = true)
    (a8 : PySem.W.findIn K (.ref C0) "__neg__" = some (some (.ref f8)))
    (i8 : PySem.W.isFn K (.ref f8) = true)
    (l8 : K.lookup f8 = some ⟨oc8, od8, .func (PySem.W.fnOf "__neg__" "Ratio.__neg__" (defArgs st_Ratio___neg__) (defBody st_Ratio___neg__) (defScope st_Ratio___neg__) .none kV8 dc8 pm8 an8 cd8 ct8), sl8⟩)
    (c8 : PySem.W.codeIn K cd8 "Ratio.__neg__" = true)
    (k8 : PySem.W.keepIn K (.ref f8) = true)
    (a9 : PySem.W.findIn K (.ref C0) "__eq__" = some (some (.ref f9)))
    (i9 : PySem.W.isFn K (.ref f9) = true)
    (l9 : K.lookup f9 = some ⟨oc9, od9, .func (PySem.W.fnOf "__eq__" "Ratio.__eq__" (defArgs st_Ratio___eq__) (defBody st_Ratio___eq__) (defScope st_Ratio___eq__) .none kV9 dc9 pm9 an9 cd9 ct9), sl9⟩)
    (c9 : PySem.W.codeIn K cd9 "Ratio.__eq__" = true)
    (k9 : PySem.W.keepIn K (.ref f9) = true)
    (a10 : PySem.W.findIn K (.ref C0) "__bool__" = some (some (.ref f10)))
    (i10 : PySem.W.isFn K (.ref f10) = true)
    (l10 : K.lookup f10 = some ⟨oc10, od10, .func (PySem.W.fnOf "__bool__" "Ratio.__bool__" (defArgs st_Ratio___bool__) (defBody st_Ratio___bool__) (defScope st_Ratio___bool__) .none kV10 dc10 pm10 an10 cd10 ct10), sl10⟩)
    (c10 : PySem.W.codeIn K cd10 "Ratio.__bool__" = true)
    (k10 : PySem.W.keepIn K (.ref f10) = true)
    (a11 : PySem.W.nsIn K mainGlobals "zero" = some (some (.ref f11)))
    (l11 : K.lookup f11 = some ⟨oc11, od11, .func (PySem.W.fnOf "zero" "zero" (defArgs st_zero) (defBody st_zero) (defScope st_zero) .none kV11 dc11 pm11 an11 cd11 ct11), sl11⟩)
    (c11 : PySem.W.codeIn K cd11 "zero" = true)
    (k11 : PySem.W.keepIn K (.ref f11) = true)
    (a12 : PySem.W.nsIn K mainGlobals "is_before" = some (some (.ref f12)))
    (l12 : K.lookup f12 = some ⟨oc12, od12, .func (PySem.W.fnOf "is_before" "is_before" (defArgs st_is_before) (defBody st_is_before) (defScope st_is_before) .none kV12 dc12 pm12 an12 cd12 ct12), sl12⟩)
    (c12 : PySem.W.codeIn K cd12 "is_before" = true)
    (k12 : PySem.W.keepIn K (.ref f12) = true)
    (a13 : PySem.W.nsIn K mainGlobals "mirrored" = some (some (.ref f13)))
    (l13 : K.lookup f13 = some ⟨oc13, od13, .func (PySem.W.fnOf "mirrored" "mirrored" (defArgs st_mirrored) (defBody st_mirrored) (defScope st_mirrored) .none kV13 dc13 pm13 an13 cd13 ct13), sl13⟩)
    (c13 : PySem.W.codeIn K cd13 "mirrored" = true)
    (k13 : PySem.W.keepIn K (.ref f13) = true)
    (a14 : PySem.W.nsIn K mainGlobals "least_integer" = some (some (.ref f14)))
    (l14 : K.lookup f14 = some ⟨oc14, od14, .func (PySem.W.fnOf "least_integer" "least_integer" (defArgs st_least_integer) (defBody st_least_integer) (defScope st_least_integer) .none kV14 dc14 pm14 an14 cd14 ct14), sl14⟩)
    (c14 : PySem.W.codeIn K cd14 "least_integer" = true)
    (k14 : PySem.W.keepIn K (.ref f14) = true)
    (a15 : PySem.W.nsIn K mainGlobals "inverse" = some (some (.ref f15)))
    (l15 : K.lookup f15 = some ⟨oc15, od15, .func (PySem.W.fnOf "inverse" "inverse" (defArgs st_inverse) (defBody st_inverse) (defScope st_inverse) .none kV15 dc15 pm15 an15 cd15 ct15), sl15⟩)
    (c15 : PySem.W.codeIn K cd15 "inverse" = true)
    (k15 : PySem.W.keepIn K (.ref f15) = true)
    (a16 : PySem.W.nsIn K mainGlobals "simplest_positive" = some (some (.ref f16)))
    (l16 : K.lookup f16 = some ⟨oc16, od16, .func (PySem.W.fnOf "simplest_positive" "simplest_positive" (defArgs st_simplest_positive) (defBody st_simplest_positive) (defScope st_simplest_positive) .none kV16 dc16 pm16 an16 cd16 ct16), sl16⟩)
    (c16 : PySem.W.codeIn K cd16 "simplest_positive" = true)
    (k16 : PySem.W.keepIn K (.ref f16) = true)
    (a17 : PySem.W.nsIn K mainGlobals "simplest_between" = some (some (.ref f17)))
    (l17 : K.lookup f17 = some ⟨oc17, od17, .func (PySem.W.fnOf "simplest_between" "simplest_between" (defArgs st_simplest_between) (defBody st_simplest_between) (defScope st_simplest_between) .none kV17 dc17 pm17 an17 cd17 ct17), sl17⟩)
    (c17 : PySem.W.codeIn K cd17 "simplest_between" = true)
    (k17 : PySem.W.keepIn K (.ref f17) = true)
    (a18 : PySem.W.nsIn K mainGlobals "later_cut" = some (some (.ref f18)))
    (l18 : K.lookup f18 = some ⟨oc18, od18, .func (PySem.W.fnOf "later_cut" "later_cut" (defArgs st_later_cut) (defBody st_later_cut) (defScope st_later_cut) .none kV18 dc18 pm18 an18 cd18 ct18), sl18⟩)
    (c18 : PySem.W.codeIn K cd18 "later_cut" = true)
    (k18 : PySem.W.keepIn K (.ref f18) = true)
    (a19 : PySem.W.nsIn K mainGlobals "earlier_cut" = some (some (.ref f19)))
    (l19 : K.lookup f19 = some ⟨oc19, od19, .func (PySem.W.fnOf "earlier_cut" "earlier_cut" (defArgs st_earlier_cut) (defBody st_earlier_cut) (defScope st_earlier_cut) .none kV19 dc19 pm19 an19 cd19 ct19), sl19⟩)
    (c19 : PySem.W.codeIn K cd19 "earlier_cut" = true)
    (k19 : PySem.W.keepIn K (.ref f19) = true)
    (a20 : PySem.W.findIn K (.ref C1) "__init__" = some (some (.ref f20)))
    (i20 : PySem.W.isFn K (.ref f20) = true)
    (l20 : K.lookup f20 = some ⟨oc20, od20, .func (PySem.W.fnOf "__init__" "Span.__init__" (defArgs st_Span___init__) (defBody st_Span___init__) (defScope st_Span___init__) .none (.ref D20) dc20 pm20 an20 cd20 ct20), sl20⟩)
    (q20_0 : PySem.W.nsIn K D20 "has_low" = some (some (.bool true)))
    (q20_1 : PySem.W.nsIn K D20 "has_high" = some (some (.bool true)))
    (c20 : PySem.W.codeIn K cd20 "Span.__init__" = true)
    (k20 : PySem.W.keepIn K (.ref f20) = true)
    (a21 : PySem.W.findIn K (.ref C1) "cuts" = some (some (.ref f21)))
    (i21 : PySem.W.isFn K (.ref f21) = true)
    (l21 : K.lookup f21 = some ⟨oc21, od21, .func (PySem.W.fnOf "cuts" "Span.cuts" (defArgs st_Span_cuts) (defBody st_Span_cuts) (defScope st_Span_cuts) .none kV21 dc21 pm21 an21 cd21 ct21), sl21⟩)
    (c21 : PySem.W.codeIn K cd21 "Span.cuts" = true)
    (k21 : PySem.W.keepIn K (.ref f21) = true)
    (a22 : PySem.W.findIn K (.ref C1) "simplest" = some (some (.ref f22)))
    (i22 : PySem.W.isFn K (.ref f22) = true)
    (l22 : K.lookup f22 = some ⟨oc22, od22, .func (PySem.W.fnOf "simplest" "Span.simplest" (defArgs st_Span_simplest) (defBody st_Span_simplest) (defScope st_Span_simplest) .none kV22 dc22 pm22 an22 cd22 ct22), sl22⟩)
    (c22 : PySem.W.codeIn K cd22 "Span.simplest" = true)
    (k22 : PySem.W.keepIn K (.ref f22) = true)
    (a23 : PySem.W.findIn K (.ref C1) "__contains__" = some (some (.ref f23)))
    (i23 : PySem.W.isFn K (.ref f23) = true)
    (l23 : K.lookup f23 = some ⟨oc23, od23, .func (PySem.W.fnOf "__contains__" "Span.__contains__" (defArgs st_Span___contains__) (defBody st_Span___contains__) (defScope st_Span___contains__) .none kV23 dc23 pm23 an23 cd23 ct23), sl23⟩)
    (c23 : PySem.W.codeIn K cd23 "Span.__contains__" = true)
    (k23 : PySem.W.keepIn K (.ref f23) = true)
    (a24 : PySem.W.findIn K (.ref C1) "__eq__" = some (some (.ref f24)))
    (i24 : PySem.W.isFn K (.ref f24) = true)
    (l24 : K.lookup f24 = some ⟨oc24, od24, .func (PySem.W.fnOf "__eq__" "Span.__eq__" (defArgs st_Span___eq__) (defBody st_Span___eq__) (defScope st_Span___eq__) .none kV24 dc24 pm24 an24 cd24 ct24), sl24⟩)
    (c24 : PySem.W.codeIn K cd24 "Span.__eq__" = true)
    (k24 : PySem.W.keepIn K (.ref f24) = true)
    (a25 : PySem.W.nsIn K mainGlobals "span_between" = some (some (.ref f25)))
    (l25 : K.lookup f25 = some ⟨oc25, od25, .func (PySem.W.fnOf "span_between" "span_between" (defArgs st_span_between) (defBody st_span_between) (defScope st_span_between) .none kV25 dc25 pm25 an25 cd25 ct25), sl25⟩)
    (c25 : PySem.W.codeIn K cd25 "span_between" = true)
    (k25 : PySem.W.keepIn K (.ref f25) = true)
    (a26 : PySem.W.nsIn K mainGlobals "ordered" = some (some (.ref f26)))
    (l26 : K.lookup f26 = some ⟨oc26, od26, .func (PySem.W.fnOf "ordered" "ordered" (defArgs st_ordered) (defBody st_ordered) (defScope st_ordered) .none kV26 dc26 pm26 an26 cd26 ct26), sl26⟩)
    (c26 : PySem.W.codeIn K cd26 "ordered" = true)
    (k26 : PySem.W.keepIn K (.ref f26) = true)
    (a27 : PySem.W.nsIn K mainGlobals "merged" = some (some (.ref f27)))
    (l27 : K.lookup f27 = some ⟨oc27, od27, .func (PySem.W.fnOf "merged" "merged" (defArgs st_merged) (defBody st_merged) (defScope st_merged) .none kV27 dc27 pm27 an27 cd27 ct27), sl27⟩)
    (c27 : PySem.W.codeIn K cd27 "merged" = true)
    (k27 : PySem.W.keepIn K (.ref f27) = true)
    (a28 : PySem.W.nsIn K mainGlobals "common_spans" = some (some (.ref f28)))
    (l28 : K.lookup f28 = some ⟨oc28, od28, .func (PySem.W.fnOf "common_spans" "common_spans" (defArgs st_common_spans) (defBody st_common_spans) (defScope st_common_spans) .none kV28 dc28 pm28 an28 cd28 ct28), sl28⟩)
    (c28 : PySem.W.codeIn K cd28 "common_spans" = true)
    (k28 : PySem.W.keepIn K (.ref f28) = true)
    (a29 : PySem.W.nsIn K mainGlobals "spans_without" = some (some (.ref f29)))
    (l29 : K.lookup f29 = some ⟨oc29, od29, .func (PySem.W.fnOf "spans_without" "spans_without" (defArgs st_spans_without) (defBody st_spans_without) (defScope st_spans_without) .none kV29 dc29 pm29 an29 cd29 ct29), sl29⟩)
    (c29 : PySem.W.codeIn K cd29 "spans_without" = true)
    (k29 : PySem.W.keepIn K (.ref f29) = true)
    (a30 : PySem.W.findIn K (.ref C2) "__init__" = some (some (.ref f30)))
    (i30 : PySem.W.isFn K (.ref f30) = true)
    (l30 : K.lookup f30 = some ⟨oc30, od30, .func (PySem.W.fnOf "__init__" "Spread.__init__" (defArgs st_Spread___init__) (defBody st_Spread___init__) (defScope st_Spread___init__) (.ref T30) kV30 dc30 pm30 an30 cd30 ct30), sl30⟩)
    (lT30 : K.lookup T30 = some ⟨oT30, dT30, .seq #[(.ref E0)] nT30, sT30⟩)
    (c30 : PySem.W.codeIn K cd30 "Spread.__init__" = true)
    (k30 : PySem.W.keepIn K (.ref f30) = true)
    (a31 : PySem.W.findIn K (.ref C2) "walk" = some (some (.ref f31)))
    (i31 : PySem.W.isFn K (.ref f31) = true)
    (l31 : K.lookup f31 = some ⟨oc31, od31, .func (PySem.W.fnOf "walk" "Spread.walk" (defArgs st_Spread_walk) (defBody st_Spread_walk) (defScope st_Spread_walk) .none kV31 dc31 pm31 an31 cd31 ct31), sl31⟩)
    (c31 : PySem.W.codeIn K cd31 "Spread.walk" = true)
    (k31 : PySem.W.keepIn K (.ref f31) = true)
    (a32 : PySem.W.findIn K (.ref C2) "__or__" = some (some (.ref f32)))
    (i32 : PySem.W.isFn K (.ref f32) = true)
    (l32 : K.lookup f32 = some ⟨oc32, od32, .func (PySem.W.fnOf "__or__" "Spread.__or__" (defArgs st_Spread___or__) (defBody st_Spread___or__) (defScope st_Spread___or__) .none kV32 dc32 pm32 an32 cd32 ct32), sl32⟩)
    (c32 : PySem.W.codeIn K cd32 "Spread.__or__" = true)
    (k32 : PySem.W.keepIn K (.ref f32) = true)
    (a33 : PySem.W.findIn K (.ref C2) "__and__" = some (some (.ref f33)))
    (i33 : PySem.W.isFn K (.ref f33) = true)
    (l33 : K.lookup f33 = some ⟨oc33, od33, .func (PySem.W.fnOf "__and__" "Spread.__and__" (defArgs st_Spread___and__) (defBody st_Spread___and__) (defScope st_Spread___and__) .none kV33 dc33 pm33 an33 cd33 ct33), sl33⟩)
    (c33 : PySem.W.codeIn K cd33 "Spread.__and__" = true)
    (k33 : PySem.W.keepIn K (.ref f33) = true)
    (a34 : PySem.W.findIn K (.ref C2) "__sub__" = some (some (.ref f34)))
    (i34 : PySem.W.isFn K (.ref f34) = true)
    (l34 : K.lookup f34 = some ⟨oc34, od34, .func (PySem.W.fnOf "__sub__" "Spread.__sub__" (defArgs st_Spread___sub__) (defBody st_Spread___sub__) (defScope st_Spread___sub__) .none kV34 dc34 pm34 an34 cd34 ct34), sl34⟩)
    (c34 : PySem.W.codeIn K cd34 "Spread.__sub__" = true)
    (k34 : PySem.W.keepIn K (.ref f34) = true)
    (a35 : PySem.W.findIn K (.ref C2) "__bool__" = some (some (.ref f35)))
    (i35 : PySem.W.isFn K (.ref f35) = true)
    (l35 : K.lookup f35 = some ⟨oc35, od35, .func (PySem.W.fnOf "__bool__" "Spread.__bool__" (defArgs st_Spread___bool__) (defBody st_Spread___bool__) (defScope st_Spread___bool__) .none kV35 dc35 pm35 an35 cd35 ct35), sl35⟩)
    (c35 : PySem.W.codeIn K cd35 "Spread.__bool__" = true)
    (k35 : PySem.W.keepIn K (.ref f35) = true)
    (a36 : PySem.W.findIn K (.ref C2) "within" = some (some (.ref f36)))
    (i36 : PySem.W.isFn K (.ref f36) = true)
    (l36 : K.lookup f36 = some ⟨oc36, od36, .func (PySem.W.fnOf "within" "Spread.within" (defArgs st_Spread_within) (defBody st_Spread_within) (defScope st_Spread_within) .none kV36 dc36 pm36 an36 cd36 ct36), sl36⟩)
    (c36 : PySem.W.codeIn K cd36 "Spread.within" = true)
    (k36 : PySem.W.keepIn K (.ref f36) = true)
    (a37 : PySem.W.findIn K (.ref C2) "__contains__" = some (some (.ref f37)))
    (i37 : PySem.W.isFn K (.ref f37) = true)
    (l37 : K.lookup f37 = some ⟨oc37, od37, .func (PySem.W.fnOf "__contains__" "Spread.__contains__" (defArgs st_Spread___contains__) (defBody st_Spread___contains__) (defScope st_Spread___contains__) .none kV37 dc37 pm37 an37 cd37 ct37), sl37⟩)
    (c37 : PySem.W.codeIn K cd37 "Spread.__contains__" = true)
    (k37 : PySem.W.keepIn K (.ref f37) = true)
    (a38 : PySem.W.findIn K (.ref C2) "__eq__" = some (some (.ref f38)))
    (i38 : PySem.W.isFn K (.ref f38) = true)
    (l38 : K.lookup f38 = some ⟨oc38, od38, .func (PySem.W.fnOf "__eq__" "Spread.__eq__" (defArgs st_Spread___eq__) (defBody st_Spread___eq__) (defScope st_Spread___eq__) .none kV38 dc38 pm38 an38 cd38 ct38), sl38⟩)
    (c38 : PySem.W.codeIn K cd38 "Spread.__eq__" = true)
    (k38 : PySem.W.keepIn K (.ref f38) = true)
    (a39 : PySem.W.nsIn K mainGlobals "_law_start" = some (some (.ref f39)))
    (l39 : K.lookup f39 = some ⟨oc39, od39, .func (PySem.W.fnOf "_law_start" "_law_start" (defArgs st__law_start) (defBody st__law_start) (defScope st__law_start) .none kV39 dc39 pm39 an39 cd39 ct39), sl39⟩)
    (c39 : PySem.W.codeIn K cd39 "_law_start" = true)
    (k39 : PySem.W.keepIn K (.ref f39) = true)
    (a40 : PySem.W.nsIn K mainGlobals "_law_pull" = some (some (.ref f40)))
    (l40 : K.lookup f40 = some ⟨oc40, od40, .func (PySem.W.fnOf "_law_pull" "_law_pull" (defArgs st__law_pull) (defBody st__law_pull) (defScope st__law_pull) .none kV40 dc40 pm40 an40 cd40 ct40), sl40⟩)
    (c40 : PySem.W.codeIn K cd40 "_law_pull" = true)
    (k40 : PySem.W.keepIn K (.ref f40) = true)
    (a41 : PySem.W.nsIn K mainGlobals "_law_pick" = some (some (.ref f41)))
    (l41 : K.lookup f41 = some ⟨oc41, od41, .func (PySem.W.fnOf "_law_pick" "_law_pick" (defArgs st__law_pick) (defBody st__law_pick) (defScope st__law_pick) .none kV41 dc41 pm41 an41 cd41 ct41), sl41⟩)
    (c41 : PySem.W.codeIn K cd41 "_law_pick" = true)
    (k41 : PySem.W.keepIn K (.ref f41) = true)
    (a42 : PySem.W.nsIn K mainGlobals "_law_gcd" = some (some (.ref f42)))
    (l42 : K.lookup f42 = some ⟨oc42, od42, .func (PySem.W.fnOf "_law_gcd" "_law_gcd" (defArgs st__law_gcd) (defBody st__law_gcd) (defScope st__law_gcd) .none kV42 dc42 pm42 an42 cd42 ct42), sl42⟩)
    (c42 : PySem.W.codeIn K cd42 "_law_gcd" = true)
    (k42 : PySem.W.keepIn K (.ref f42) = true)
    (a43 : PySem.W.nsIn K mainGlobals "_law_frac" = some (some (.ref f43)))
    (l43 : K.lookup f43 = some ⟨oc43, od43, .func (PySem.W.fnOf "_law_frac" "_law_frac" (defArgs st__law_frac) (defBody st__law_frac) (defScope st__law_frac) .none kV43 dc43 pm43 an43 cd43 ct43), sl43⟩)
    (c43 : PySem.W.codeIn K cd43 "_law_frac" = true)
    (k43 : PySem.W.keepIn K (.ref f43) = true)
    (a44 : PySem.W.nsIn K mainGlobals "_law_less" = some (some (.ref f44)))
    (l44 : K.lookup f44 = some ⟨oc44, od44, .func (PySem.W.fnOf "_law_less" "_law_less" (defArgs st__law_less) (defBody st__law_less) (defScope st__law_less) .none kV44 dc44 pm44 an44 cd44 ct44), sl44⟩)
    (c44 : PySem.W.codeIn K cd44 "_law_less" = true)
    (k44 : PySem.W.keepIn K (.ref f44) = true)
    (a45 : PySem.W.nsIn K mainGlobals "_law_near_areas" = some (some (.ref f45)))
    (l45 : K.lookup f45 = some ⟨oc45, od45, .func (PySem.W.fnOf "_law_near_areas" "_law_near_areas" (defArgs st__law_near_areas) (defBody st__law_near_areas) (defScope st__law_near_areas) .none kV45 dc45 pm45 an45 cd45 ct45), sl45⟩)
    (c45 : PySem.W.codeIn K cd45 "_law_near_areas" = true)
    (k45 : PySem.W.keepIn K (.ref f45) = true)
    (a46 : PySem.W.nsIn K mainGlobals "_law_some_frac" = some (some (.ref f46)))
    (l46 : K.lookup f46 = some ⟨oc46, od46, .func (PySem.W.fnOf "_law_some_frac" "_law_some_frac" (defArgs st__law_some_frac) (defBody st__law_some_frac) (defScope st__law_some_frac) .none kV46 dc46 pm46 an46 cd46 ct46), sl46⟩)
    (c46 : PySem.W.codeIn K cd46 "_law_some_frac" = true)
    (k46 : PySem.W.keepIn K (.ref f46) = true)
    (a47 : PySem.W.nsIn K mainGlobals "_law_some_area" = some (some (.ref f47)))
    (l47 : K.lookup f47 = some ⟨oc47, od47, .func (PySem.W.fnOf "_law_some_area" "_law_some_area" (defArgs st__law_some_area) (defBody st__law_some_area) (defScope st__law_some_area) .none kV47 dc47 pm47 an47 cd47 ct47), sl47⟩)
    (c47 : PySem.W.codeIn K cd47 "_law_some_area" = true)
    (k47 : PySem.W.keepIn K (.ref f47) = true)
    (a48 : PySem.W.nsIn K mainGlobals "_law_ratio" = some (some (.ref f48)))
    (l48 : K.lookup f48 = some ⟨oc48, od48, .func (PySem.W.fnOf "_law_ratio" "_law_ratio" (defArgs st__law_ratio) (defBody st__law_ratio) (defScope st__law_ratio) .none kV48 dc48 pm48 an48 cd48 ct48), sl48⟩)
    (c48 : PySem.W.codeIn K cd48 "_law_ratio" = true)
    (k48 : PySem.W.keepIn K (.ref f48) = true)
    (a49 : PySem.W.nsIn K mainGlobals "_law_made_span" = some (some (.ref f49)))
    (l49 : K.lookup f49 = some ⟨oc49, od49, .func (PySem.W.fnOf "_law_made_span" "_law_made_span" (defArgs st__law_made_span) (defBody st__law_made_span) (defScope st__law_made_span) .none kV49 dc49 pm49 an49 cd49 ct49), sl49⟩)
    (c49 : PySem.W.codeIn K cd49 "_law_made_span" = true)
    (k49 : PySem.W.keepIn K (.ref f49) = true)
    (a50 : PySem.W.nsIn K mainGlobals "_law_spread" = some (some (.ref f50)))
    (l50 : K.lookup f50 = some ⟨oc50, od50, .func (PySem.W.fnOf "_law_spread" "_law_spread" (defArgs st__law_spread) (defBody st__law_spread) (defScope st__law_spread) .none kV50 dc50 pm50 an50 cd50 ct50), sl50⟩)
    (c50 : PySem.W.codeIn K cd50 "_law_spread" = true)
    (k50 : PySem.W.keepIn K (.ref f50) = true)
    (a51 : PySem.W.nsIn K mainGlobals "law" = some (some (.ref f51)))
    (l51 : K.lookup f51 = some ⟨oc51, od51, .func (PySem.W.fnOf "law" "law" (defArgs st_law) (defBody st_law) (defScope st_law) .none kV51 dc51 pm51 an51 cd51 ct51), sl51⟩)
    (c51 : PySem.W.codeIn K cd51 "law" = true)
    (k51 : PySem.W.keepIn K (.ref f51) = true)
    (mk0 : PySem.W.makesIn K C0 = true)
    (kc0 : PySem.W.keepIn K (.ref C0) = true)
    (mk1 : PySem.W.makesIn K C1 = true)
    (kc1 : PySem.W.keepIn K (.ref C1) = true)
    (mk2 : PySem.W.makesIn K C2 = true)
    (kc2 : PySem.W.keepIn K (.ref C2) = true)
    (lE0 : K.lookup E0 = some ⟨.type "tuple", dE0, .seq #[] nE0, sE0⟩)
    (b_abs : PySem.W.nsIn K mainGlobals "abs" = some none)
    (b_all : PySem.W.nsIn K mainGlobals "all" = some none)
    (b_any : PySem.W.nsIn K mainGlobals "any" = some none)
    (b_bool : PySem.W.nsIn K mainGlobals "bool" = some none)
    (b_int : PySem.W.nsIn K mainGlobals "int" = some none)
    (b_isinstance : PySem.W.nsIn K mainGlobals "isinstance" = some none)
    (b_len : PySem.W.nsIn K mainGlobals "len" = some none)
    (b_list : PySem.W.nsIn K mainGlobals "list" = some none)
    (b_range : PySem.W.nsIn K mainGlobals "range" = some none)
    (b_zip : PySem.W.nsIn K mainGlobals "zip" = some none)
    : ∃ fd : FuncData, (∀ (s : Shared) (v : Value), BindsTo s fd ⟨[v], []⟩ [("_law_script", v)]) ∧ ∀ base : Heap, K.In base → base.Ns mainGlobals mg → FnOk l.prog w K mg base (L2.CX l.prog w) 17 fa fd ["_law_script"] (spD K 1 ph_law) := by
  cases hfa.symm.trans (PySem.W.mg_of X G a51)
  have F0 := fund_mk (params := defArgs st_is_number) l0 c0 k0
  have F1 := fund_mk (params := defArgs st_common_divisor) l1 c1 k1
  have F2 := fund_mkD (params := defArgs st_Ratio___init__) (dvs := [V.int 1]) l2 lT2 c2 k2 (by simp) (.cons ⟨_, rfl⟩ (.nil))
  have F3 := fund_mk (params := defArgs st_Ratio_top) l3 c3 k3
  have F4 := fund_mk (params := defArgs st_Ratio_bottom) l4 c4 k4
  have F5 := fund_mk (params := defArgs st_Ratio_is_below) l5 c5 k5
  have F6 := fund_mk (params := defArgs st_Ratio___add__) l6 c6 k6
  have F7 := fund_mk (params := defArgs st_Ratio___sub__) l7 c7 k7
  have F8 := fund_mk (params := defArgs st_Ratio___neg__) l8 c8 k8
  have F9 := fund_mk (params := defArgs st_Ratio___eq__) l9 c9 k9
  have F10 := fund_mk (params := defArgs st_Ratio___bool__) l10 c10 k10
  have F11 := fund_mk (params := defArgs st_zero) l11 c11 k11
  have F12 := fund_mk (params := defArgs st_is_before) l12 c12 k12
  have F13 := fund_mk (params := defArgs st_mirrored) l13 c13 k13
  have F14 := fund_mk (params := defArgs st_least_integer) l14 c14 k14
  have F15 := fund_mk (params := defArgs st_inverse) l15 c15 k15
  have F16 := fund_mk (params := defArgs st_simplest_positive) l16 c16 k16
  have F17 := fund_mk (params := defArgs st_simplest_between) l17 c17 k17
  have F18 := fund_mk (params := defArgs st_later_cut) l18 c18 k18
  have F19 := fund_mk (params := defArgs st_earlier_cut) l19 c19 k19
  have F20 := fund_mkK (params := defArgs st_Span___init__) (kws := [("has_low", V.bl true), ("has_high", V.bl true)]) l20 c20 k20 (by simp only [List.forall_mem_cons, List.not_mem_nil, false_imp_iff, implies_true, and_true]; exact ⟨⟨_, q20_0, rfl⟩, ⟨_, q20_1, rfl⟩⟩)
  have F21 := fund_mk (params := defArgs st_Span_cuts) l21 c21 k21
  have F22 := fund_mk (params := defArgs st_Span_simplest) l22 c22 k22
  have F23 := fund_mk (params := defArgs st_Span___contains__) l23 c23 k23
  have F24 := fund_mk (params := defArgs st_Span___eq__) l24 c24 k24
  have F25 := fund_mk (params := defArgs st_span_between) l25 c25 k25
  have F26 := fund_mk (params := defArgs st_ordered) l26 c26 k26
  have F27 := fund_mk (params := defArgs st_merged) l27 c27 k27
  have F28 := fund_mk (params := defArgs st_common_spans) l28 c28 k28
  have F29 := fund_mk (params := defArgs st_spans_without) l29 c29 k29
  have F30 := fund_mkD (params := defArgs st_Spread___init__) (dvs := [V.ref E0]) l30 lT30 c30 k30 (by simp) (.cons rfl (.nil))
  have F31 := fund_mk (params := defArgs st_Spread_walk) l31 c31 k31
  have F32 := fund_mk (params := defArgs st_Spread___or__) l32 c32 k32
  have F33 := fund_mk (params := defArgs st_Spread___and__) l33 c33 k33
  have F34 := fund_mk (params := defArgs st_Spread___sub__) l34 c34 k34
  have F35 := fund_mk (params := defArgs st_Spread___bool__) l35 c35 k35
  have F36 := fund_mk (params := defArgs st_Spread_within) l36 c36 k36
  have F37 := fund_mk (params := defArgs st_Spread___contains__) l37 c37 k37
  have F38 := fund_mk (params := defArgs st_Spread___eq__) l38 c38 k38
  have F39 := fund_mk (params := defArgs st__law_start) l39 c39 k39
  have F40 := fund_mk (params := defArgs st__law_pull) l40 c40 k40
  have F41 := fund_mk (params := defArgs st__law_pick) l41 c41 k41
  have F42 := fund_mk (params := defArgs st__law_gcd) l42 c42 k42
  have F43 := fund_mk (params := defArgs st__law_frac) l43 c43 k43
  have F44 := fund_mk (params := defArgs st__law_less) l44 c44 k44
  have F45 := fund_mk (params := defArgs st__law_near_areas) l45 c45 k45
  have F46 := fund_mk (params := defArgs st__law_some_frac) l46 c46 k46
  have F47 := fund_mk (params := defArgs st__law_some_area) l47 c47 k47
  have F48 := fund_mk (params := defArgs st__law_ratio) l48 c48 k48
  have F49 := fund_mk (params := defArgs st__law_made_span) l49 c49 k49
  have F50 := fund_mk (params := defArgs st__law_spread) l50 c50 k50
  have F51 := fund_mk (params := defArgs st_law) l51 c51 k51
  have ci0 : ClsI K C0 := ⟨⟨pg0, hd0, po0, sa0⟩, ha0, hn, htk, hm0⟩
  have ci1 : ClsI K C1 := ⟨⟨pg1, hd1, po1, sa1⟩, ha1, hn, htk, hm1⟩
  have ci2 : ClsI K C2 := ⟨⟨pg2, hd2, po2, sa2⟩, ha2, hn, htk, hm2⟩
  have et : ∀ {G : Hp}, SqT K G E0 [] := fun {G} => .inr ⟨_, #[], _, lE0, rfl, rfl, by decide, .nil⟩
  have T : Txt K mg (fun n => match n with | 0 => f0 | 1 => f1 | 2 => f2 | 3 => f3 | 4 => f4 | 5 => f5 | 6 => f6 | 7 => f7 | 8 => f8 | 9 => f9 | 10 => f10 | 11 => f11 | 12 => f12 | 13 => f13 | 14 => f14 | 15 => f15 | 16 => f16 | 17 => f17 | 18 => f18 | 19 => f19 | 20 => f20 | 21 => f21 | 22 => f22 | 23 => f23 | 24 => f24 | 25 => f25 | 26 => f26 | 27 => f27 | 28 => f28 | 29 => f29 | 30 => f30 | 31 => f31 | 32 => f32 | 33 => f33 | 34 => f34 | 35 => f35 | 36 => f36 | 37 => f37 | 38 => f38 | 39 => f39 | 40 => f40 | 41 => f41 | 42 => f42 | 43 => f43 | 44 => f44 | 45 => f45 | 46 => f46 | 47 => f47 | 48 => f48 | 49 => f49 | 50 => f50 | 51 => fa | _ => E0) (fun n => match n with | 0 => PySem.W.fnOf "is_number" "is_number" (defArgs st_is_number) (defBody st_is_number) (defScope st_is_number) .none kV0 dc0 pm0 an0 cd0 ct0 | 1 => PySem.W.fnOf "common_divisor" "common_divisor" (defArgs st_common_divisor) (defBody st_common_divisor) (defScope st_common_divisor) .none kV1 dc1 pm1 an1 cd1 ct1 | 2 => PySem.W.fnOf "__init__" "Ratio.__init__" (defArgs st_Ratio___init__) (defBody st_Ratio___init__) (defScope st_Ratio___init__) (.ref T2) kV2 dc2 pm2 an2 cd2 ct2 | 3 => PySem.W.fnOf "top" "Ratio.top" (defArgs st_Ratio_top) (defBody st_Ratio_top) (defScope st_Ratio_top) .none kV3 dc3 pm3 an3 cd3 ct3 | 4 => PySem.W.fnOf "bottom" "Ratio.bottom" (defArgs st_Ratio_bottom) (defBody st_Ratio_bottom) (defScope st_Ratio_bottom) .none kV4 dc4 pm4 an4 cd4 ct4 | 5 => PySem.W.fnOf "is_below" "Ratio.is_below" (defArgs st_Ratio_is_below) (defBody st_Ratio_is_below) (defScope st_Ratio_is_below) .none kV5 dc5 pm5 an5 cd5 ct5 | 6 => PySem.W.fnOf "__add__" "Ratio.__add__" (defArgs st_Ratio___add__) (defBody st_Ratio___add__) (defScope st_Ratio___add__) .none kV6 dc6 pm6 an6 cd6 ct6 | 7 => PySem.W.fnOf "__sub__" "Ratio.__sub__" (defArgs st_Ratio___sub__) (defBody st_Ratio___sub__) (defScope st_Ratio___sub__) .none kV7 dc7 pm7 an7 cd7 ct7 | 8 => PySem.W.fnOf "__neg__" "Ratio.__neg__" (defArgs st_Ratio___neg__) (defBody st_Ratio___neg__) (defScope st_Ratio___neg__) .none kV8 dc8 pm8 an8 cd8 ct8 | 9 => PySem.W.fnOf "__eq__" "Ratio.__eq__" (defArgs st_Ratio___eq__) (defBody st_Ratio___eq__) (defScope st_Ratio___eq__) .none kV9 dc9 pm9 an9 cd9 ct9 | 10 => PySem.W.fnOf "__bool__" "Ratio.__bool__" (defArgs st_Ratio___bool__) (defBody st_Ratio___bool__) (defScope st_Ratio___bool__) .none kV10 dc10 pm10 an10 cd10 ct10 | 11 => PySem.W.fnOf "zero" "zero" (defArgs st_zero) (defBody st_zero) (defScope st_zero) .none kV11 dc11 pm11 an11 cd11 ct11 | 12 => PySem.W.fnOf "is_before" "is_before" (defArgs st_is_before) (defBody st_is_before) (defScope st_is_before) .none kV12 dc12 pm12 an12 cd12 ct12 | 13 => PySem.W.fnOf "mirrored" "mirrored" (defArgs st_mirrored) (defBody st_mirrored) (defScope st_mirrored) .none kV13 dc13 pm13 an13 cd13 ct13 | 14 => PySem.W.fnOf "least_integer" "least_integer" (defArgs st_least_integer) (defBody st_least_integer) (defScope st_least_integer) .none kV14 dc14 pm14 an14 cd14 ct14 | 15 => PySem.W.fnOf "inverse" "inverse" (defArgs st_inverse) (defBody st_inverse) (defScope st_inverse) .none kV15 dc15 pm15 an15 cd15 ct15 | 16 => PySem.W.fnOf "simplest_positive" "simplest_positive" (defArgs st_simplest_positive) (defBody st_simplest_positive) (defScope st_simplest_positive) .none kV16 dc16 pm16 an16 cd16 ct16 | 17 => PySem.W.fnOf "simplest_between" "simplest_between" (defArgs st_simplest_between) (defBody st_simplest_between) (defScope st_simplest_between) .none kV17 dc17 pm17 an17 cd17 ct17 | 18 => PySem.W.fnOf "later_cut" "later_cut" (defArgs st_later_cut) (defBody st_later_cut) (defScope st_later_cut) .none kV18 dc18 pm18 an18 cd18 ct18 | 19 => PySem.W.fnOf "earlier_cut" "earlier_cut" (defArgs st_earlier_cut) (defBody st_earlier_cut) (defScope st_earlier_cut) .none kV19 dc19 pm19 an19 cd19 ct19 | 20 => PySem.W.fnOf "__init__" "Span.__init__" (defArgs st_Span___init__) (defBody st_Span___init__) (defScope st_Span___init__) .none (.ref D20) dc20 pm20 an20 cd20 ct20 | 21 => PySem.W.fnOf "cuts" "Span.cuts" (defArgs st_Span_cuts) (defBody st_Span_cuts) (defScope st_Span_cuts) .none kV21 dc21 pm21 an21 cd21 ct21 | 22 => PySem.W.fnOf "simplest" "Span.simplest" (defArgs st_Span_simplest) (defBody st_Span_simplest) (defScope st_Span_simplest) .none kV22 dc22 pm22 an22 cd22 ct22 | 23 => PySem.W.fnOf "__contains__" "Span.__contains__" (defArgs st_Span___contains__) (defBody st_Span___contains__) (defScope st_Span___contains__) .none kV23 dc23 pm23 an23 cd23 ct23 | 24 => PySem.W.fnOf "__eq__" "Span.__eq__" (defArgs st_Span___eq__) (defBody st_Span___eq__) (defScope st_Span___eq__) .none kV24 dc24 pm24 an24 cd24 ct24 | 25 => PySem.W.fnOf "span_between" "span_between" (defArgs st_span_between) (defBody st_span_between) (defScope st_span_between) .none kV25 dc25 pm25 an25 cd25 ct25 | 26 => PySem.W.fnOf "ordered" "ordered" (defArgs st_ordered) (defBody st_ordered) (defScope st_ordered) .none kV26 dc26 pm26 an26 cd26 ct26 | 27 => PySem.W.fnOf "merged" "merged" (defArgs st_merged) (defBody st_merged) (defScope st_merged) .none kV27 dc27 pm27 an27 cd27 ct27 | 28 => PySem.W.fnOf "common_spans" "common_spans" (defArgs st_common_spans) (defBody st_common_spans) (defScope st_common_spans) .none kV28 dc28 pm28 an28 cd28 ct28 | 29 => PySem.W.fnOf "spans_without" "spans_without" (defArgs st_spans_without) (defBody st_spans_without) (defScope st_spans_without) .none kV29 dc29 pm29 an29 cd29 ct29 | 30 => PySem.W.fnOf "__init__" "Spread.__init__" (defArgs st_Spread___init__) (defBody st_Spread___init__) (defScope st_Spread___init__) (.ref T30) kV30 dc30 pm30 an30 cd30 ct30 | 31 => PySem.W.fnOf "walk" "Spread.walk" (defArgs st_Spread_walk) (defBody st_Spread_walk) (defScope st_Spread_walk) .none kV31 dc31 pm31 an31 cd31 ct31 | 32 => PySem.W.fnOf "__or__" "Spread.__or__" (defArgs st_Spread___or__) (defBody st_Spread___or__) (defScope st_Spread___or__) .none kV32 dc32 pm32 an32 cd32 ct32 | 33 => PySem.W.fnOf "__and__" "Spread.__and__" (defArgs st_Spread___and__) (defBody st_Spread___and__) (defScope st_Spread___and__) .none kV33 dc33 pm33 an33 cd33 ct33 | 34 => PySem.W.fnOf "__sub__" "Spread.__sub__" (defArgs st_Spread___sub__) (defBody st_Spread___sub__) (defScope st_Spread___sub__) .none kV34 dc34 pm34 an34 cd34 ct34 | 35 => PySem.W.fnOf "__bool__" "Spread.__bool__" (defArgs st_Spread___bool__) (defBody st_Spread___bool__) (defScope st_Spread___bool__) .none kV35 dc35 pm35 an35 cd35 ct35 | 36 => PySem.W.fnOf "within" "Spread.within" (defArgs st_Spread_within) (defBody st_Spread_within) (defScope st_Spread_within) .none kV36 dc36 pm36 an36 cd36 ct36 | 37 => PySem.W.fnOf "__contains__" "Spread.__contains__" (defArgs st_Spread___contains__) (defBody st_Spread___contains__) (defScope st_Spread___contains__) .none kV37 dc37 pm37 an37 cd37 ct37 | 38 => PySem.W.fnOf "__eq__" "Spread.__eq__" (defArgs st_Spread___eq__) (defBody st_Spread___eq__) (defScope st_Spread___eq__) .none kV38 dc38 pm38 an38 cd38 ct38 | 39 => PySem.W.fnOf "_law_start" "_law_start" (defArgs st__law_start) (defBody st__law_start) (defScope st__law_start) .none kV39 dc39 pm39 an39 cd39 ct39 | 40 => PySem.W.fnOf "_law_pull" "_law_pull" (defArgs st__law_pull) (defBody st__law_pull) (defScope st__law_pull) .none kV40 dc40 pm40 an40 cd40 ct40 | 41 => PySem.W.fnOf "_law_pick" "_law_pick" (defArgs st__law_pick) (defBody st__law_pick) (defScope st__law_pick) .none kV41 dc41 pm41 an41 cd41 ct41 | 42 => PySem.W.fnOf "_law_gcd" "_law_gcd" (defArgs st__law_gcd) (defBody st__law_gcd) (defScope st__law_gcd) .none kV42 dc42 pm42 an42 cd42 ct42 | 43 => PySem.W.fnOf "_law_frac" "_law_frac" (defArgs st__law_frac) (defBody st__law_frac) (defScope st__law_frac) .none kV43 dc43 pm43 an43 cd43 ct43 | 44 => PySem.W.fnOf "_law_less" "_law_less" (defArgs st__law_less) (defBody st__law_less) (defScope st__law_less) .none kV44 dc44 pm44 an44 cd44 ct44 | 45 => PySem.W.fnOf "_law_near_areas" "_law_near_areas" (defArgs st__law_near_areas) (defBody st__law_near_areas) (defScope st__law_near_areas) .none kV45 dc45 pm45 an45 cd45 ct45 | 46 => PySem.W.fnOf "_law_some_frac" "_law_some_frac" (defArgs st__law_some_frac) (defBody st__law_some_frac) (defScope st__law_some_frac) .none kV46 dc46 pm46 an46 cd46 ct46 | 47 => PySem.W.fnOf "_law_some_area" "_law_some_area" (defArgs st__law_some_area) (defBody st__law_some_area) (defScope st__law_some_area) .none kV47 dc47 pm47 an47 cd47 ct47 | 48 => PySem.W.fnOf "_law_ratio" "_law_ratio" (defArgs st__law_ratio) (defBody st__law_ratio) (defScope st__law_ratio) .none kV48 dc48 pm48 an48 cd48 ct48 | 49 => PySem.W.fnOf "_law_made_span" "_law_made_span" (defArgs st__law_made_span) (defBody st__law_made_span) (defScope st__law_made_span) .none kV49 dc49 pm49 an49 cd49 ct49 | 50 => PySem.W.fnOf "_law_spread" "_law_spread" (defArgs st__law_spread) (defBody st__law_spread) (defScope st__law_spread) .none kV50 dc50 pm50 an50 cd50 ct50 | _ => PySem.W.fnOf "law" "law" (defArgs st_law) (defBody st_law) (defScope st_law) .none kV51 dc51 pm51 an51 cd51 ct51) (fun n => match n with | 0 => C0 | 1 => C1 | _ => C2) :=
    { m_Ratio := PySem.W.mg_of X G aC0,
      ci_Ratio := ci0,
      sf_Ratio := sf0,
      isiC_Ratio := all_cs3 (⟨ci0, kit_same.trans kd_true⟩) (⟨ci1, (kit_in ic0 ty0 kk1_0 (kit_ne ne1_0)).trans (kd_false ne1_0)⟩) (⟨ci2, (kit_in ic0 ty0 kk2_0 (kit_ne ne2_0)).trans (kd_false ne2_0)⟩),
      isiB_Ratio := fun u => match u with | .non => kit_in ic0 ty0 kb0_non kit_ty' | .bl => kit_in ic0 ty0 kb0_bl kit_ty' | .int => kit_in ic0 ty0 kb0_int kit_ty' | .str => kit_in ic0 ty0 kb0_str kit_ty' | .lst => kit_in ic0 ty0 kb0_lst kit_ty' | .tup => kit_in ic0 ty0 kb0_tup kit_ty',
      m_Span := PySem.W.mg_of X G aC1,
      ci_Span := ci1,
      sf_Span := sf1,
      isiC_Span := all_cs3 (⟨ci0, (kit_in ic1 ty1 kk0_1 (kit_ne (Ne.symm ne1_0))).trans (kd_false (Ne.symm ne1_0))⟩) (⟨ci1, kit_same.trans kd_true⟩) (⟨ci2, (kit_in ic1 ty1 kk2_1 (kit_ne ne2_1)).trans (kd_false ne2_1)⟩),
      isiB_Span := fun u => match u with | .non => kit_in ic1 ty1 kb1_non kit_ty' | .bl => kit_in ic1 ty1 kb1_bl kit_ty' | .int => kit_in ic1 ty1 kb1_int kit_ty' | .str => kit_in ic1 ty1 kb1_str kit_ty' | .lst => kit_in ic1 ty1 kb1_lst kit_ty' | .tup => kit_in ic1 ty1 kb1_tup kit_ty',
      ne_1_0 := ne1_0,
      m_Spread := PySem.W.mg_of X G aC2,
      ci_Spread := ci2,
      sf_Spread := sf2,
      isiC_Spread := all_cs3 (⟨ci0, (kit_in ic2 ty2 kk0_2 (kit_ne (Ne.symm ne2_0))).trans (kd_false (Ne.symm ne2_0))⟩) (⟨ci1, (kit_in ic2 ty2 kk1_2 (kit_ne (Ne.symm ne2_1))).trans (kd_false (Ne.symm ne2_1))⟩) (⟨ci2, kit_same.trans kd_true⟩),
      isiB_Spread := fun u => match u with | .non => kit_in ic2 ty2 kb2_non kit_ty' | .bl => kit_in ic2 ty2 kb2_bl kit_ty' | .int => kit_in ic2 ty2 kb2_int kit_ty' | .str => kit_in ic2 ty2 kb2_str kit_ty' | .lst => kit_in ic2 ty2 kb2_lst kit_ty' | .tup => kit_in ic2 ty2 kb2_tup kit_ty',
      ne_2_0 := ne2_0,
      ne_2_1 := ne2_1,
      isi_bool := all_cs3 (⟨ci0, kit_to (by decide +kernel) ki0_bool⟩) (⟨ci1, kit_to (by decide +kernel) ki1_bool⟩) (⟨ci2, kit_to (by decide +kernel) ki2_bool⟩),
      isi_int := all_cs3 (⟨ci0, kit_to (by decide +kernel) ki0_int⟩) (⟨ci1, kit_to (by decide +kernel) ki1_int⟩) (⟨ci2, kit_to (by decide +kernel) ki2_int⟩),
      na_Ratio_own_bottom := na_Ratio_own_bottom,
      na_Ratio_own_top := na_Ratio_own_top,
      na_Span_own_first := na_Span_own_first,
      na_Span_own_last := na_Span_own_last,
      na_Spread_own_spans := na_Spread_own_spans,
      m_is_number := PySem.W.mg_of X G a0,
      k_is_number := k0,
      F_is_number := F0,
      kb_is_number_1 := kbd_of F0 rfl fun _ _ _ _ _ _ us hl => match us, hl with | [_], _ => rfl,
      m_common_divisor := PySem.W.mg_of X G a1,
      k_common_divisor := k1,
      F_common_divisor := F1,
      kb_common_divisor_2 := kbd_of F1 rfl fun _ _ _ _ _ _ us hl => match us, hl with | [_, _], _ => rfl,
      F_Ratio___init__ := F2,
      mk_Ratio := ⟨mk0, a2, i2, kc0⟩,
      kb_Ratio___init___2 := kbd_dflt F2 2 [] [0, 1, 2] [(.int 1)] (by simp) (fun _ => .cons .int (.nil)) fun _ _ _ _ _ _ _ us its ws h1 h2 h3 => match us, its, ws, h1, h2, h3 with | [_, _], [_], [], _, _, _ => ⟨_, rfl, rfl⟩,
      kb_Ratio___init___3 := kbd_dflt F2 3 [] [0, 1, 2] [(.int 1)] (by simp) (fun _ => .cons .int (.nil)) fun _ _ _ _ _ _ _ us its ws h1 h2 h3 => match us, its, ws, h1, h2, h3 with | [_, _, _], [_], [], _, _, _ => ⟨_, rfl, rfl⟩,
      F_Ratio_top := F3,
      pp_Ratio_top := ⟨_, a3, g3, t3, _, r3⟩,
      bb_Ratio_top := FunD.bindsN F3 fun _ _ _ _ _ _ us hl => match us, hl with | [_], _ => rfl,
      F_Ratio_bottom := F4,
      pp_Ratio_bottom := ⟨_, a4, g4, t4, _, r4⟩,
      bb_Ratio_bottom := FunD.bindsN F4 fun _ _ _ _ _ _ us hl => match us, hl with | [_], _ => rfl,
      F_Ratio_is_below := F5,
      mt_Ratio_is_below := ⟨a5, i5, k5⟩,
      kb_Ratio_is_below_2 := kbd_of F5 rfl fun _ _ _ _ _ _ us hl => match us, hl with | [_, _], _ => rfl,
      F_Ratio___add__ := F6,
      sp_Ratio___add__ := a6,
      fn_Ratio___add__ := i6,
      kb_Ratio___add___2 := kbd_of F6 rfl fun _ _ _ _ _ _ us hl => match us, hl with | [_, _], _ => rfl,
      F_Ratio___sub__ := F7,
      sp_Ratio___sub__ := a7,
      fn_Ratio___sub__ := i7,
      kb_Ratio___sub___2 := kbd_of F7 rfl fun _ _ _ _ _ _ us hl => match us, hl with | [_, _], _ => rfl,
      F_Ratio___neg__ := F8,
      sp_Ratio___neg__ := a8,
      fn_Ratio___neg__ := i8,
      kb_Ratio___neg___1 := kbd_of F8 rfl fun _ _ _ _ _ _ us hl => match us, hl with | [_], _ => rfl,
      F_Ratio___eq__ := F9,
      sp_Ratio___eq__ := a9,
      fn_Ratio___eq__ := i9,
      bb_Ratio___eq__ := FunD.bindsN F9 fun _ _ _ _ _ _ us hl => match us, hl with | [_, _], _ => rfl,
      kb_Ratio___eq___2 := kbd_of F9 rfl fun _ _ _ _ _ _ us hl => match us, hl with | [_, _], _ => rfl,
      F_Ratio___bool__ := F10,
      sp_Ratio___bool__ := a10,
      fn_Ratio___bool__ := i10,
      kb_Ratio___bool___1 := kbd_of F10 rfl fun _ _ _ _ _ _ us hl => match us, hl with | [_], _ => rfl,
      m_zero := PySem.W.mg_of X G a11,
      k_zero := k11,
      F_zero := F11,
      kb_zero_0 := kbd_of F11 rfl fun _ _ _ _ _ _ us hl => match us, hl with | [], _ => rfl,
      m_is_before := PySem.W.mg_of X G a12,
      k_is_before := k12,
      F_is_before := F12,
      kb_is_before_2 := kbd_of F12 rfl fun _ _ _ _ _ _ us hl => match us, hl with | [_, _], _ => rfl,
      m_mirrored := PySem.W.mg_of X G a13,
      k_mirrored := k13,
      F_mirrored := F13,
      kb_mirrored_1 := kbd_of F13 rfl fun _ _ _ _ _ _ us hl => match us, hl with | [_], _ => rfl,
      m_least_integer := PySem.W.mg_of X G a14,
      k_least_integer := k14,
      F_least_integer := F14,
      kb_least_integer_1 := kbd_of F14 rfl fun _ _ _ _ _ _ us hl => match us, hl with | [_], _ => rfl,
      m_inverse := PySem.W.mg_of X G a15,
      k_inverse := k15,
      F_inverse := F15,
      kb_inverse_1 := kbd_of F15 rfl fun _ _ _ _ _ _ us hl => match us, hl with | [_], _ => rfl,
      m_simplest_positive := PySem.W.mg_of X G a16,
      k_simplest_positive := k16,
      F_simplest_positive := F16,
      kb_simplest_positive_2 := kbd_of F16 rfl fun _ _ _ _ _ _ us hl => match us, hl with | [_, _], _ => rfl,
      m_simplest_between := PySem.W.mg_of X G a17,
      k_simplest_between := k17,
      F_simplest_between := F17,
      kb_simplest_between_2 := kbd_of F17 rfl fun _ _ _ _ _ _ us hl => match us, hl with | [_, _], _ => rfl,
      m_later_cut := PySem.W.mg_of X G a18,
      k_later_cut := k18,
      F_later_cut := F18,
      kb_later_cut_2 := kbd_of F18 rfl fun _ _ _ _ _ _ us hl => match us, hl with | [_, _], _ => rfl,
      m_earlier_cut := PySem.W.mg_of X G a19,
      k_earlier_cut := k19,
      F_earlier_cut := F19,
      kb_earlier_cut_2 := kbd_of F19 rfl fun _ _ _ _ _ _ us hl => match us, hl with | [_, _], _ => rfl,
      F_Span___init__ := F20,
      mk_Span := ⟨mk1, a20, i20, kc1⟩,
      kb_Span___init___3_has_low_has_high := kbd_kwo F20 3 ["has_low", "has_high"] [] [0, 1, 2, 3, 4] [] (by simp) (by simp) (fun _ => .nil) fun _ _ _ _ _ _ us mv ws h1 h2 h3 => match us, mv, ws, h1, h2, h3 with | [_, _, _], [], [_, _], _, _, _ => rfl,
      F_Span_cuts := F21,
      mt_Span_cuts := ⟨a21, i21, k21⟩,
      kb_Span_cuts_1 := kbd_of F21 rfl fun _ _ _ _ _ _ us hl => match us, hl with | [_], _ => rfl,
      F_Span_simplest := F22,
      mt_Span_simplest := ⟨a22, i22, k22⟩,
      kb_Span_simplest_1 := kbd_of F22 rfl fun _ _ _ _ _ _ us hl => match us, hl with | [_], _ => rfl,
      F_Span___contains__ := F23,
      sp_Span___contains__ := a23,
      fn_Span___contains__ := i23,
      kb_Span___contains___2 := kbd_of F23 rfl fun _ _ _ _ _ _ us hl => match us, hl with | [_, _], _ => rfl,
      F_Span___eq__ := F24,
      sp_Span___eq__ := a24,
      fn_Span___eq__ := i24,
      kb_Span___eq___2 := kbd_of F24 rfl fun _ _ _ _ _ _ us hl => match us, hl with | [_, _], _ => rfl,
      m_span_between := PySem.W.mg_of X G a25,
      k_span_between := k25,
      F_span_between := F25,
      kb_span_between_2 := kbd_of F25 rfl fun _ _ _ _ _ _ us hl => match us, hl with | [_, _], _ => rfl,
      m_ordered := PySem.W.mg_of X G a26,
      k_ordered := k26,
      F_ordered := F26,
      kb_ordered_1 := kbd_of F26 rfl fun _ _ _ _ _ _ us hl => match us, hl with | [_], _ => rfl,
      m_merged := PySem.W.mg_of X G a27,
      k_merged := k27,
      F_merged := F27,
      kb_merged_1 := kbd_of F27 rfl fun _ _ _ _ _ _ us hl => match us, hl with | [_], _ => rfl,
      m_common_spans := PySem.W.mg_of X G a28,
      k_common_spans := k28,
      F_common_spans := F28,
      kb_common_spans_2 := kbd_of F28 rfl fun _ _ _ _ _ _ us hl => match us, hl with | [_, _], _ => rfl,
      m_spans_without := PySem.W.mg_of X G a29,
      k_spans_without := k29,
      F_spans_without := F29,
      kb_spans_without_2 := kbd_of F29 rfl fun _ _ _ _ _ _ us hl => match us, hl with | [_, _], _ => rfl,
      F_Spread___init__ := F30,
      mk_Spread := ⟨mk2, a30, i30, kc2⟩,
      kb_Spread___init___1 := kbd_dflt F30 1 [] [0, 1] [(.tup [])] (by simp) (fun _ => .cons (.tup et .nil) (.nil)) fun _ _ _ _ _ _ _ us its ws h1 h2 h3 => match us, its, ws, h1, h2, h3 with | [_], [_], [], _, _, _ => ⟨_, rfl, rfl⟩,
      kb_Spread___init___2 := kbd_dflt F30 2 [] [0, 1] [(.tup [])] (by simp) (fun _ => .cons (.tup et .nil) (.nil)) fun _ _ _ _ _ _ _ us its ws h1 h2 h3 => match us, its, ws, h1, h2, h3 with | [_, _], [_], [], _, _, _ => ⟨_, rfl, rfl⟩,
      F_Spread_walk := F31,
      mt_Spread_walk := ⟨a31, i31, k31⟩,
      bb_Spread_walk := FunD.bindsN F31 fun _ _ _ _ _ _ us hl => match us, hl with | [_], _ => rfl,
      kb_Spread_walk_1 := kbd_of F31 rfl fun _ _ _ _ _ _ us hl => match us, hl with | [_], _ => rfl,
      F_Spread___or__ := F32,
      sp_Spread___or__ := a32,
      fn_Spread___or__ := i32,
      kb_Spread___or___2 := kbd_of F32 rfl fun _ _ _ _ _ _ us hl => match us, hl with | [_, _], _ => rfl,
      F_Spread___and__ := F33,
      sp_Spread___and__ := a33,
      fn_Spread___and__ := i33,
      kb_Spread___and___2 := kbd_of F33 rfl fun _ _ _ _ _ _ us hl => match us, hl with | [_, _], _ => rfl,
      F_Spread___sub__ := F34,
      sp_Spread___sub__ := a34,
      fn_Spread___sub__ := i34,
      kb_Spread___sub___2 := kbd_of F34 rfl fun _ _ _ _ _ _ us hl => match us, hl with | [_, _], _ => rfl,
      F_Spread___bool__ := F35,
      sp_Spread___bool__ := a35,
      fn_Spread___bool__ := i35,
      kb_Spread___bool___1 := kbd_of F35 rfl fun _ _ _ _ _ _ us hl => match us, hl with | [_], _ => rfl,
      F_Spread_within := F36,
      mt_Spread_within := ⟨a36, i36, k36⟩,
      kb_Spread_within_2 := kbd_of F36 rfl fun _ _ _ _ _ _ us hl => match us, hl with | [_, _], _ => rfl,
      F_Spread___contains__ := F37,
      sp_Spread___contains__ := a37,
      fn_Spread___contains__ := i37,
      kb_Spread___contains___2 := kbd_of F37 rfl fun _ _ _ _ _ _ us hl => match us, hl with | [_, _], _ => rfl,
      F_Spread___eq__ := F38,
      sp_Spread___eq__ := a38,
      fn_Spread___eq__ := i38,
      kb_Spread___eq___2 := kbd_of F38 rfl fun _ _ _ _ _ _ us hl => match us, hl with | [_, _], _ => rfl,
      m__law_start := PySem.W.mg_of X G a39,
      k__law_start := k39,
      F__law_start := F39,
      kb__law_start_1 := kbd_of F39 rfl fun _ _ _ _ _ _ us hl => match us, hl with | [_], _ => rfl,
      m__law_pull := PySem.W.mg_of X G a40,
      k__law_pull := k40,
      F__law_pull := F40,
      kb__law_pull_2 := kbd_of F40 rfl fun _ _ _ _ _ _ us hl => match us, hl with | [_, _], _ => rfl,
      m__law_pick := PySem.W.mg_of X G a41,
      k__law_pick := k41,
      F__law_pick := F41,
      kb__law_pick_2 := kbd_of F41 rfl fun _ _ _ _ _ _ us hl => match us, hl with | [_, _], _ => rfl,
      m__law_gcd := PySem.W.mg_of X G a42,
      k__law_gcd := k42,
      F__law_gcd := F42,
      kb__law_gcd_2 := kbd_of F42 rfl fun _ _ _ _ _ _ us hl => match us, hl with | [_, _], _ => rfl,
      m__law_frac := PySem.W.mg_of X G a43,
      k__law_frac := k43,
      F__law_frac := F43,
      kb__law_frac_2 := kbd_of F43 rfl fun _ _ _ _ _ _ us hl => match us, hl with | [_, _], _ => rfl,
      m__law_less := PySem.W.mg_of X G a44,
      k__law_less := k44,
      F__law_less := F44,
      kb__law_less_2 := kbd_of F44 rfl fun _ _ _ _ _ _ us hl => match us, hl with | [_, _], _ => rfl,
      m__law_near_areas := PySem.W.mg_of X G a45,
      k__law_near_areas := k45,
      F__law_near_areas := F45,
      kb__law_near_areas_2 := kbd_of F45 rfl fun _ _ _ _ _ _ us hl => match us, hl with | [_, _], _ => rfl,
      m__law_some_frac := PySem.W.mg_of X G a46,
      k__law_some_frac := k46,
      F__law_some_frac := F46,
      kb__law_some_frac_1 := kbd_of F46 rfl fun _ _ _ _ _ _ us hl => match us, hl with | [_], _ => rfl,
      m__law_some_area := PySem.W.mg_of X G a47,
      k__law_some_area := k47,
      F__law_some_area := F47,
      kb__law_some_area_1 := kbd_of F47 rfl fun _ _ _ _ _ _ us hl => match us, hl with | [_], _ => rfl,
      m__law_ratio := PySem.W.mg_of X G a48,
      k__law_ratio := k48,
      F__law_ratio := F48,
      kb__law_ratio_1 := kbd_of F48 rfl fun _ _ _ _ _ _ us hl => match us, hl with | [_], _ => rfl,
      m__law_made_span := PySem.W.mg_of X G a49,
      k__law_made_span := k49,
      F__law_made_span := F49,
      kb__law_made_span_1 := kbd_of F49 rfl fun _ _ _ _ _ _ us hl => match us, hl with | [_], _ => rfl,
      m__law_spread := PySem.W.mg_of X G a50,
      k__law_spread := k50,
      F__law_spread := F50,
      kb__law_spread_1 := kbd_of F50 rfl fun _ _ _ _ _ _ us hl => match us, hl with | [_], _ => rfl,
      m_law := PySem.W.mg_of X G a51,
      k_law := k51,
      F_law := F51,
      b_abs := PySem.W.mg_none_of X G b_abs,
      b_all := PySem.W.mg_none_of X G b_all,
      b_any := PySem.W.mg_none_of X G b_any,
      b_bool := PySem.W.mg_none_of X G b_bool,
      b_int := PySem.W.mg_none_of X G b_int,
      b_isinstance := PySem.W.mg_none_of X G b_isinstance,
      b_len := PySem.W.mg_none_of X G b_len,
      b_list := PySem.W.mg_none_of X G b_list,
      b_range := PySem.W.mg_none_of X G b_range,
      b_zip := PySem.W.mg_none_of X G b_zip,
      et := et }
  exact ⟨_, fun s v => .of_eq rfl, fun base _ _ => ok_law T⟩
end W08
open PySem PySem.W PyProof.Rows
set_option maxRecDepth 100000 in
set_option maxHeartbeats 0 in
theorem PySem.Challenge.cw_gustfloor_k08_whole_sets_of_ratios_holds : PySem.Challenge.rw_gustfloor_k08_whole_sets_of_ratios.Holds := by
  w_on; o_law; k_head; (case hw => w_witness2)
  k_fill
  refine DL.walk_D (l := PySem.Challenge.rw_gustfloor_k08_whole_sets_of_ratios) (k := 17) (φ := W08.ph_law) (x := "_law_script") rfl rfl ⟨rfl, by decide, by decide⟩ (fun ns M kk xx h1 h2 h3 h4 => W08.ph_law_of h1 h2 h3 h4) (fun w h Y => PySem.W.kIn_of Y) ?F
  case F =>
    intro w mg fa h KX G hmg
    refine' W08.all_mk KX G hmg ?aC0 ?aC1 ?aC2 ?pg0 ?hd0 ?po0 ?sa0 ?ha0 ?hm0 ?ic0 ?ty0 ?sf0 ?kk1_0 ?kk2_0 ?kb0_non ?kb0_bl ?kb0_int ?kb0_str ?kb0_lst ?kb0_tup ?ki0_bool ?ki0_int ?pg1 ?hd1 ?po1 ?sa1 ?ha1 ?hm1 ?ic1 ?ty1 ?sf1 ?kk0_1 ?kk2_1 ?kb1_non ?kb1_bl ?kb1_int ?kb1_str ?kb1_lst ?kb1_tup ?ki1_bool ?ki1_int ?ne1_0 ?pg2 ?hd2 ?po2 ?sa2 ?ha2 ?hm2 ?ic2 ?ty2 ?sf2 ?kk0_2 ?kk1_2 ?kb2_non ?kb2_bl ?kb2_int ?kb2_str ?kb2_lst ?kb2_tup ?ki2_bool ?ki2_int ?ne2_0 ?ne2_1 ?hn ?htk ?na_Ratio_own_bottom ?na_Ratio_own_top ?na_Span_own_first ?na_Span_own_last ?na_Spread_own_spans ?a0 ?l0 ?c0 ?k0 ?a1 ?l1 ?c1 ?k1 ?a2 ?i2 ?l2 ?lT2 ?c2 ?k2 ?a3 ?g3 ?t3 ?r3 ?l3 ?c3 ?k3 ?a4 ?g4 ?t4 ?r4 ?l4 ?c4 ?k4 ?a5 ?i5 ?l5 ?c5 ?k5 ?a6 ?i6 ?l6 ?c6 ?k6 ?a7 ?i7 ?l7 ?c7 ?k7 ?a8 ?i8 ?l8 ?c8 ?k8 ?a9 ?i9 ?l9 ?c9 ?k9 ?a10 ?i10 ?l10 ?c10 ?k10 ?a11 ?l11 ?c11 ?k11 ?a12 ?l12 ?c12 ?k12 ?a13 ?l13 ?c13 ?k13 ?a14 ?l14 ?c14 ?k14 ?a15 ?l15 ?c15 ?k15 ?a16 ?l16 ?c16 ?k16 ?a17 ?l17 ?c17 ?k17 ?a18 ?l18 ?c18 ?k18 ?a19 ?l19 ?c19 ?k19 ?a20 ?i20 ?l20 ?q20_0 ?q20_1 ?c20 ?k20 ?a21 ?i21 ?l21 ?c21 ?k21 ?a22 ?i22 ?l22 ?c22 ?k22 ?a23 ?i23 ?l23 ?c23 ?k23 ?a24 ?i24 ?l24 ?c24 ?k24 ?a25 ?l25 ?c25 ?k25 ?a26 ?l26 ?c26 ?k26 ?a27 ?l27 ?c27 ?k27 ?a28 ?l28 ?c28 ?k28 ?a29 ?l29 ?c29 ?k29 ?a30 ?i30 ?l30 ?lT30 ?c30 ?k30 ?a31 ?i31 ?l31 ?c31 ?k31 ?a32 ?i32 ?l32 ?c32 ?k32 ?a33 ?i33 ?l33 ?c33 ?k33 ?a34 ?i34 ?l34 ?c34 ?k34 ?a35 ?i35 ?l35 ?c35 ?k35 ?a36 ?i36 ?l36 ?c36 ?k36 ?a37 ?i37 ?l37 ?c37 ?k37 ?a38 ?i38 ?l38 ?c38 ?k38 ?a39 ?l39 ?c39 ?k39 ?a40 ?l40 ?c40 ?k40 ?a41 ?l41 ?c41 ?k41 ?a42 ?l42 ?c42 ?k42 ?a43 ?l43 ?c43 ?k43 ?a44 ?l44 ?c44 ?k44 ?a45 ?l45 ?c45 ?k45 ?a46 ?l46 ?c46 ?k46 ?a47 ?l47 ?c47 ?k47 ?a48 ?l48 ?c48 ?k48 ?a49 ?l49 ?c49 ?k49 ?a50 ?l50 ?c50 ?k50 ?a51 ?l51 ?c51 ?k51 ?mk0 ?kc0 ?mk1 ?kc1 ?mk2 ?kc2 ?lE0 ?b_abs ?b_all ?b_any ?b_bool ?b_int ?b_isinstance ?b_len ?b_list ?b_range ?b_zip
    (case aC0 => k_is)
    (case aC1 => k_is)
    (case aC2 => k_is)
    (case pg0 => k_is)
    (case hd0 => k_is)
    (case po0 => k_is)
    (case sa0 => k_is)
    (case ha0 => k_is)
    (case hm0 => k_is)
    (case ic0 => k_is)
    (case ty0 => k_is)
    (case sf0 => k_is)
    (case kk1_0 => k_is)
    (case kk2_0 => k_is)
    (case kb0_non => k_is)
    (case kb0_bl => k_is)
    (case kb0_int => k_is)
    (case kb0_str => k_is)
    (case kb0_lst => k_is)
    (case kb0_tup => k_is)
    (case ki0_bool => k_is)
    (case ki0_int => k_is)
    (case pg1 => k_is)
    (case hd1 => k_is)
    (case po1 => k_is)
    (case sa1 => k_is)
    (case ha1 => k_is)
    (case hm1 => k_is)
    (case ic1 => k_is)
    (case ty1 => k_is)
    (case sf1 => k_is)
    (case kk0_1 => k_is)
    (case kk2_1 => k_is)
    (case kb1_non => k_is)
    (case kb1_bl => k_is)
    (case kb1_int => k_is)
    (case kb1_str => k_is)
    (case kb1_lst => k_is)
    (case kb1_tup => k_is)
    (case ki1_bool => k_is)
    (case ki1_int => k_is)
    (case ne1_0 => decide)
    (case pg2 => k_is)
    (case hd2 => k_is)
    (case po2 => k_is)
    (case sa2 => k_is)
    (case ha2 => k_is)
    (case hm2 => k_is)
    (case ic2 => k_is)
    (case ty2 => k_is)
    (case sf2 => k_is)
    (case kk0_2 => k_is)
    (case kk1_2 => k_is)
    (case kb2_non => k_is)
    (case kb2_bl => k_is)
    (case kb2_int => k_is)
    (case kb2_str => k_is)
    (case kb2_lst => k_is)
    (case kb2_tup => k_is)
    (case ki2_bool => k_is)
    (case ki2_int => k_is)
    (case ne2_0 => decide)
    (case ne2_1 => decide)
    (case hn => k_is)
    (case htk => k_is)
    (case na_Ratio_own_bottom => k_is)
    (case na_Ratio_own_top => k_is)
    (case na_Span_own_first => k_is)
    (case na_Span_own_last => k_is)
    (case na_Spread_own_spans => k_is)
    (case a0 => k_is)
    (case l0 => k_is)
    (case c0 => k_is)
    (case k0 => k_is)
    (case a1 => k_is)
    (case l1 => k_is)
    (case c1 => k_is)
    (case k1 => k_is)
    (case a2 => k_is)
    (case i2 => k_is)
    (case l2 => k_is)
    (case lT2 => k_is)
    (case c2 => k_is)
    (case k2 => k_is)
    (case a3 => k_is)
    (case g3 => k_is)
    (case t3 => k_is)
    (case r3 => k_is)
    (case l3 => k_is)
    (case c3 => k_is)
    (case k3 => k_is)
    (case a4 => k_is)
    (case g4 => k_is)
    (case t4 => k_is)
    (case r4 => k_is)
    (case l4 => k_is)
    (case c4 => k_is)
    (case k4 => k_is)
    (case a5 => k_is)
    (case i5 => k_is)
    (case l5 => k_is)
    (case c5 => k_is)
    (case k5 => k_is)
    (case a6 => k_is)
    (case i6 => k_is)
    (case l6 => k_is)
    (case c6 => k_is)
    (case k6 => k_is)
    (case a7 => k_is)
    (case i7 => k_is)
    (case l7 => k_is)
    (case c7 => k_is)
    (case k7 => k_is)
    (case a8 => k_is)
    (case i8 => k_is)
    (case l8 => k_is)
    (case c8 => k_is)
    (case k8 => k_is)
    (case a9 => k_is)
    (case i9 => k_is)
    (case l9 => k_is)
    (case c9 => k_is)
    (case k9 => k_is)
    (case a10 => k_is)
    (case i10 => k_is)
    (case l10 => k_is)
    (case c10 => k_is)
    (case k10 => k_is)
    (case a11 => k_is)
    (case l11 => k_is)
    (case c11 => k_is)
    (case k11 => k_is)
    (case a12 => k_is)
    (case l12 => k_is)
    (case c12 => k_is)
    (case k12 => k_is)
    (case a13 => k_is)
    (case l13 => k_is)
    (case c13 => k_is)
    (case k13 => k_is)
    (case a14 => k_is)
    (case l14 => k_is)
    (case c14 => k_is)
    (case k14 => k_is)
    (case a15 => k_is)
    (case l15 => k_is)
    (case c15 => k_is)
    (case k15 => k_is)
    (case a16 => k_is)
    (case l16 => k_is)
    (case c16 => k_is)
    (case k16 => k_is)
    (case a17 => k_is)
    (case l17 => k_is)
    (case c17 => k_is)
    (case k17 => k_is)
    (case a18 => k_is)
    (case l18 => k_is)
    (case c18 => k_is)
    (case k18 => k_is)
    (case a19 => k_is)
    (case l19 => k_is)
    (case c19 => k_is)
    (case k19 => k_is)
    (case a20 => k_is)
    (case i20 => k_is)
    (case l20 => k_is)
    (case q20_0 => k_is)
    (case q20_1 => k_is)
    (case c20 => k_is)
    (case k20 => k_is)
    (case a21 => k_is)
    (case i21 => k_is)
    (case l21 => k_is)
    (case c21 => k_is)
    (case k21 => k_is)
    (case a22 => k_is)
    (case i22 => k_is)
    (case l22 => k_is)
    (case c22 => k_is)
    (case k22 => k_is)
    (case a23 => k_is)
    (case i23 => k_is)
    (case l23 => k_is)
    (case c23 => k_is)
    (case k23 => k_is)
    (case a24 => k_is)
    (case i24 => k_is)
    (case l24 => k_is)
    (case c24 => k_is)
    (case k24 => k_is)
    (case a25 => k_is)
    (case l25 => k_is)
    (case c25 => k_is)
    (case k25 => k_is)
    (case a26 => k_is)
    (case l26 => k_is)
    (case c26 => k_is)
    (case k26 => k_is)
    (case a27 => k_is)
    (case l27 => k_is)
    (case c27 => k_is)
    (case k27 => k_is)
    (case a28 => k_is)
    (case l28 => k_is)
    (case c28 => k_is)
    (case k28 => k_is)
    (case a29 => k_is)
    (case l29 => k_is)
    (case c29 => k_is)
    (case k29 => k_is)
    (case a30 => k_is)
    (case i30 => k_is)
    (case l30 => k_is)
    (case lT30 => k_is)
    (case c30 => k_is)
    (case k30 => k_is)
    (case a31 => k_is)
    (case i31 => k_is)
    (case l31 => k_is)
    (case c31 => k_is)
    (case k31 => k_is)
    (case a32 => k_is)
    (case i32 => k_is)
    (case l32 => k_is)
    (case c32 => k_is)
    (case k32 => k_is)
    (case a33 => k_is)
    (case i33 => k_is)
    (case l33 => k_is)
    (case c33 => k_is)
    (case k33 => k_is)
    (case a34 => k_is)
    (case i34 => k_is)
    (case l34 => k_is)
    (case c34 => k_is)
    (case k34 => k_is)
    (case a35 => k_is)
    (case i35 => k_is)
    (case l35 => k_is)
    (case c35 => k_is)
    (case k35 => k_is)
    (case a36 => k_is)
    (case i36 => k_is)
    (case l36 => k_is)
    (case c36 => k_is)
    (case k36 => k_is)
    (case a37 => k_is)
    (case i37 => k_is)
    (case l37 => k_is)
    (case c37 => k_is)
    (case k37 => k_is)
    (case a38 => k_is)
    (case i38 => k_is)
    (case l38 => k_is)
    (case c38 => k_is)
    (case k38 => k_is)
    (case a39 => k_is)
    (case l39 => k_is)
    (case c39 => k_is)
    (case k39 => k_is)
    (case a40 => k_is)
    (case l40 => k_is)
    (case c40 => k_is)
    (case k40 => k_is)
    (case a41 => k_is)
    (case l41 => k_is)
    (case c41 => k_is)
    (case k41 => k_is)
    (case a42 => k_is)
    (case l42 => k_is)
    (case c42 => k_is)
    (case k42 => k_is)
    (case a43 => k_is)
    (case l43 => k_is)
    (case c43 => k_is)
    (case k43 => k_is)
    (case a44 => k_is)
    (case l44 => k_is)
    (case c44 => k_is)
    (case k44 => k_is)
    (case a45 => k_is)
    (case l45 => k_is)
    (case c45 => k_is)
    (case k45 => k_is)
    (case a46 => k_is)
    (case l46 => k_is)
    (case c46 => k_is)
    (case k46 => k_is)
    (case a47 => k_is)
    (case l47 => k_is)
    (case c47 => k_is)
    (case k47 => k_is)
    (case a48 => k_is)
    (case l48 => k_is)
    (case c48 => k_is)
    (case k48 => k_is)
    (case a49 => k_is)
    (case l49 => k_is)
    (case c49 => k_is)
    (case k49 => k_is)
    (case a50 => k_is)
    (case l50 => k_is)
    (case c50 => k_is)
    (case k50 => k_is)
    (case a51 => k_is)
    (case l51 => k_is)
    (case c51 => k_is)
    (case k51 => k_is)
    (case mk0 => k_is)
    (case kc0 => k_is)
    (case mk1 => k_is)
    (case kc1 => k_is)
    (case mk2 => k_is)
    (case kc2 => k_is)
    (case lE0 => k_is)
    (case b_abs => k_is)
    (case b_all => k_is)
    (case b_any => k_is)
    (case b_bool => k_is)
    (case b_int => k_is)
    (case b_isinstance => k_is)
    (case b_len => k_is)
    (case b_list => k_is)
    (case b_range => k_is)
    (case b_zip => k_is)
#print axioms PySem.Challenge.cw_gustfloor_k08_whole_sets_of_ratios_holds
