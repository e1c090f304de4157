import PyProof.Rows.All
import Wide.All
import OpenK.AllK
import Wide.FinOn
import HandS.ForMost
import HandS.IsInst
import HandS.Zip
import HandS.Wide
import HandS.Defaults
import HandS.OwnEq
import HandS.EndBits
import HandS.Flow
import HandS.Style
import HandS.Lambda
import HandS.MakeKw
import HandS.MakeKwOnly
import HandS.Property
import HandS.ForExc
import HandS.TupAny
import HandS.More
import KE.KOpsOwn
import KE.KCallOwn
import HandS.SlotsOwn
import HandS.ClsMeth
import HandS.Star
import PyProof.NeKinds
import HandS.ExcInit
import HandS.TryMany
import HandS.ExcField
import KE.KExcSuper
import HandS.HotCalls
import KE.KTryMore
import HandS.EndTab
import HandS.EndOwn
import KE.KNestM
import KE.KDflt
import KE.KFmtOwn
import HandS.FStr
import HandS.Text
import PyProof.Rows.StrOr
import PyProof.StrOps2
import HandS.TryOnly
import HandS.Deep
import KE.DataCmp
import HandS.Iter
import PySem.Challenge.RW_gustfloor_k58_texts_of_ways
set_option Elab.async false
set_option linter.all false
set_option maxRecDepth 100000
set_option maxHeartbeats 2000000
namespace DL
open PySem PySem.Spec PyProof.Rows L2

/-- data as trees; cel a: the changing object at a -/
inductive D where
  | non | bl (b : Bool) | int (i : Int) | str (x : Str) | lst (ds : List D) | tup (ds : List D) | obj (C : Addr) (fs : List (Str × D)) | cel (a : Addr) | scr (ns : List Int) | exc (a dd : Addr) (fs : List (Str × D)) | lam (f c : Addr) (q : Str) (P : Heap → Prop) (t : Option Addr)

mutual
inductive Rep (K : PySem.W.Frag) (G : Hp) : V → D → Prop where
  | non : Rep K G .non .non
  | bl {b : Bool} : Rep K G (.bl b) (.bl b)
  | int {i : Int} : Rep K G (.int i) (.int i)
  | str {x : Str} : Rep K G (.str x) (.str x)
  | lst {a : Addr} {vs : List V} {ds : List D} (h : G a = some (.lst vs)) (r : Reps K G vs ds) : Rep K G (.ref a) (.lst ds)
  | tup {a : Addr} {vs : List V} {ds : List D} (h : SqT K G a vs) (r : Reps K G vs ds) : Rep K G (.ref a) (.tup ds)
  | obj {a C dx : Addr} {fvs : List (Str × V)} {fs : List (Str × D)} (h : G a = some (.ins C dx fvs)) (r : FRep K G fvs fs) : Rep K G (.ref a) (.obj C fs)
  | cel {a : Addr} : Rep K G (.ref a) (.cel a)
  | scr {a : Addr} {ns : List Int} (h : SqL K G a (ns.map V.int)) : Rep K G (.ref a) (.scr ns)
  | exc {a dd : Addr} {fvs : List (Str × V)} {fs : List (Str × D)} (h : G dd = some (.xd fvs)) (r : FRep K G fvs fs) : Rep K G (.ref a) (.exc a dd fs)
  | lam {f c : Addr} {q : Str} {P : Heap → Prop} {t : Option Addr} (h : G f = some (.ext P)) (hc : G c = some (LamX.CodeO c q)) (ht : ∀ b, t = some b → G b = some (.tup [.int 0])) : Rep K G (.ref f) (.lam f c q P t)
inductive Reps (K : PySem.W.Frag) (G : Hp) : List V → List D → Prop where
  | nil : Reps K G [] []
  | cons {v : V} {d : D} {vs : List V} {ds : List D} (h : Rep K G v d) (r : Reps K G vs ds) : Reps K G (v :: vs) (d :: ds)
inductive FRep (K : PySem.W.Frag) (G : Hp) : List (Str × V) → List (Str × D) → Prop where
  | nil : FRep K G [] []
  | cons {f : Str} {v : V} {d : D} {vs : List (Str × V)} {ds : List (Str × D)} (h : Rep K G v d) (r : FRep K G vs ds) : FRep K G ((f, v) :: vs) ((f, d) :: ds)
end

theorem Same.seqL {K : PySem.W.Frag} {H H' : Hp} {a : Addr} {xs : List V} (e : Same H H') (h : SqL K H a xs) : SqL K H' a xs := by
  rcases h with (h | ⟨o, h⟩) | h
  · exact .inl (.inl (e _ _ h))
  · exact .inl (.inr ⟨o, e _ _ h⟩)
  · exact .inr h
theorem Same.seqT {K : PySem.W.Frag} {H H' : Hp} {a : Addr} {xs : List V} (e : Same H H') (h : SqT K H a xs) : SqT K H' a xs := by
  rcases h with (h | ⟨o, h⟩) | h
  · exact .inl (.inl (e _ _ h))
  · exact .inl (.inr ⟨o, e _ _ h⟩)
  · exact .inr h
section
variable {K : PySem.W.Frag} {G G' : Hp}
mutual
theorem Rep.same (s : Same G G') : ∀ {v : V} {d : D}, Rep K G v d → Rep K G' v d
  | _, _, .non => .non
  | _, _, .bl => .bl
  | _, _, .int => .int
  | _, _, .str => .str
  | _, _, .lst h r => .lst (s _ _ h) (Reps.same s r)
  | _, _, .tup h r => .tup (Same.seqT s h) (Reps.same s r)
  | _, _, .obj h r => .obj (s _ _ h) (FRep.same s r)
  | _, _, .cel => .cel
  | _, _, .scr h => .scr (Same.seqL s h)
  | _, _, .exc h r => .exc (s _ _ h) (FRep.same s r)
  | _, _, .lam h hc ht => .lam (s _ _ h) (s _ _ hc) (fun b e => s _ _ (ht b e))
theorem Reps.same (s : Same G G') : ∀ {v : List V} {d : List D}, Reps K G v d → Reps K G' v d
  | _, _, .nil => .nil
  | _, _, .cons h r => .cons (Rep.same s h) (Reps.same s r)
theorem FRep.same (s : Same G G') : ∀ {v : List (Str × V)} {d : List (Str × D)}, FRep K G v d → FRep K G' v d
  | _, _, .nil => .nil
  | _, _, .cons h r => .cons (Rep.same s h) (FRep.same s r)
end
theorem Reps.length : ∀ {vs : List V} {ds : List D}, Reps K G vs ds → vs.length = ds.length
  | _, _, .nil => rfl
  | _, _, .cons _ r => by rw [List.length_cons, List.length_cons, Reps.length r]
theorem Reps.get : ∀ {vs : List V} {ds : List D} {i : Nat} {d : D}, Reps K G vs ds → ds[i]? = some d → ∃ v, vs[i]? = some v ∧ Rep K G v d
  | _, _, _, _, .nil, e => by simp at e
  | _, _, 0, _, .cons h _, e => by simp at e; subst e; exact ⟨_, rfl, h⟩
  | _, _, i + 1, d, .cons _ r, e => by
    obtain ⟨v, h1, h2⟩ := Reps.get (i := i) (d := d) r (by simpa using e)
    exact ⟨v, by simpa using h1, h2⟩
theorem Reps.getV : ∀ {vs : List V} {ds : List D} {i : Nat} {v : V}, Reps K G vs ds → vs[i]? = some v → ∃ d, ds[i]? = some d ∧ Rep K G v d
  | _, _, _, _, .nil, e => by simp at e
  | _, _, 0, _, .cons h _, e => by simp at e; subst e; exact ⟨_, rfl, h⟩
  | _, _, i + 1, d, .cons _ r, e => by
    obtain ⟨v, h1, h2⟩ := Reps.getV (i := i) (v := d) r (by simpa using e)
    exact ⟨v, by simpa using h1, h2⟩
theorem Reps.append : ∀ {xs ys : List V} {ds es : List D}, Reps K G xs ds → Reps K G ys es → Reps K G (xs ++ ys) (ds ++ es)
  | _, _, _, _, .nil, s => s
  | _, _, _, _, .cons r t, s => .cons r (Reps.append t s)
theorem Reps.take : ∀ {xs : List V} {ds : List D} (n : Nat), Reps K G xs ds → Reps K G (xs.take n) (ds.take n)
  | _, _, 0, _ => .nil
  | _, _, _ + 1, .nil => .nil
  | _, _, n + 1, .cons r t => .cons r (Reps.take n t)
theorem Reps.drop : ∀ {xs : List V} {ds : List D} (n : Nat), Reps K G xs ds → Reps K G (xs.drop n) (ds.drop n)
  | _, _, 0, r => r
  | _, _, _ + 1, .nil => .nil
  | _, _, n + 1, .cons _ t => Reps.drop n t
theorem Reps.set {x : V} {u : D} (r : Rep K G x u) : ∀ {xs : List V} {us : List D} (i : Nat), Reps K G xs us → Reps K G (xs.set i x) (us.set i u)
  | _, _, _, .nil => .nil
  | _, _, 0, .cons _ t => .cons r t
  | _, _, i + 1, .cons q t => .cons q (Reps.set r i t)
theorem Reps.ints : ∀ (ns : List Int), Reps K G (ns.map V.int) (ns.map D.int)
  | [] => .nil
  | _ :: r => .cons .int (Reps.ints r)
theorem FRep.get : ∀ {vs : List (Str × V)} {ds : List (Str × D)} {f : Str} {d : D}, FRep K G vs ds → ds.lookup f = some d → ∃ v, vs.lookup f = some v ∧ Rep K G v d
  | _, _, _, _, .nil, e => by simp at e
  | _, _, f, d, .cons (f := g) (v := v) h r, e => by
    rw [List.lookup_cons] at e ⊢
    cases hb : (f == g) with
    | true =>
      rw [hb] at e
      cases e
      exact ⟨v, rfl, h⟩
    | false =>
      rw [hb] at e
      exact FRep.get r e
theorem FRep.none : ∀ {vs : List (Str × V)} {ds : List (Str × D)} {f : Str}, FRep K G vs ds → ds.lookup f = none → vs.lookup f = none
  | _, _, _, .nil, e => by simp
  | _, _, f, .cons (f := g) (v := v) h r, e => by
    rw [List.lookup_cons] at e ⊢
    cases hb : (f == g) with
    | true =>
      rw [hb] at e
      cases e
    | false =>
      rw [hb] at e
      exact FRep.none r e
theorem FRep.length : ∀ {vs : List (Str × V)} {ds : List (Str × D)}, FRep K G vs ds → vs.length = ds.length
  | _, _, .nil => rfl
  | _, _, .cons _ r => by rw [List.length_cons, List.length_cons, FRep.length r]
def putD (f : Str) (v : D) : List (Str × D) → List (Str × D)
  | [] => [(f, v)]
  | (g, u) :: r => if g = f then (f, v) :: r else (g, u) :: putD f v r
end

/-- what changes -/
inductive MO where
  | lst (ds : List D) | ins (C : Addr) (fs : List (Str × D)) | tbl (q : Str)
abbrev Mm := Addr → Option MO
def mup (M : Mm) (a : Addr) (o : MO) : Mm := fun b => if b = a then some o else M b
theorem mup_same {M : Mm} {a : Addr} {o : MO} : mup M a o a = some o := by unfold mup; rw [if_pos rfl]
theorem mup_ne {M : Mm} {a b : Addr} {o : MO} (h : b ≠ a) : mup M a o b = M b := by unfold mup; rw [if_neg h]
theorem mup_mup {M : Mm} {a : Addr} {o u : MO} : mup (mup M a o) a u = mup M a u := by
  funext b; unfold mup; split <;> rfl
def mdel (M : Mm) (a : Addr) : Mm := fun b => if b = a then none else M b
theorem mdel_same {M : Mm} {a : Addr} : mdel M a a = none := by unfold mdel; rw [if_pos rfl]
theorem mdel_ne {M : Mm} {a b : Addr} (h : b ≠ a) : mdel M a b = M b := by unfold mdel; rw [if_neg h]
theorem mdel_mup {M : Mm} {a : Addr} {o : MO} (h : M a = none) : mdel (mup M a o) a = M := by
  funext b
  unfold mdel mup
  by_cases e : b = a
  · subst e; rw [if_pos rfl, h]
  · rw [if_neg e, if_neg e]
/-- a state: the tracked heap, the part of it that never changes, what changes; the rest is hidden -/
structure Sta where
  H : Hp
  G : Hp
  M : Mm
def MRep (K : PySem.W.Frag) (G : Hp) (o : Option HO) : MO → Prop
  | .lst ds => ∃ vs, o = some (.lst vs) ∧ Reps K G vs ds
  | .ins C fs => ∃ dx fvs, o = some (.ins C dx fvs) ∧ FRep K G fvs fs
  | .tbl q => ∃ ps : Array Value, o = some (.tbl ps) ∧ TriplesOk ps.toList ∧ ∀ (pos : Pos) (cv : Value), codeAmong pos ps.toList = some cv → ∃ c, cv = .ref c ∧ G c = some (LamX.CodeO c q)
/-- an object that is hidden -/
def Sta.hidden (s : Sta) (a : Addr) : Prop := ∃ o, s.H a = some o ∧ s.G a = none ∧ s.M a = none
structure Ok (K : PySem.W.Frag) (s : Sta) : Prop where
  sub : Same s.G s.H
  apart : ∀ a mo, s.M a = some mo → s.G a = none
  cells : ∀ a mo, s.M a = some mo → MRep K s.G (s.H a) mo
structure Step (s t : Sta) : Prop where
  same : Same s.G t.G
  dom : ∀ a, (s.M a).isSome = true → (t.M a).isSome = true
  hid : ∀ a o, s.H a = some o → s.G a = none → s.M a = none → t.H a = some o ∧ t.G a = none ∧ t.M a = none
theorem Step.refl (s : Sta) : Step s s := ⟨Same.refl _, fun _ h => h, fun _ _ h1 h2 h3 => ⟨h1, h2, h3⟩⟩
theorem Step.trans {s t u : Sta} (a : Step s t) (b : Step t u) : Step s u :=
  ⟨a.same.trans b.same, fun x h => b.dom x (a.dom x h), fun x o h1 h2 h3 => let ⟨g1, g2, g3⟩ := a.hid x o h1 h2 h3; b.hid x o g1 g2 g3⟩
theorem MRep.same {K : PySem.W.Frag} {G G' : Hp} {o : Option HO} {mo : MO} (s : Same G G') (h : MRep K G o mo) : MRep K G' o mo := by
  cases mo with
  | lst ds => obtain ⟨vs, e, r⟩ := h; exact ⟨vs, e, r.same s⟩
  | ins C fs => obtain ⟨dx, fvs, e, r⟩ := h; exact ⟨dx, fvs, e, r.same s⟩
  | tbl q => obtain ⟨ps, e, ht, r⟩ := h; exact ⟨ps, e, ht, fun p cv z => let ⟨c, e1, e2⟩ := r p cv z; ⟨c, e1, s _ _ e2⟩⟩
theorem MRep.some {K : PySem.W.Frag} {G : Hp} {o : Option HO} {mo : MO} (h : MRep K G o mo) : ∃ u, o = Option.some u := by
  cases mo with
  | lst ds => obtain ⟨vs, e, r⟩ := h; exact ⟨_, e⟩
  | ins C fs => obtain ⟨dx, fvs, e, r⟩ := h; exact ⟨_, e⟩
  | tbl q => obtain ⟨ps, e, r⟩ := h; exact ⟨_, e⟩
theorem same_new {G : Hp} {p : Addr} {o : HO} (h : G p = none) : Same G (upd G p o) := fun b u e => by
  rw [upd_ne (ne_of_none e h)]
  exact e
section
variable {K : PySem.W.Frag} {s : Sta} {p : Addr} {o : HO} {mo : MO}
theorem Ok.freeM (k : Ok K s) (h : s.H p = none) : s.M p = none := by
  cases e : s.M p with
  | none => rfl
  | some mo =>
    obtain ⟨u, q⟩ := (k.cells p mo e).some
    rw [h] at q
    cases q
theorem Ok.freeG (k : Ok K s) (h : s.H p = none) : s.G p = none := k.sub.free h
/-- a new object that does not change -/
theorem Ok.new (k : Ok K s) (h : s.H p = none) : Ok K ⟨upd s.H p o, upd s.G p o, s.M⟩ ∧ Step s ⟨upd s.H p o, upd s.G p o, s.M⟩ := by
  have hm := k.freeM h
  have hg := k.freeG h
  refine ⟨⟨fun b u e => ?_, fun a mo e => ?_, fun a mo e => ?_⟩, ⟨same_new hg, fun _ x => x, fun a u h1 h2 h3 => ?_⟩⟩
  · have e' : upd s.G p o b = some u := e
    show upd s.H p o b = some u
    by_cases eb : b = p
    · subst eb
      rw [upd_same] at e' ⊢
      exact e'
    · rw [upd_ne eb] at e' ⊢
      exact k.sub b u e'
  · have ne : a ≠ p := fun z => by rw [z, hm] at e; cases e
    show upd s.G p o a = none
    rw [upd_ne ne]
    exact k.apart a mo e
  · have ne : a ≠ p := fun z => by rw [z, hm] at e; cases e
    show MRep K (upd s.G p o) (upd s.H p o a) mo
    rw [upd_ne ne]
    exact (k.cells a mo e).same (same_new hg)
  · have ne : a ≠ p := ne_of_none h1 h
    exact ⟨by show upd s.H p o a = _; rw [upd_ne ne]; exact h1, by show upd s.G p o a = _; rw [upd_ne ne]; exact h2, h3⟩
/-- a new object that changes -/
theorem Ok.newM (k : Ok K s) (h : s.H p = none) (r : MRep K s.G (some o) mo) : Ok K ⟨upd s.H p o, s.G, mup s.M p mo⟩ ∧ Step s ⟨upd s.H p o, s.G, mup s.M p mo⟩ := by
  have hm := k.freeM h
  have hg := k.freeG h
  refine ⟨⟨fun b u e => ?_, fun a mo' e => ?_, fun a mo' e => ?_⟩, ⟨Same.refl _, fun a x => ?_, fun a u h1 h2 h3 => ?_⟩⟩
  · have ne : b ≠ p := ne_of_none e hg
    show upd s.H p o b = _
    rw [upd_ne ne]
    exact k.sub b u e
  · by_cases ea : a = p
    · subst ea; exact hg
    · have e' : mup s.M p mo a = some mo' := e
      rw [mup_ne ea] at e'
      exact k.apart a mo' e'
  · have e' : mup s.M p mo a = some mo' := e
    show MRep K s.G (upd s.H p o a) mo'
    by_cases ea : a = p
    · subst ea
      rw [mup_same] at e'
      cases e'
      rw [upd_same]
      exact r
    · rw [mup_ne ea] at e'
      rw [upd_ne ea]
      exact k.cells a mo' e'
  · show (mup s.M p mo a).isSome = true
    by_cases ea : a = p
    · subst ea; rw [mup_same]; rfl
    · rw [mup_ne ea]; exact x
  · have ne : a ≠ p := ne_of_none h1 h
    exact ⟨by show upd s.H p o a = _; rw [upd_ne ne]; exact h1, h2, by show mup s.M p mo a = none; rw [mup_ne ne]; exact h3⟩
/-- a changing object is changed -/
theorem Ok.put (k : Ok K s) (h : (s.M p).isSome = true) (r : MRep K s.G (some o) mo) : Ok K ⟨upd s.H p o, s.G, mup s.M p mo⟩ ∧ Step s ⟨upd s.H p o, s.G, mup s.M p mo⟩ := by
  have hg : s.G p = none := by
    cases e : s.M p with
    | none => rw [e] at h; cases h
    | some m => exact k.apart p m e
  refine ⟨⟨fun b u e => ?_, fun a mo' e => ?_, fun a mo' e => ?_⟩, ⟨Same.refl _, fun a x => ?_, fun a u h1 h2 h3 => ?_⟩⟩
  · have ne : b ≠ p := ne_of_none e hg
    show upd s.H p o b = _
    rw [upd_ne ne]
    exact k.sub b u e
  · by_cases ea : a = p
    · subst ea; exact hg
    · have e' : mup s.M p mo a = some mo' := e
      rw [mup_ne ea] at e'
      exact k.apart a mo' e'
  · have e' : mup s.M p mo a = some mo' := e
    show MRep K s.G (upd s.H p o a) mo'
    by_cases ea : a = p
    · subst ea
      rw [mup_same] at e'
      cases e'
      rw [upd_same]
      exact r
    · rw [mup_ne ea] at e'
      rw [upd_ne ea]
      exact k.cells a mo' e'
  · show (mup s.M p mo a).isSome = true
    by_cases ea : a = p
    · subst ea; rw [mup_same]; rfl
    · rw [mup_ne ea]; exact x
  · have ne : a ≠ p := fun z => by rw [z] at h3; rw [h3] at h; cases h
    exact ⟨by show upd s.H p o a = _; rw [upd_ne ne]; exact h1, h2, by show mup s.M p mo a = none; rw [mup_ne ne]; exact h3⟩
/-- a changing object is kept as it is from now on; b: the state that is looked back to, which did not know it -/
theorem Ok.freeze {b : Sta} (k : Ok K s) (st : Step b s) (hb : b.H p = none) (hbm : b.M p = none) (hm : (s.M p).isSome = true) (ho : s.H p = some o) : Ok K ⟨s.H, upd s.G p o, mdel s.M p⟩ ∧ Step b ⟨s.H, upd s.G p o, mdel s.M p⟩ ∧ Same s.G (upd s.G p o) := by
  have hg : s.G p = none := by
    cases e : s.M p with
    | none => rw [e] at hm; cases hm
    | some m => exact k.apart p m e
  refine ⟨⟨fun c u e => ?_, fun a mo' e => ?_, fun a mo' e => ?_⟩, ⟨st.same.trans (same_new hg), fun a x => ?_, fun a u h1 h2 h3 => ?_⟩, same_new hg⟩
  · have e' : upd s.G p o c = some u := e
    by_cases ec : c = p
    · subst ec
      rw [upd_same] at e'
      cases e'
      exact ho
    · rw [upd_ne ec] at e'
      exact k.sub c u e'
  · have e' : mdel s.M p a = some mo' := e
    by_cases ea : a = p
    · subst ea; rw [mdel_same] at e'; cases e'
    · rw [mdel_ne ea] at e'
      show upd s.G p o a = none
      rw [upd_ne ea]
      exact k.apart a mo' e'
  · have e' : mdel s.M p a = some mo' := e
    by_cases ea : a = p
    · subst ea; rw [mdel_same] at e'; cases e'
    · rw [mdel_ne ea] at e'
      exact (k.cells a mo' e').same (same_new hg)
  · have ne : a ≠ p := fun z => by rw [z, hbm] at x; cases x
    show (mdel s.M p a).isSome = true
    rw [mdel_ne ne]
    exact st.dom a x
  · have ne : a ≠ p := ne_of_none h1 hb
    obtain ⟨g1, g2, g3⟩ := st.hid a u h1 h2 h3
    exact ⟨g1, by show upd s.G p o a = none; rw [upd_ne ne]; exact g2, by show mdel s.M p a = none; rw [mdel_ne ne]; exact g3⟩
/-- a hidden object is shown -/
theorem Ok.shown {b : Sta} (k : Ok K s) (st : Step b s) (hb : b.H p = none) (hg : s.G p = none) (hm : s.M p = none) (ho : s.H p = some o) : Ok K ⟨s.H, upd s.G p o, s.M⟩ ∧ Step b ⟨s.H, upd s.G p o, s.M⟩ ∧ Same s.G (upd s.G p o) := by
  refine ⟨⟨fun c u e => ?_, fun a mo' e => ?_, fun a mo' e => ?_⟩, ⟨st.same.trans (same_new hg), st.dom, fun a u h1 h2 h3 => ?_⟩, same_new hg⟩
  · have e' : upd s.G p o c = some u := e
    by_cases ec : c = p
    · subst ec
      rw [upd_same] at e'
      cases e'
      exact ho
    · rw [upd_ne ec] at e'
      exact k.sub c u e'
  · have ne : a ≠ p := fun z => by rw [z, hm] at e; cases e
    show upd s.G p o a = none
    rw [upd_ne ne]
    exact k.apart a mo' e
  · exact (k.cells a mo' e).same (same_new hg)
  · have ne : a ≠ p := ne_of_none h1 hb
    obtain ⟨g1, g2, g3⟩ := st.hid a u h1 h2 h3
    exact ⟨g1, by show upd s.G p o a = none; rw [upd_ne ne]; exact g2, g3⟩
/-- .. where it was not hidden before -/
theorem Ok.shown2 {b : Sta} (k : Ok K s) (st : Step b s) (hb : ¬ b.hidden p) (hg : s.G p = none) (hm : s.M p = none) (ho : s.H p = some o) : Ok K ⟨s.H, upd s.G p o, s.M⟩ ∧ Step b ⟨s.H, upd s.G p o, s.M⟩ ∧ Same s.G (upd s.G p o) := by
  refine ⟨⟨fun c u e => ?_, fun a mo' e => ?_, fun a mo' e => ?_⟩, ⟨st.same.trans (same_new hg), st.dom, fun a u h1 h2 h3 => ?_⟩, same_new hg⟩
  · have e' : upd s.G p o c = some u := e
    by_cases ec : c = p
    · subst ec
      rw [upd_same] at e'
      cases e'
      exact ho
    · rw [upd_ne ec] at e'
      exact k.sub c u e'
  · have ne : a ≠ p := fun z => by rw [z, hm] at e; cases e
    show upd s.G p o a = none
    rw [upd_ne ne]
    exact k.apart a mo' e
  · exact (k.cells a mo' e).same (same_new hg)
  · have ne : a ≠ p := fun z => hb (by rw [← z]; exact ⟨u, h1, h2, h3⟩)
    obtain ⟨g1, g2, g3⟩ := st.hid a u h1 h2 h3
    exact ⟨g1, by show upd s.G p o a = none; rw [upd_ne ne]; exact g2, g3⟩
/-- a hidden object is laid, or changed -/
theorem Ok.hide {b : Sta} (k : Ok K s) (st : Step b s) (hb : b.H p = none) (hg : s.G p = none) (hm : s.M p = none) : Ok K ⟨upd s.H p o, s.G, s.M⟩ ∧ Step b ⟨upd s.H p o, s.G, s.M⟩ := by
  refine ⟨⟨fun c u e => ?_, k.apart, fun a mo' e => ?_⟩, ⟨st.same, st.dom, fun a u h1 h2 h3 => ?_⟩⟩
  · have ne : c ≠ p := ne_of_none e hg
    show upd s.H p o c = _
    rw [upd_ne ne]
    exact k.sub c u e
  · have ne : a ≠ p := fun z => by rw [z, hm] at e; cases e
    show MRep K s.G (upd s.H p o a) mo'
    rw [upd_ne ne]
    exact k.cells a mo' e
  · have ne : a ≠ p := ne_of_none h1 hb
    obtain ⟨g1, g2, g3⟩ := st.hid a u h1 h2 h3
    exact ⟨by show upd s.H p o a = _; rw [upd_ne ne]; exact g1, g2, g3⟩
end

/-! ### readings over data -/
abbrev DEnv := List (Option D)
abbrev DK := D → Mm → Prop
abbrev DKA := List D → Mm → Prop
abbrev DX := Addr → List (Str × D) → Mm → Prop
abbrev DE := DEnv → Mm → DK → DX → Prop
abbrev DT := DEnv → Mm → (Bool → Mm → Prop) → DX → Prop
abbrev DA := DEnv → Mm → DKA → DX → Prop
structure DEnds where
  nx : DEnv → Mm → Prop
  rt : DK
  m0 : Mm
  bk : DEnv → Mm → Prop := fun _ _ => False
  ct : DEnv → Mm → Prop := fun _ _ => False
abbrev DS := DEnds → DX → DEnv → Mm → Prop

structure ER (K : PySem.W.Frag) (s : Sta) (σ : L2.St) (ρ : DEnv) : Prop where
  ok : Ok K s
  len : σ.length = ρ.length
  at_ : ∀ (i : Nat) (d : D), ρ[i]? = some (some d) → ∃ v, σ[i]? = some (some v) ∧ Rep K s.G v d
section
variable {K : PySem.W.Frag} {s t : Sta} {σ : L2.St} {ρ ρ' : DEnv}
theorem ER.step (e : ER K s σ ρ) (st : Step s t) (k : Ok K t) : ER K t σ ρ := ⟨k, e.len, fun i d h => let ⟨v, h1, h2⟩ := e.at_ i d h; ⟨v, h1, h2.same st.same⟩⟩
theorem ER.set (e : ER K s σ ρ) (i : Nat) {v : V} {d : D} (r : Rep K s.G v d) : ER K s (σ.set i (some v)) (ρ.set i (some d)) := by
  refine ⟨e.ok, by rw [List.length_set, List.length_set]; exact e.len, fun j d' h => ?_⟩
  by_cases hj : j = i
  · subst hj
    by_cases hl : j < ρ.length
    · rw [List.getElem?_set_self hl] at h
      cases h
      exact ⟨v, List.getElem?_set_self (by rw [e.len]; exact hl), r⟩
    · rw [List.getElem?_eq_none (by rw [List.length_set]; omega)] at h
      cases h
  · rw [List.getElem?_set_ne (Ne.symm hj)] at h
    rw [List.getElem?_set_ne (Ne.symm hj)]
    exact e.at_ j d' h
theorem ER.unset (e : ER K s σ ρ) (i : Nat) : ER K s (σ.set i none) (ρ.set i none) := by
  refine ⟨e.ok, by rw [List.length_set, List.length_set]; exact e.len, fun j d' h => ?_⟩
  by_cases hj : j = i
  · subst hj
    by_cases hl : j < ρ.length
    · rw [List.getElem?_set_self hl] at h
      cases h
    · rw [List.getElem?_eq_none (by rw [List.length_set]; omega)] at h
      cases h
  · rw [List.getElem?_set_ne (Ne.symm hj)] at h
    rw [List.getElem?_set_ne (Ne.symm hj)]
    exact e.at_ j d' h
end

def Post (K : PySem.W.Frag) (s : Sta) (k : DK) (Q : VK) : Prop := ∀ (d : D) (t : Sta), k d t.M → Step s t → Ok K t → ∀ v, Rep K t.G v d → Q v t.H
def PostT (K : PySem.W.Frag) (s : Sta) (k : Bool → Mm → Prop) (Q : Bool → Hp → Prop) : Prop := ∀ (b : Bool) (t : Sta), k b t.M → Step s t → Ok K t → Q b t.H
def PostA (K : PySem.W.Frag) (s : Sta) (k : DKA) (Q : List V → Hp → Prop) : Prop := ∀ (ds : List D) (t : Sta), k ds t.M → Step s t → Ok K t → ∀ vs, Reps K t.G vs ds → Q vs t.H
def PostN (K : PySem.W.Frag) (s : Sta) (k : DEnv → Mm → Prop) (Q : L2.St → Hp → Prop) : Prop := ∀ (ρ : DEnv) (t : Sta), k ρ t.M → Step s t → ∀ σ, ER K t σ ρ → Q σ t.H
def PostX (K : PySem.W.Frag) (E : XK) (s : Sta) (x : DX) : Prop := ∀ (C : Addr) (fs : List (Str × D)) (t : Sta), x C fs t.M → Step s t → Ok K t → ∀ dx fvs, t.H dx = some (.xd fvs) → t.G dx = none → t.M dx = none → ¬ s.hidden dx → FRep K t.G fvs fs → E (.ref C) (some dx) t.H
section
variable {K : PySem.W.Frag} {s t : Sta} {E : XK}
theorem Post.step {k : DK} {Q : VK} (p : Post K s k Q) (st : Step s t) : Post K t k Q := fun d u h s' r v e => p d u h (st.trans s') r v e
theorem PostT.step {k : Bool → Mm → Prop} {Q : Bool → Hp → Prop} (p : PostT K s k Q) (st : Step s t) : PostT K t k Q := fun d u h s' r => p d u h (st.trans s') r
theorem PostA.step {k : DKA} {Q : List V → Hp → Prop} (p : PostA K s k Q) (st : Step s t) : PostA K t k Q := fun d u h s' r v e => p d u h (st.trans s') r v e
theorem PostN.step {k : DEnv → Mm → Prop} {Q : L2.St → Hp → Prop} (p : PostN K s k Q) (st : Step s t) : PostN K t k Q := fun d u h s' v e => p d u h (st.trans s') v e
theorem PostX.step {x : DX} (p : PostX K E s x) (st : Step s t) : PostX K E t x := fun C fs u h s' k dx fvs h1 h2 h3 hn h4 => p C fs u h (st.trans s') k dx fvs h1 h2 h3 (fun ⟨o, z1, z2, z3⟩ => hn ⟨o, st.hid dx o z1 z2 z3⟩) h4
theorem PostX.never : PostX K E s (fun _ _ _ => False) := fun _ _ _ h => h.elim
theorem Post.now {k : DK} {Q : VK} (p : Post K s k Q) {d : D} {v : V} (h : k d s.M) (o : Ok K s) (r : Rep K s.G v d) : Q v s.H := p d s h (Step.refl s) o v r
end

def up (K : PySem.W.Frag) (E : XK) (τ : DE) : TE := fun σ H Q => ∃ ρ s k x, s.H = H ∧ ER K s σ ρ ∧ τ ρ s.M k x ∧ Post K s k Q ∧ PostX K E s x
def upT (K : PySem.W.Frag) (E : XK) (τ : DT) : TT := fun σ H Q => ∃ ρ s k x, s.H = H ∧ ER K s σ ρ ∧ τ ρ s.M k x ∧ PostT K s k Q ∧ PostX K E s x
def upA (K : PySem.W.Frag) (E : XK) (τ : DA) : TA := fun σ H Q => ∃ ρ s k x, s.H = H ∧ ER K s σ ρ ∧ τ ρ s.M k x ∧ PostA K s k Q ∧ PostX K E s x
structure EndsR (K : PySem.W.Frag) (s : Sta) (k : DEnds) (D : Ends) : Prop where
  nx : PostN K s k.nx D.nx
  rt : ∃ b, Step b s ∧ Ok K b ∧ b.M = k.m0 ∧ Post K b k.rt D.rt
  bk : PostN K s k.bk D.bk
  ct : PostN K s k.ct D.ct
theorem EndsR.step {K : PySem.W.Frag} {s t : Sta} {k : DEnds} {D : Ends} (p : EndsR K s k D) (st : Step s t) : EndsR K t k D :=
  ⟨p.nx.step st, let ⟨b, s1, o, m, q⟩ := p.rt; ⟨b, s1.trans st, o, m, q⟩, p.bk.step st, p.ct.step st⟩
def upS (K : PySem.W.Frag) (E : XK) (τ : DS) : TS := fun D σ H => ∃ ρ s k x, s.H = H ∧ ER K s σ ρ ∧ τ k x ρ s.M ∧ EndsR K s k D ∧ PostX K E s x

def DP (X : Cx) (E : XK) (e : Expr) (τ : DE) : Prop := PE X e (up X.K E τ)
def DPT (X : Cx) (E : XK) (e : Expr) (τ : DT) : Prop := PT X e (upT X.K E τ)
def DPW (X : Cx) (E : XK) (e : Expr) (τ : DT) : Prop := PW X e (upT X.K E τ)
def DPA (X : Cx) (E : XK) (es : List Expr) (τ : DA) : Prop := PA X es (upA X.K E τ)
def DPS (X : Cx) (E : XK) (st : Stmt) (τ : DS) : Prop := PS X st (upS X.K E τ)
def DPB (X : Cx) (E : XK) (st : List Stmt) (τ : DS) : Prop := PSs X st (upS X.K E τ)

section
variable {X : Cx} {E : XK} {e a b c : Expr} {pos : Pos}
theorem pe_mono {t t' : TE} (h : PE X e t) (m : ∀ σ H Q, t' σ H Q → t σ H Q) : PE X e t' := ⟨fun pins s σ H Q I q => h.run pins s σ H Q I (m σ H Q q)⟩
theorem pt_mono {t t' : TT} (h : PT X e t) (m : ∀ σ H Q, t' σ H Q → t σ H Q) : PT X e t' := ⟨fun pins s σ H Q I q => h.run pins s σ H Q I (m σ H Q q)⟩
theorem pw_mono {t t' : TT} (h : PW X e t) (m : ∀ σ H Q, t' σ H Q → t σ H Q) : PW X e t' := ⟨fun wh pins s σ H Q I q => h.run wh pins s σ H Q I (m σ H Q q)⟩
theorem pa_mono {es : List Expr} {t t' : TA} (h : PA X es t) (m : ∀ σ H Q, t' σ H Q → t σ H Q) : PA X es t' := ⟨fun p pins s σ H Q I q => h.run p pins s σ H Q I (m σ H Q q)⟩
theorem ps_mono {st : Stmt} {t t' : TS} (h : PS X st t) (m : ∀ D σ H, t' D σ H → t D σ H) : PS X st t' := ⟨fun pins s σ H D I q => h.run pins s σ H D I (m D σ H q)⟩
theorem pss_mono {st : List Stmt} {t t' : TS} (h : PSs X st t) (m : ∀ D σ H, t' D σ H → t D σ H) : PSs X st t' := ⟨fun pins s σ H D I q => h.run pins s σ H D I (m D σ H q)⟩

/-! ### names and constants -/
def dVar (i : Nat) : DE := fun ρ M k _ => ∃ d, ρ[i]? = some (some d) ∧ k d M
def dC (d : D) : DE := fun _ M k _ => k d M
theorem up_var {K : PySem.W.Frag} {i : Nat} {σ : L2.St} {H : Hp} {Q : VK} (h : up K E (dVar i) σ H Q) : tVar i σ H Q := by
  obtain ⟨ρ, s, k, x, rfl, er, ⟨d, e1, q⟩, p, _⟩ := h
  obtain ⟨v, e2, r⟩ := er.at_ i d e1
  exact ⟨v, e2, p.now q er.ok r⟩
theorem dv (i : Nat) {x : Str} (hN : X.N[i]? = some x := by rfl) (hv : Vis X.env.scope x := by first | exact Or.inl rfl | exact Or.inr (Or.inl rfl) | exact Or.inr (Or.inr rfl)) (hd : (x == ("__debug__" : Str)) = false := by decide)
    (hcd : (x == ("__classdict__" : Str)) = false := by decide) : DP X E (.Name x pos) (dVar i) := pe_mono (pe_var hN hv hd hcd) fun _ _ _ h => up_var h
theorem up_c {K : PySem.W.Frag} {d : D} {v : V} {σ : L2.St} {H : Hp} {Q : VK} (r : ∀ G, Rep K G v d) (h : up K E (dC d) σ H Q) : tC v σ H Q := by
  obtain ⟨ρ, s, k, x, rfl, er, q, p, _⟩ := h
  exact p.now q er.ok (r _)
theorem d_int {i j} : DP X E (.Constant (.int i) j pos) (dC (.int i)) := pe_mono pe_int fun _ _ _ h => up_c (fun _ => .int) h
theorem d_bl {b j} : DP X E (.Constant (.bool b) j pos) (dC (.bl b)) := pe_mono pe_bl fun _ _ _ h => up_c (fun _ => .bl) h
theorem d_non {j} : DP X E (.Constant .none j pos) (dC .non) := pe_mono pe_non fun _ _ _ h => up_c (fun _ => .non) h
theorem d_str {x j} : DP X E (.Constant (.str x) j pos) (dC (.str x)) := pe_mono pe_str fun _ _ _ h => up_c (fun _ => .str) h
/-- a module's constant -/
inductive KC : D → Value → Prop where
  | int {i t} : KC (.int i) (.int i t)
  | str {x t} : KC (.str x) (.str x t)
theorem d_glob {x : Str} {d : D} {u : Value} (hg : Gl X x) (hm : X.mg x = some u) (r : KC d u) (hd : (x == ("__debug__" : Str)) = false := by decide) : DP X E (.Name x pos) (dC d) := by
  cases r with
  | int => exact pe_mono (pe_glob (v := .int _) hg hm ⟨_, rfl⟩ hd) fun _ _ _ h => up_c (fun _ => .int) h
  | str => exact pe_mono (pe_glob (v := .str _) hg hm ⟨_, rfl⟩ hd) fun _ _ _ h => up_c (fun _ => .str) h

/-! ### operators -/
abbrev D2 := D → D → Mm → DK → DX → Prop
abbrev D1 := D → Mm → DK → DX → Prop
abbrev DN := List D → Mm → DK → DX → Prop
def r2 (K : PySem.W.Frag) (E : XK) (f : D2) : R2 := fun x y H Q => ∃ s dx dy k xx, s.H = H ∧ Ok K s ∧ Rep K s.G x dx ∧ Rep K s.G y dy ∧ f dx dy s.M k xx ∧ Post K s k Q ∧ PostX K E s xx
def r1 (K : PySem.W.Frag) (E : XK) (f : D1) : V → Hp → VK → Prop := fun x H Q => ∃ s dx k xx, s.H = H ∧ Ok K s ∧ Rep K s.G x dx ∧ f dx s.M k xx ∧ Post K s k Q ∧ PostX K E s xx
def rA (K : PySem.W.Frag) (E : XK) (f : DN) : List V → Hp → VK → Prop := fun xs H Q => ∃ s ds k xx, s.H = H ∧ Ok K s ∧ Reps K s.G xs ds ∧ f ds s.M k xx ∧ Post K s k Q ∧ PostX K E s xx
def dOp (f : D2) (τa τb : DE) : DE := fun ρ M k x => τa ρ M (fun u M1 => τb ρ M1 (fun v M2 => f u v M2 k x) x) x
def dUn (f : D1) (τa : DE) : DE := fun ρ M k x => τa ρ M (fun u M1 => f u M1 k x) x
theorem up_op {K : PySem.W.Frag} {f : D2} {τa τb : DE} {σ : L2.St} {H : Hp} {Q : VK} (h : up K E (dOp f τa τb) σ H Q) : tOp (r2 K E f) (up K E τa) (up K E τb) σ H Q := by
  obtain ⟨ρ, s, k, x, rfl, er, q, p, px⟩ := h
  refine ⟨ρ, s, _, x, rfl, er, q, fun u s1 q1 st1 ok1 v1 r1 => ?_, px⟩
  refine ⟨ρ, s1, _, x, rfl, er.step st1 ok1, q1, fun w s2 q2 st2 ok2 v2 r2 => ?_, px.step st1⟩
  exact ⟨s2, u, w, k, x, rfl, ok2, r1.same st2.same, r2, q2, p.step (st1.trans st2), px.step (st1.trans st2)⟩
theorem up_un {K : PySem.W.Frag} {f : D1} {τa : DE} {σ : L2.St} {H : Hp} {Q : VK} (h : up K E (dUn f τa) σ H Q) : tUn (r1 K E f) (up K E τa) σ H Q := by
  obtain ⟨ρ, s, k, x, rfl, er, q, p, px⟩ := h
  exact ⟨ρ, s, _, x, rfl, er, q, fun u s1 q1 st1 ok1 v1 r1 => ⟨s1, u, k, x, rfl, ok1, r1, q1, p.step st1, px.step st1⟩, px⟩
variable {τa τb τc : DE}
theorem d_op {op : Operator} {f : D2} (ho : OpR X (binaryOp op) (r2 X.K E f)) (ha : DP X E a τa) (hb : DP X E b τb) : DP X E (.BinOp a op b pos) (dOp f τa τb) := pe_mono (pe_op ho ha hb) fun _ _ _ h => up_op h
theorem d_un {op : UnaryOp} {f : D1} (ho : UnR X (unaryOp op) (r1 X.K E f)) (ha : DP X E a τa) : DP X E (.UnaryOp op a pos) (dUn f τa) := pe_mono (pe_un ho ha) fun _ _ _ h => up_un h
theorem d_cmp {op : CmpOp} {f : D2} (ho : OpR X (compareOp op) (r2 X.K E f)) (ha : DP X E a τa) (hb : DP X E b τb) (hm : behindInMarks op b = false) : DP X E (.Compare a [op] [b] pos) (dOp f τa τb) := pe_mono (pe_cmpR ho ha hb hm) fun _ _ _ h => up_op h
/-- a value that is a bool, as a test -/
def dB (τ : DE) : DT := fun ρ M k x => τ ρ M (fun u M1 => ∃ b, u = .bl b ∧ k b M1) x
section
variable {K : PySem.W.Frag} {G : Hp} {v : V}
theorem Rep.bl_of {b : Bool} (h : Rep K G v (.bl b)) : v = .bl b := by cases h; rfl
theorem Rep.int_of {b : Int} (h : Rep K G v (.int b)) : v = .int b := by cases h; rfl
theorem Rep.str_of {b : Str} (h : Rep K G v (.str b)) : v = .str b := by cases h; rfl
theorem Rep.non_of (h : Rep K G v .non) : v = .non := by cases h; rfl
theorem Rep.cel_of {a : Addr} (h : Rep K G v (.cel a)) : v = .ref a := by cases h; rfl
theorem Rep.lst_of {ds : List D} (h : Rep K G v (.lst ds)) : ∃ a vs, v = .ref a ∧ G a = some (.lst vs) ∧ Reps K G vs ds := by cases h with | lst h r => exact ⟨_, _, rfl, h, r⟩
theorem Rep.tup_of {ds : List D} (h : Rep K G v (.tup ds)) : ∃ a vs, v = .ref a ∧ SqT K G a vs ∧ Reps K G vs ds := by cases h with | tup h r => exact ⟨_, _, rfl, h, r⟩
theorem Rep.obj_of {C : Addr} {fs : List (Str × D)} (h : Rep K G v (.obj C fs)) : ∃ a dx fvs, v = .ref a ∧ G a = some (.ins C dx fvs) ∧ FRep K G fvs fs := by cases h with | obj h r => exact ⟨_, _, _, rfl, h, r⟩
theorem Reps.one {v : List V} {d : D} (h : Reps K G v [d]) : ∃ x, v = [x] ∧ Rep K G x d := by
  cases h with | cons h r => cases r; exact ⟨_, rfl, h⟩
theorem Reps.two {v : List V} {d e : D} (h : Reps K G v [d, e]) : ∃ x y, v = [x, y] ∧ Rep K G x d ∧ Rep K G y e := by
  cases h with | cons h r => cases r with | cons h' r => cases r; exact ⟨_, _, rfl, h, h'⟩
end
theorem upT_B {K : PySem.W.Frag} {τ : DE} {σ : L2.St} {H : Hp} {Q : Bool → Hp → Prop} (h : upT K E (dB τ) σ H Q) : up K E τ σ H fun x H' => ∃ k, x = .bl k ∧ Q k H' := by
  obtain ⟨ρ, s, k, x, rfl, er, q, p, px⟩ := h
  refine ⟨ρ, s, _, x, rfl, er, q, fun u s1 q1 st1 ok1 v1 r1 => ?_, px⟩
  obtain ⟨b, rfl, q1⟩ := q1
  exact ⟨b, r1.bl_of, p b s1 q1 st1 ok1⟩
theorem t_cmp {op : CmpOp} {f : D2} (ho : OpR X (compareOp op) (r2 X.K E f)) (ha : DP X E a τa) (hb : DP X E b τb) (hm : behindInMarks op b = false) : DPT X E (.Compare a [op] [b] pos) (dB (dOp f τa τb)) :=
  pt_mono (pt_cmpR ho ha hb hm) fun σ H Q h => up_op (upT_B h)
theorem t_val (h : DP X E e τa) (he : ∀ whole, isTrue e X.env whole = (do let v ← whole; standAt e.pos; holding [v] (truthy v)) := by intro _; rfl) : DPT X E e (dB τa) :=
  pt_mono (pt_val h he) fun σ H Q h => upT_B h

/-! ### and, or, not, if -/
variable {θa θb : DT} {rest : List Expr}
def dAnd (t u : DT) : DT := fun ρ M k x => t ρ M (fun c M1 => if c = true then u ρ M1 k x else k false M1) x
def dOr (t u : DT) : DT := fun ρ M k x => t ρ M (fun c M1 => if c = true then k true M1 else u ρ M1 k x) x
def dNot (t : DT) : DT := fun ρ M k x => t ρ M (fun c M1 => k (!c) M1) x
theorem w_and1 (ha : DPT X E a θa) : DPW X E (.BoolOp .And [a] pos) θa := pw_and1 ha
theorem w_or1 (ha : DPT X E a θa) : DPW X E (.BoolOp .Or [a] pos) θa := pw_or1 ha
theorem w_and (ha : DPT X E a θa) (hb : DPW X E (.BoolOp .And (b :: rest) pos) θb) : DPW X E (.BoolOp .And (a :: b :: rest) pos) (dAnd θa θb) :=
  pw_mono (pw_and ha hb) fun σ H Q h => by
    obtain ⟨ρ, s, k, x, rfl, er, q, p, px⟩ := h
    refine ⟨ρ, s, _, x, rfl, er, q, fun b s1 q1 st1 ok1 => ?_, px⟩
    cases b with
    | true =>
      rw [if_pos rfl] at q1 ⊢
      exact ⟨ρ, s1, k, x, rfl, er.step st1 ok1, q1, p.step st1, px.step st1⟩
    | false =>
      rw [if_neg Bool.false_ne_true] at q1 ⊢
      exact p false s1 q1 st1 ok1
theorem w_or (ha : DPT X E a θa) (hb : DPW X E (.BoolOp .Or (b :: rest) pos) θb) : DPW X E (.BoolOp .Or (a :: b :: rest) pos) (dOr θa θb) :=
  pw_mono (pw_or ha hb) fun σ H Q h => by
    obtain ⟨ρ, s, k, x, rfl, er, q, p, px⟩ := h
    refine ⟨ρ, s, _, x, rfl, er, q, fun b s1 q1 st1 ok1 => ?_, px⟩
    cases b with
    | true =>
      rw [if_pos rfl] at q1 ⊢
      exact p true s1 q1 st1 ok1
    | false =>
      rw [if_neg Bool.false_ne_true] at q1 ⊢
      exact ⟨ρ, s1, k, x, rfl, er.step st1 ok1, q1, p.step st1, px.step st1⟩
theorem t_not (ha : DPT X E a θa) : DPT X E (.UnaryOp .Not a pos) (dNot θa) :=
  pt_mono (pt_not ha) fun σ H Q h => by
    obtain ⟨ρ, s, k, x, rfl, er, q, p, px⟩ := h
    exact ⟨ρ, s, _, x, rfl, er, q, fun b s1 q1 st1 ok1 => p (!b) s1 q1 st1 ok1, px⟩
theorem DPW.t (h : DPW X E e θa) : DPT X E e θa := PW.pt h
/-- .. as values -/
def dAndV (ta tb : DE) : DE := fun ρ M k x => ta ρ M (fun u M1 => ∃ c, u = .bl c ∧ if c = true then tb ρ M1 k x else k (.bl false) M1) x
def dOrV (ta tb : DE) : DE := fun ρ M k x => ta ρ M (fun u M1 => ∃ c, u = .bl c ∧ if c = true then k (.bl true) M1 else tb ρ M1 k x) x
def dNotV (ta : DE) : DE := fun ρ M k x => ta ρ M (fun u M1 => ∃ c, u = .bl c ∧ k (.bl (!c)) M1) x
theorem d_one {op} (h : DP X E a τa) : DP X E (.BoolOp op [a] pos) τa := pe_one h
theorem d_and (ha : DP X E a τa) (hb : DP X E (.BoolOp .And (b :: rest) pos) τb) : DP X E (.BoolOp .And (a :: b :: rest) pos) (dAndV τa τb) :=
  pe_mono (pe_and ha hb) fun σ H Q h => by
    obtain ⟨ρ, s, k, x, rfl, er, q, p, px⟩ := h
    refine ⟨ρ, s, _, x, rfl, er, q, fun u s1 q1 st1 ok1 v1 r1 => ?_, px⟩
    obtain ⟨c, rfl, q1⟩ := q1
    refine ⟨c, r1.bl_of, ?_⟩
    cases c with
    | true =>
      rw [if_pos rfl] at q1 ⊢
      exact ⟨ρ, s1, k, x, rfl, er.step st1 ok1, q1, p.step st1, px.step st1⟩
    | false =>
      rw [if_neg Bool.false_ne_true] at q1 ⊢
      exact p _ s1 q1 st1 ok1 _ .bl
theorem d_or (ha : DP X E a τa) (hb : DP X E (.BoolOp .Or (b :: rest) pos) τb) : DP X E (.BoolOp .Or (a :: b :: rest) pos) (dOrV τa τb) :=
  pe_mono (pe_or ha hb) fun σ H Q h => by
    obtain ⟨ρ, s, k, x, rfl, er, q, p, px⟩ := h
    refine ⟨ρ, s, _, x, rfl, er, q, fun u s1 q1 st1 ok1 v1 r1 => ?_, px⟩
    obtain ⟨c, rfl, q1⟩ := q1
    refine ⟨c, r1.bl_of, ?_⟩
    cases c with
    | true =>
      rw [if_pos rfl] at q1 ⊢
      exact p _ s1 q1 st1 ok1 _ .bl
    | false =>
      rw [if_neg Bool.false_ne_true] at q1 ⊢
      exact ⟨ρ, s1, k, x, rfl, er.step st1 ok1, q1, p.step st1, px.step st1⟩
theorem d_not (ha : DP X E a τa) : DP X E (.UnaryOp .Not a pos) (dNotV τa) :=
  pe_mono (pe_not ha) fun σ H Q h => by
    obtain ⟨ρ, s, k, x, rfl, er, q, p, px⟩ := h
    refine ⟨ρ, s, _, x, rfl, er, q, fun u s1 q1 st1 ok1 v1 r1 => ?_, px⟩
    obtain ⟨c, rfl, q1⟩ := q1
    exact ⟨c, r1.bl_of, p _ s1 q1 st1 ok1 _ .bl⟩
def dIf (t : DT) (ta tb : DE) : DE := fun ρ M k x => t ρ M (fun c M1 => if c = true then ta ρ M1 k x else tb ρ M1 k x) x
theorem d_if (hc : DPT X E c θa) (ha : DP X E a τa) (hb : DP X E b τb) : DP X E (.IfExp c a b pos) (dIf θa τa τb) :=
  pe_mono (pe_ifExp hc ha hb) fun σ H Q h => by
    obtain ⟨ρ, s, k, x, rfl, er, q, p, px⟩ := h
    refine ⟨ρ, s, _, x, rfl, er, q, fun c s1 q1 st1 ok1 => ?_, px⟩
    cases c with
    | true =>
      rw [if_pos rfl] at q1 ⊢
      exact ⟨ρ, s1, k, x, rfl, er.step st1 ok1, q1, p.step st1, px.step st1⟩
    | false =>
      rw [if_neg Bool.false_ne_true] at q1 ⊢
      exact ⟨ρ, s1, k, x, rfl, er.step st1 ok1, q1, p.step st1, px.step st1⟩
/-- a < b < c -/
def dChain (f g : D2) (τa τb τc : DE) : DE := fun ρ M k x => τa ρ M (fun u M1 => τb ρ M1 (fun v M2 => f u v M2 (fun z M3 => ∃ c, z = .bl c ∧ if c = true then τc ρ M3 (fun w M4 => g v w M4 k x) x else k (.bl false) M3) x) x) x

/-! ### argument lists, displays -/
variable {es : List Expr} {αa : DA}
def dNil : DA := fun _ M k _ => k [] M
def dCons (ta : DE) (tr : DA) : DA := fun ρ M k x => ta ρ M (fun u M1 => tr ρ M1 (fun us M2 => k (u :: us) M2) x) x
theorem a_nil : DPA X E [] dNil := pa_mono pa_nil fun σ H Q h => by
  obtain ⟨ρ, s, k, x, rfl, er, q, p, px⟩ := h
  exact p [] s q (Step.refl s) er.ok [] .nil
theorem a_cons (ha : DP X E e τa) (hr : DPA X E es αa) (hs : starEach (e :: es) X.env = (false, eval e X.env) :: starEach es X.env := by rfl) : DPA X E (e :: es) (dCons τa αa) :=
  pa_mono (pa_cons ha hr hs) fun σ H Q h => by
    obtain ⟨ρ, s, k, x, rfl, er, q, p, px⟩ := h
    refine ⟨ρ, s, _, x, rfl, er, q, fun u s1 q1 st1 ok1 v1 r1 => ?_, px⟩
    refine ⟨ρ, s1, _, x, rfl, er.step st1 ok1, q1, fun us s2 q2 st2 ok2 vs r2 => ?_, px.step st1⟩
    exact p _ s2 q2 (st1.trans st2) ok2 _ (.cons (r1.same st2.same) r2)
def dTup (t : DA) : DE := fun ρ M k x => t ρ M (fun xs M1 => xs.length ≤ sizeLine ∧ k (.tup xs) M1) x
def dLst (t : DA) : DE := fun ρ M k x => t ρ M (fun xs M1 => xs.length ≤ sizeLine ∧ k (.lst xs) M1) x
/-- a list that changes -/
def dLstM (t : DA) : DE := fun ρ M k x => t ρ M (fun xs M1 => xs.length ≤ sizeLine ∧ ∀ p, M1 p = none → k (.cel p) (mup M1 p (.lst xs))) x
section
variable {K : PySem.W.Frag} {s : Sta} {k : DK} {Q : VK} {xs : List V} {ds : List D} {q : Addr}
theorem Post.tup (p : Post K s k Q) (h : k (.tup ds) s.M) (o : Ok K s) (r : Reps K s.G xs ds) (hq : s.H q = none) : Q (.ref q) (upd s.H q (.tup xs)) := by
  obtain ⟨a, b⟩ := o.new (o := .tup xs) hq
  exact p _ ⟨upd s.H q (.tup xs), upd s.G q (.tup xs), s.M⟩ h b a _ (.tup (SqT.of upd_same) (r.same b.same))
theorem Post.lst (p : Post K s k Q) (h : k (.lst ds) s.M) (o : Ok K s) (r : Reps K s.G xs ds) (hq : s.H q = none) : Q (.ref q) (upd s.H q (.lst xs)) := by
  obtain ⟨a, b⟩ := o.new (o := .lst xs) hq
  exact p _ ⟨upd s.H q (.lst xs), upd s.G q (.lst xs), s.M⟩ h b a _ (.lst upd_same (r.same b.same))
theorem Post.lstM (p : Post K s k Q) (h : ∀ p, s.M p = none → k (.cel p) (mup s.M p (.lst ds))) (o : Ok K s) (r : Reps K s.G xs ds) (hq : s.H q = none) : Q (.ref q) (upd s.H q (.lst xs)) := by
  obtain ⟨a, b⟩ := o.newM (o := .lst xs) (mo := .lst ds) hq ⟨xs, rfl, r⟩
  exact p _ ⟨upd s.H q (.lst xs), s.G, mup s.M q (.lst ds)⟩ (h q (o.freeM hq)) b a _ .cel
end
theorem d_tup {x1} (h : DPA X E es αa) : DP X E (.Tuple es x1 pos) (dTup αa) :=
  pe_mono (pe_tup h) fun σ H Q h => by
    obtain ⟨ρ, s, k, x, rfl, er, q, p, px⟩ := h
    refine ⟨ρ, s, _, x, rfl, er, q, fun us s1 q1 st1 ok1 vs r1 => ?_, px⟩
    exact ⟨by rw [r1.length]; exact q1.1, fun t ht => (p.step st1).tup q1.2 ok1 r1 ht⟩
theorem d_lst (h : DPA X E es αa) : DP X E (.List es pos) (dLst αa) :=
  pe_mono (pe_lst h) fun σ H Q h => by
    obtain ⟨ρ, s, k, x, rfl, er, q, p, px⟩ := h
    refine ⟨ρ, s, _, x, rfl, er, q, fun us s1 q1 st1 ok1 vs r1 => ?_, px⟩
    exact ⟨by rw [r1.length]; exact q1.1, fun t ht => (p.step st1).lst q1.2 ok1 r1 ht⟩
theorem d_lstM (h : DPA X E es αa) : DP X E (.List es pos) (dLstM αa) :=
  pe_mono (pe_lst h) fun σ H Q h => by
    obtain ⟨ρ, s, k, x, rfl, er, q, p, px⟩ := h
    refine ⟨ρ, s, _, x, rfl, er, q, fun us s1 q1 st1 ok1 vs r1 => ?_, px⟩
    exact ⟨by rw [r1.length]; exact q1.1, fun t ht => (p.step st1).lstM q1.2 ok1 r1 ht⟩

/-! ### calls of built-ins -/
def dCB (f : DN) (t : DA) : DE := fun ρ M k x => t ρ M (fun ds M1 => f ds M1 k x) x
theorem up_cb {K : PySem.W.Frag} {f : DN} {σ : L2.St} {H : Hp} {Q : VK} (h : up K E (dCB f αa) σ H Q) : tCB (rA K E f) (upA K E αa) σ H Q := by
  obtain ⟨ρ, s, k, x, rfl, er, q, p, px⟩ := h
  exact ⟨ρ, s, _, x, rfl, er, q, fun us s1 q1 st1 ok1 vs r1 => ⟨s1, us, k, x, rfl, ok1, r1, q1, p.step st1, px.step st1⟩, px⟩
theorem d_callB {id : String} {x : Str} {p : Pos} {f : DN} (hc : CallR X (.builtin id) (rA X.K E f)) (hg : Gl X x) (hm : X.mg x = none) (hv : bootBuiltins x = some (.builtin id)) (ha : DPA X E (e :: es) αa) (hn : x ≠ "__name__" := by decide) (hdb : (x == ("__debug__" : Str)) = false := by decide) (hs : starEach (e :: es) X.env = (false, eval e X.env) :: starEach es X.env := by rfl) (hpl : (backTo pos (starEach es X.env)).any (·.1) = false := by rfl) :
    DP X E (.Call (.Name x p) (e :: es) [] pos) (dCB f αa) := pe_mono (pe_callB hc hg hm hv ha hn hdb hs hpl) fun _ _ _ h => up_cb h
theorem d_callTy {T : String} {x : Str} {p : Pos} {f : DN} (hc : CallR X (.type T) (rA X.K E f)) (hg : Gl X x) (hm : X.mg x = none) (hv : bootBuiltins x = some (.type T)) (ha : DPA X E (e :: es) αa) (hn : x ≠ "__name__" := by decide) (hdb : (x == ("__debug__" : Str)) = false := by decide) (hs : starEach (e :: es) X.env = (false, eval e X.env) :: starEach es X.env := by rfl) (hpl : (backTo pos (starEach es X.env)).any (·.1) = false := by rfl) :
    DP X E (.Call (.Name x p) (e :: es) [] pos) (dCB f αa) := pe_mono (pe_callTy hc hg hm hv ha hn hdb hs hpl) fun _ _ _ h => up_cb h

/-! ### statements -/
variable {st : Stmt} {sts : List Stmt} {τs τt : DS}
def dNext : DS := fun k _ ρ M => k.nx ρ M
def dSeq (t u : DS) : DS := fun k x ρ M => t { k with nx := u k x } x ρ M
theorem b_nil : DPB X E [] dNext := pss_mono pss_nil fun D σ H h => by
  obtain ⟨ρ, s, k, x, rfl, er, q, p, px⟩ := h
  exact p.nx ρ s q (Step.refl s) σ er
theorem b_cons (h1 : DPS X E st τs) (h2 : DPB X E sts τt) : DPB X E (st :: sts) (dSeq τs τt) := pss_mono (pss_cons h1 h2) fun D σ H h => by
  obtain ⟨ρ, s, k, x, rfl, er, q, p, px⟩ := h
  refine ⟨ρ, s, _, x, rfl, er, q, ⟨fun ρ1 s1 q1 st1 σ1 er1 => ?_, p.rt, p.bk, p.ct⟩, px⟩
  exact ⟨ρ1, s1, k, x, rfl, er1, q1, p.step st1, px.step st1⟩
theorem b_one (h1 : DPS X E st τs) : DPB X E [st] τs := pss_one h1
theorem s_pass : DPS X E (.Pass pos) dNext := ps_mono ps_pass fun D σ H h => by
  obtain ⟨ρ, s, k, x, rfl, er, q, p, px⟩ := h
  exact p.nx ρ s q (Step.refl s) σ er
def dBrk : DS := fun k _ ρ M => k.bk ρ M
theorem s_break : DPS X E (.Break pos) dBrk := ps_mono ps_break fun D σ H h => by
  obtain ⟨ρ, s, k, x, rfl, er, q, p, px⟩ := h
  exact p.bk ρ s q (Step.refl s) σ er
def dCont : DS := fun k _ ρ M => k.ct ρ M
theorem s_continue : DPS X E (.Continue pos) dCont := ps_mono ps_continue fun D σ H h => by
  obtain ⟨ρ, s, k, x, rfl, er, q, p, px⟩ := h
  exact p.ct ρ s q (Step.refl s) σ er
def dDrop (τ : DE) : DS := fun k x ρ M => τ ρ M (fun _ M1 => k.nx ρ M1) x
theorem s_expr (he : DP X E e τa) (hs : swapsWith e none pos.line X.env = pure false := by rfl) : DPS X E (.Expr e pos) (dDrop τa) := ps_mono (ps_expr he hs) fun D σ H h => by
  obtain ⟨ρ, s, k, x, rfl, er, q, p, px⟩ := h
  exact ⟨ρ, s, _, x, rfl, er, q, fun u s1 q1 st1 ok1 v1 r1 => p.nx ρ s1 q1 st1 σ (er.step st1 ok1), px⟩
def dRet (τ : DE) : DS := fun k x ρ M => τ ρ M k.rt x
theorem s_ret (he : DP X E e τa) : DPS X E (.Return (some e) pos) (dRet τa) := ps_mono (ps_ret he) fun D σ H h => by
  obtain ⟨ρ, s, k, x, rfl, er, q, p, px⟩ := h
  obtain ⟨b, sb, ob, mb, pb⟩ := p.rt
  exact ⟨ρ, s, k.rt, x, rfl, er, q, pb.step sb, px⟩
/-- a changing list, as it is from now on, given back -/
def dRetZ (τ : DE) : DS := fun k x ρ M => τ ρ M (fun u M1 => ∃ a ds, u = .cel a ∧ M1 a = some (.lst ds) ∧ k.m0 a = none ∧ k.rt (.lst ds) (mdel M1 a)) x
theorem s_retZ (he : DP X E e τa) : DPS X E (.Return (some e) pos) (dRetZ τa) := ps_mono (ps_ret he) fun D σ H h => by
  obtain ⟨ρ, s, k, x, rfl, er, q, p, px⟩ := h
  obtain ⟨b, sb, ob, mb, pb⟩ := p.rt
  refine ⟨ρ, s, _, x, rfl, er, q, fun u s1 q1 st1 ok1 v1 r1 => ?_, px⟩
  obtain ⟨a, ds, rfl, hm, h0, q1⟩ := q1
  have hv := r1.cel_of
  subst hv
  obtain ⟨vs, ho, rs⟩ := ok1.cells _ _ hm
  have st : Step b s1 := sb.trans st1
  have bm : b.M a = none := by rw [mb]; exact h0
  have bh : b.H a = none := by
    cases eh : b.H a with
    | none => rfl
    | some o =>
      cases eg : b.G a with
      | none =>
        have z := (st.hid a o eh eg bm).2.2
        rw [hm] at z
        cases z
      | some u =>
        have z := st.same a u eg
        rw [ok1.apart _ _ hm] at z
        cases z
  obtain ⟨k2, st2, sm⟩ := ok1.freeze st bh bm (by rw [hm]; rfl) ho
  exact pb _ ⟨s1.H, upd s1.G a (.lst vs), mdel s1.M a⟩ q1 st2 k2 _ (.lst upd_same (rs.same sm))
def dRetN : DS := fun k _ _ M => k.rt .non M
theorem s_retN : DPS X E (.Return none pos) dRetN := ps_mono ps_retN fun D σ H h => by
  obtain ⟨ρ, s, k, x, rfl, er, q, p, px⟩ := h
  obtain ⟨b, sb, ob, mb, pb⟩ := p.rt
  exact pb _ s q sb er.ok _ .non
def dIfS (c : DT) (t u : DS) : DS := fun k x ρ M => c ρ M (fun b M1 => if b = true then t k x ρ M1 else u k x ρ M1) x
theorem s_if {sa sb : List Stmt} (hc : DPT X E c θa) (ha : DPB X E sa τs) (hb : DPB X E sb τt) : DPS X E (.If c sa sb pos) (dIfS θa τs τt) := ps_mono (ps_if hc ha hb) fun D σ H h => by
  obtain ⟨ρ, s, k, x, rfl, er, q, p, px⟩ := h
  refine ⟨ρ, s, _, x, rfl, er, q, fun c s1 q1 st1 ok1 => ?_, px⟩
  cases c with
  | true =>
    rw [if_pos rfl] at q1 ⊢
    exact ⟨ρ, s1, k, x, rfl, er.step st1 ok1, q1, p.step st1, px.step st1⟩
  | false =>
    rw [if_neg Bool.false_ne_true] at q1 ⊢
    exact ⟨ρ, s1, k, x, rfl, er.step st1 ok1, q1, p.step st1, px.step st1⟩
/-- code that is never come to -/
def dNever : DS := fun _ _ _ _ => False
theorem s_never : DPS X E st dNever := ps_mono ps_never fun D σ H h => by
  obtain ⟨ρ, s, k, x, rfl, er, q, p, px⟩ := h
  exact q
theorem b_never : DPB X E sts dNever := pss_mono pss_never fun D σ H h => by
  obtain ⟨ρ, s, k, x, rfl, er, q, p, px⟩ := h
  exact q
/-- name = value -/
def dSet (i : Nat) (τ : DE) : DS := fun k x ρ M => τ ρ M (fun u M1 => k.nx (ρ.set i (some u)) M1) x
theorem s_set {i : Nat} {x : Str} {pos' : Pos} (hN : X.N.Nodup) (hi : X.N[i]? = some x) (hx : Loc X.env.scope x) (he : DP X E e τa) (hs : swapsWith e (some (.Name x pos')) pos.line X.env = pure false := by rfl) (hf : X.fn x = true ∨ X.env.scope.names.lookup x = some .local := by first | exact .inl rfl | exact .inr rfl | assumption) :
    DPS X E (.Assign [.Name x pos'] e pos) (dSet i τa) := ps_mono (ps_set hN hi hx he hs hf) fun D σ H h => by
  obtain ⟨ρ, s, k, x, rfl, er, q, p, px⟩ := h
  exact ⟨ρ, s, _, x, rfl, er, q, fun u s1 q1 st1 ok1 v1 r1 => p.nx _ s1 q1 st1 _ ((er.step st1 ok1).set i r1), px⟩
/-- a, b = x, y -/
def dPar (i j : Nat) (α : DA) : DS := fun k x ρ M => α ρ M (fun us M1 => ∃ u v, us = [u, v] ∧ k.nx ((ρ.set i (some u)).set j (some v)) M1) x
theorem s_par {i j : Nat} {x y : Str} {px py pt : Pos} {kt k2 pt2} (hc : X.calm = true) (hN : X.N.Nodup) (hi : X.N[i]? = some x) (hj : X.N[j]? = some y) (hij : i ≠ j)
    (hx : X.env.scope.names.lookup x = some .local) (hy : X.env.scope.names.lookup y = some .local) (ha : DPA X E [a, b] αa)
    (hw : swappedStores [.Tuple [.Name x px, .Name y py] kt pt] (.Tuple [a, b] k2 pt2) X.env = pure (some [x, y]))
    (hs : swapsWithSole [.Tuple [.Name x px, .Name y py] kt pt] (.Tuple [a, b] k2 pt2) pos.line X.env = pure false := by rfl) :
    DPS X E (.Assign [.Tuple [.Name x px, .Name y py] kt pt] (.Tuple [a, b] k2 pt2) pos) (dPar i j αa) := ps_mono (ps_par hc hN hi hj hij hx hy ha hw hs) fun D σ H h => by
  obtain ⟨ρ, s, k, x, rfl, er, q, p, px⟩ := h
  refine ⟨ρ, s, _, x, rfl, er, q, fun us s1 q1 st1 ok1 vs r1 => ?_, px⟩
  obtain ⟨u, v, rfl, q1⟩ := q1
  obtain ⟨u', v', rfl, ru, rv⟩ := r1.two
  exact ⟨u', v', rfl, p.nx _ s1 q1 st1 _ (((er.step st1 ok1).set i ru).set j rv)⟩
end
end DL
set_option Elab.async false
set_option linter.all false
set_option maxRecDepth 100000
set_option maxHeartbeats 2000000
namespace DL
open PySem PySem.Spec PyProof.Rows L2

/-! ### what is walked -/
/-- J gives the data ds, one by one, in s and whatever follows it -/
structure ItD (K : PySem.W.Frag) (s : Sta) (J : It) (ds : List D) : Prop where
  go : ∀ (i : Nat) (t : Sta), Step s t → Ok K t → i < ds.length → J.go i t.H
  stop : ∀ (t : Sta), Step s t → Ok K t → J.stop ds.length t.H
  yld : ∀ (i : Nat) (t : Sta) (x : V) (H' : Hp), Step s t → Ok K t → J.yld i t.H x H' → ∀ d, ds[i]? = some d → ∃ u : Sta, u.H = H' ∧ u.M = t.M ∧ Step t u ∧ Ok K u ∧ Rep K u.G x d
abbrev DI := DEnv → Mm → DKA → DX → Prop
def upI (K : PySem.W.Frag) (E : XK) (ι : DI) : TI := fun σ H R => ∃ ρ s k x, s.H = H ∧ ER K s σ ρ ∧ ι ρ s.M k x ∧ PostX K E s x ∧ ∀ (ds : List D) (t : Sta), k ds t.M → Step s t → Ok K t → ∀ J, ItD K t J ds → R J t.H
def DPI (X : Cx) (E : XK) (tg iter : Expr) (ι : DI) : Prop := PI X tg iter (upI X.K E ι)
section
variable {X : Cx} {E : XK} {e a b c : Expr} {pos : Pos} {tg iter : Expr} {τa τb : DE} {αa : DA}
theorem pi_mono {t t' : TI} (h : PI X tg iter t) (m : ∀ σ H R, t' σ H R → t σ H R) : PI X tg iter t' := ⟨fun pins s σ H R I q => h.run pins s σ H R I (m σ H R q)⟩
theorem itD_list {K : PySem.W.Frag} {s : Sta} {l : Addr} {vs : List V} {ds : List D} (h : s.G l = some (.lst vs)) (r : Reps K s.G vs ds) : ItD K s (Itl K l) ds := by
  have at_ : ∀ t, Step s t → Ok K t → SqL K t.H l vs := fun t st ok => SqL.of (ok.sub _ _ (st.same _ _ h))
  have hl := r.length
  refine ⟨fun i t st ok hi => ?_, fun t st ok => ⟨vs, at_ t st ok, by omega⟩, fun i t x H' st ok y d hd => ?_⟩
  · exact ⟨vs, vs[i]'(by omega), at_ t st ok, by simp [hl ▸ hi]⟩
  · obtain ⟨v, hv, rv⟩ := r.get hd
    have q := y.2 vs (at_ t st ok)
    rw [hv] at q
    cases q
    exact ⟨t, y.1.symm, rfl, Step.refl t, ok, rv.same st.same⟩
theorem itD_tup {K : PySem.W.Frag} {s : Sta} {l : Addr} {vs : List V} {ds : List D} (h : SqT K s.G l vs) (r : Reps K s.G vs ds) : ItD K s (Itt K l) ds := by
  have at_ : ∀ t, Step s t → Ok K t → SqT K t.H l vs := fun t st ok => Same.seqT ok.sub (Same.seqT st.same h)
  have hl := r.length
  refine ⟨fun i t st ok hi => ?_, fun t st ok => ⟨vs, at_ t st ok, by omega⟩, fun i t x H' st ok y d hd => ?_⟩
  · exact ⟨vs, vs[i]'(by omega), at_ t st ok, by simp [hl ▸ hi]⟩
  · obtain ⟨v, hv, rv⟩ := r.get hd
    have q := y.2 vs (at_ t st ok)
    rw [hv] at q
    cases q
    exact ⟨t, y.1.symm, rfl, Step.refl t, ok, rv.same st.same⟩
/-- a text's signs -/
def signs (x : Str) : List D := x.cps.toList.map fun c => D.str ⟨#[c]⟩
theorem itD_str {K : PySem.W.Frag} {s : Sta} (x : Str) : ItD K s (Its x) (signs x) := by
  have hl : (signs x).length = x.cps.size := by unfold signs; simp
  refine ⟨fun i t st ok hi => by rw [hl] at hi; exact hi, fun t st ok => by rw [hl]; exact Nat.le_refl _, fun i t v H' st ok y d hd => ?_⟩
  obtain ⟨e, c, hc, rfl⟩ := y
  have q : d = D.str ⟨#[c]⟩ := by
    unfold signs at hd
    rw [List.getElem?_map] at hd
    have : x.cps.toList[i]? = some c := by simpa using hc
    rw [this] at hd
    exact (Option.some.inj hd).symm
  subst q
  exact ⟨t, e.symm, rfl, Step.refl t, ok, .str⟩
def upto (lo : Int) (n : Nat) : List D := (List.range n).map fun i => D.int (lo + (i : Nat))
theorem upto_length (lo : Int) (n : Nat) : (upto lo n).length = n := by unfold upto; simp
theorem upto_get {lo : Int} {n i : Nat} {d : D} (h : (upto lo n)[i]? = some d) : i < n ∧ d = .int (lo + i) := by
  unfold upto at h
  rw [List.getElem?_map] at h
  by_cases hi : i < n
  · rw [List.getElem?_range hi] at h
    exact ⟨hi, (Option.some.inj h).symm⟩
  · rw [List.getElem?_eq_none (by simpa using hi)] at h
    cases h
theorem itD_range {K : PySem.W.Frag} {s : Sta} (lo : Int) (n : Nat) : ItD K s (Itr lo n) (upto lo n) := by
  refine ⟨fun i t st ok hi => by rw [upto_length] at hi; exact hi, fun t st ok => by rw [upto_length]; exact Nat.le_refl _, fun i t v H' st ok y d hd => ?_⟩
  obtain ⟨e, rfl⟩ := y
  obtain ⟨_, rfl⟩ := upto_get hd
  exact ⟨t, e.symm, rfl, Step.refl t, ok, .int⟩
/-- pairs of two lists -/
def zips : List D → List D → List D
  | x :: xs, y :: ys => .tup [x, y] :: zips xs ys
  | _, _ => []
theorem zips_get : ∀ {xs ys : List D} {i : Nat} {d : D}, (zips xs ys)[i]? = some d → ∃ x y, xs[i]? = some x ∧ ys[i]? = some y ∧ d = .tup [x, y]
  | [], _, _, _, h => by simp [zips] at h
  | _ :: _, [], _, _, h => by simp [zips] at h
  | x :: xs, y :: ys, 0, d, h => by simp [zips] at h; exact ⟨x, y, rfl, rfl, h.symm⟩
  | x :: xs, y :: ys, i + 1, d, h => by
    obtain ⟨u, v, h1, h2, h3⟩ := zips_get (xs := xs) (ys := ys) (i := i) (d := d) (by simpa [zips] using h)
    exact ⟨u, v, by simpa using h1, by simpa using h2, h3⟩
theorem zips_length : ∀ (xs ys : List D), (zips xs ys).length = min xs.length ys.length
  | [], _ => by simp [zips]
  | _ :: _, [] => by simp [zips]
  | x :: xs, y :: ys => by simp [zips, zips_length xs ys]
theorem yld_pair {K : PySem.W.Frag} {t : Sta} {T : Addr} {x y : V} {d e : D} (ok : Ok K t) (hT : t.H T = none) (rx : Rep K t.G x d) (ry : Rep K t.G y e) :
    ∃ u : Sta, u.H = upd t.H T (.tup [x, y]) ∧ u.M = t.M ∧ Step t u ∧ Ok K u ∧ Rep K u.G (.ref T) (.tup [d, e]) := by
  obtain ⟨k, st⟩ := ok.new (o := .tup [x, y]) hT
  exact ⟨⟨_, _, _⟩, rfl, rfl, st, k, .tup (SqT.of upd_same) (.cons (rx.same st.same) (.cons (ry.same st.same) .nil))⟩
theorem itD_zipL {K : PySem.W.Frag} {s : Sta} {l m : Addr} {vs us : List V} {ds es : List D} (h : s.G l = some (.lst vs)) (h' : s.G m = some (.lst us)) (r : Reps K s.G vs ds) (r' : Reps K s.G us es) : ItD K s (Itz K l m) (zips ds es) := by
  have at1 : ∀ t, Step s t → Ok K t → SqL K t.H l vs := fun t st ok => SqL.of (ok.sub _ _ (st.same _ _ h))
  have at2 : ∀ t, Step s t → Ok K t → SqL K t.H m us := fun t st ok => SqL.of (ok.sub _ _ (st.same _ _ h'))
  have hl := r.length
  have hl' := r'.length
  refine ⟨fun i t st ok hi => ?_, fun t st ok => ⟨vs, us, at1 t st ok, at2 t st ok, ?_⟩, fun i t x H' st ok y d hd => ?_⟩
  · rw [zips_length] at hi
    exact ⟨vs, us, vs[i]'(by omega), us[i]'(by omega), at1 t st ok, at2 t st ok, by simp, by simp⟩
  · rw [zips_length]; omega
  · obtain ⟨d1, d2, e1, e2, rfl⟩ := zips_get hd
    obtain ⟨T, x1, x2, rfl, hT, rfl, y1, y2⟩ := y
    obtain ⟨v1, w1, p1⟩ := r.get e1
    obtain ⟨v2, w2, p2⟩ := r'.get e2
    have q1 := y1 vs (at1 t st ok)
    have q2 := y2 us (at2 t st ok)
    rw [w1] at q1
    rw [w2] at q2
    cases q1
    cases q2
    exact yld_pair ok hT (p1.same st.same) (p2.same st.same)
theorem itD_zipT {K : PySem.W.Frag} {s : Sta} {l m : Addr} {vs us : List V} {ds es : List D} (h : SqT K s.G l vs) (h' : SqT K s.G m us) (r : Reps K s.G vs ds) (r' : Reps K s.G us es) : ItD K s (RZ.ItzT K l m) (zips ds es) := by
  have at1 : ∀ t, Step s t → Ok K t → SqT K t.H l vs := fun t st ok => Same.seqT ok.sub (Same.seqT st.same h)
  have at2 : ∀ t, Step s t → Ok K t → SqT K t.H m us := fun t st ok => Same.seqT ok.sub (Same.seqT st.same h')
  have hl := r.length
  have hl' := r'.length
  refine ⟨fun i t st ok hi => ?_, fun t st ok => ⟨vs, us, at1 t st ok, at2 t st ok, ?_⟩, fun i t x H' st ok y d hd => ?_⟩
  · rw [zips_length] at hi
    exact ⟨vs, us, vs[i]'(by omega), us[i]'(by omega), at1 t st ok, at2 t st ok, by simp, by simp⟩
  · rw [zips_length]; omega
  · obtain ⟨d1, d2, e1, e2, rfl⟩ := zips_get hd
    obtain ⟨T, x1, x2, rfl, hT, rfl, y1, y2⟩ := y
    obtain ⟨v1, w1, p1⟩ := r.get e1
    obtain ⟨v2, w2, p2⟩ := r'.get e2
    have q1 := y1 vs (at1 t st ok)
    have q2 := y2 us (at2 t st ok)
    rw [w1] at q1
    rw [w2] at q2
    cases q1
    cases q2
    exact yld_pair ok hT (p1.same st.same) (p2.same st.same)

/-- what a walked value gives -/
def dItems : D → DKA → Mm → Prop
  | .lst ds, k, M => k ds M
  | .tup ds, k, M => k ds M
  | .str x, k, M => k (signs x) M
  | _, _, _ => False
def iSeq (τ : DE) : DI := fun ρ M k x => τ ρ M (fun u M1 => dItems u k M1) x
theorem i_seq (he : DP X E e τa) : DPI X E tg e (iSeq τa) := by
  refine ⟨fun pins s σ H R I h => ?_⟩
  obtain ⟨ρ, s0, k, x, rfl, er, q, px, p⟩ := h
  refine thn (he.run pins s σ s0.H (fun v H1 => ∃ d t, t.H = H1 ∧ Step s0 t ∧ Ok X.K t ∧ Rep X.K t.G v d ∧ dItems d k t.M) I ⟨ρ, s0, _, x, rfl, er, q, fun d t q1 st1 ok1 v1 r1 => ⟨d, t, rfl, st1, ok1, r1, q1⟩, px⟩) fun v s1 ⟨y, H1, I1, r1, d, t, eH, st, ok, rd, q1⟩ => ?_
  subst eH
  cases rd with
  | lst ha rs =>
    rename_i a vs ds
    cases r1
    have hq : SqL X.K t.H a vs := SqL.of (ok.sub _ _ ha)
    obtain ⟨its, rv, pl, hz⟩ := I1.list hq
    refine wpAny_pyIter_list pl.isList ?_
    refine ⟨s1.heap.objs.size, [s1.heap.objs.size], _, _, t.H, rfl, I1.kept (t' := s1.toks) fun b o e => Heap.get?_push_of_some _ e, turn_list a _, ⟨_, Heap.get?_push_size _ rfl, rfl, rfl⟩, fun b hb => ?_, p ds t q1 st ok _ (itD_list ha rs)⟩
    have e : b = s1.heap.objs.size := by simpa using hb
    subst e
    exact I1.fpOk (Nat.le_refl _) (I1.hok.fresh (Nat.le_refl _))
  | tup ha rs =>
    rename_i a vs ds
    cases r1
    have hq : SqT X.K t.H a vs := (Same.seqT ok.sub ha)
    obtain ⟨its, rv, pl, hz⟩ := I1.tuple hq
    refine wpAny_pyIter_tuple (show s1.heap.IsTuple a its.toArray from pl) ?_
    refine ⟨s1.heap.objs.size, [s1.heap.objs.size], _, _, t.H, rfl, I1.kept (t' := s1.toks) fun b o e => Heap.get?_push_of_some _ e, turn_tuple a _, ⟨_, Heap.get?_push_size _ rfl, rfl, rfl⟩, fun b hb => ?_, p ds t q1 st ok _ (itD_tup ha rs)⟩
    have e : b = s1.heap.objs.size := by simpa using hb
    subst e
    exact I1.fpOk (Nat.le_refl _) (I1.hok.fresh (Nat.le_refl _))
  | str =>
    rename_i z
    obtain ⟨tt, rfl⟩ := r1
    have q2 := p (signs z) t q1 st ok _ (itD_str z)
    cases ha : z.cps.all (· < 128)
    · exact wpAny_pyIter_wide ha (pi_one (tk := s1.toks) I1 _ (turn_str _ z tt "str_iterator" (.inr rfl)) ⟨_, Heap.get?_push_size _ rfl, rfl, rfl⟩ q2)
    · exact wpAny_pyIter_ascii ha (pi_one (tk := s1.toks) I1 _ (turn_str _ z tt "str_ascii_iterator" (.inl rfl)) ⟨_, Heap.get?_push_size _ rfl, rfl, rfl⟩ q2)
  | _ => exact q1.elim
def iRange1 (α : DA) : DI := fun ρ M k x => α ρ M (fun us M1 => ∃ j : Int, us = [.int j] ∧ -(2 ^ 62) ≤ j ∧ j < 2 ^ 62 ∧ k (upto 0 j.toNat) M1) x
theorem i_range1 {p : Pos} (hg : Gl X "range") (hm : X.mg "range" = none) (ha : DPA X E [a] αa) (hs : starEach [a] X.env = [(false, eval a X.env)] := by rfl) : DPI X E tg (.Call (.Name "range" p) [a] [] pos) (iRange1 αa) :=
  pi_mono (pi_range1 hg hm ha hs) fun σ H R h => by
    obtain ⟨ρ, s, k, x, rfl, er, q, px, p⟩ := h
    refine ⟨ρ, s, _, x, rfl, er, q, fun us s1 q1 st1 ok1 vs r1 => ?_, px⟩
    obtain ⟨j, rfl, h1, h2, q1⟩ := q1
    obtain ⟨v, rfl, rv⟩ := r1.one
    exact ⟨j, by rw [rv.int_of], h1, h2, p _ s1 q1 st1 ok1 _ (itD_range 0 j.toNat)⟩
def iRange2 (α : DA) : DI := fun ρ M k x => α ρ M (fun us M1 => ∃ i j : Int, us = [.int i, .int j] ∧ (-(2 ^ 62) ≤ i ∧ i < 2 ^ 62 ∧ -(2 ^ 62) ≤ j ∧ j < 2 ^ 62) ∧ k (upto i (j - i).toNat) M1) x
theorem i_range2 {p : Pos} (hg : Gl X "range") (hm : X.mg "range" = none) (ha : DPA X E [a, b] αa) (hs : starEach [a, b] X.env = [(false, eval a X.env), (false, eval b X.env)] := by rfl) (hs2 : starEach [b] X.env = [(false, eval b X.env)] := by rfl) : DPI X E tg (.Call (.Name "range" p) [a, b] [] pos) (iRange2 αa) :=
  pi_mono (pi_range2 hg hm ha hs hs2) fun σ H R h => by
    obtain ⟨ρ, s, k, x, rfl, er, q, px, p⟩ := h
    refine ⟨ρ, s, _, x, rfl, er, q, fun us s1 q1 st1 ok1 vs r1 => ?_, px⟩
    obtain ⟨i, j, rfl, h1, q1⟩ := q1
    obtain ⟨v, w, rfl, rv, rw'⟩ := r1.two
    exact ⟨i, j, by rw [rv.int_of, rw'.int_of], h1, p _ s1 q1 st1 ok1 _ (itD_range i (j - i).toNat)⟩
def dZip : List D → DKA → Mm → Prop
  | [.lst a, .lst b], k, M => k (zips a b) M
  | [.tup a, .tup b], k, M => k (zips a b) M
  | _, _, _ => False
def iZip (α : DA) : DI := fun ρ M k x => α ρ M (fun us M1 => dZip us k M1) x
theorem i_zip {p tpos : Pos} {elts : List Expr} {kk : Nat} (hg : Gl X "zip") (hm : X.mg "zip" = none) (ha : DPA X E [a, b] αa) (hs : starEach [a, b] X.env = (false, eval a X.env) :: starEach [b] X.env := by rfl) (hpl : (backTo pos (starEach [b] X.env)).any (·.1) = false := by rfl) :
    DPI X E (.Tuple elts kk tpos) (.Call (.Name "zip" p) [a, b] [] pos) (iZip αa) :=
  pi_mono (RZ.pi_zipA hg hm ha hs hpl) fun σ H R h => by
    obtain ⟨ρ, s, k, x, rfl, er, q, px, p⟩ := h
    refine ⟨ρ, s, _, x, rfl, er, q, fun us s1 q1 st1 ok1 vs r1 => ?_, px⟩
    change dZip us k s1.M at q1
    unfold dZip at q1
    split at q1
    · obtain ⟨v, w, rfl, rv, rw'⟩ := r1.two
      obtain ⟨c, vs, rfl, hc, rs⟩ := rv.lst_of
      obtain ⟨d, ws, rfl, hd, rt⟩ := rw'.lst_of
      exact ⟨c, d, vs, ws, rfl, .inl ⟨SqL.of (ok1.sub _ _ hc), SqL.of (ok1.sub _ _ hd), p _ s1 q1 st1 ok1 _ (itD_zipL hc hd rs rt)⟩⟩
    · obtain ⟨v, w, rfl, rv, rw'⟩ := r1.two
      obtain ⟨c, vs, rfl, hc, rs⟩ := rv.tup_of
      obtain ⟨d, ws, rfl, hd, rt⟩ := rw'.tup_of
      exact ⟨c, d, vs, ws, rfl, .inr ⟨(Same.seqT ok1.sub hc), (Same.seqT ok1.sub hd), p _ s1 q1 st1 ok1 _ (itD_zipT hc hd rs rt)⟩⟩
    · exact q1.elim

/-! ### targets -/
abbrev DG := D → DEnv → Mm → (DEnv → Mm → Prop) → Prop
abbrev DGs := List D → DEnv → Mm → (DEnv → Mm → Prop) → Prop
def upG (K : PySem.W.Frag) (g : DG) : TG := fun v σ H Q => ∃ d ρ s k, s.H = H ∧ ER K s σ ρ ∧ Rep K s.G v d ∧ g d ρ s.M k ∧ PostN K s k Q
def upGs (K : PySem.W.Frag) (g : DGs) : TGs := fun vs σ H Q => ∃ ds ρ s k, s.H = H ∧ ER K s σ ρ ∧ Reps K s.G vs ds ∧ g ds ρ s.M k ∧ PostN K s k Q
def DPG (X : Cx) (tg : Expr) (g : DG) : Prop := PG X tg (upG X.K g)
def DPGs (X : Cx) (ts : List Expr) (g : DGs) : Prop := PGs X ts (upGs X.K g)
def gN (i : Nat) : DG := fun d ρ M k => k (ρ.set i (some d)) M
theorem pg_mono {t t' : TG} (h : PG X e t) (m : ∀ v σ H Q, t' v σ H Q → t v σ H Q) : PG X e t' := ⟨fun pins s σ H v u Q I r q => h.run pins s σ H v u Q I r (m v σ H Q q)⟩
theorem pgs_mono {es : List Expr} {t t' : TGs} (h : PGs X es t) (m : ∀ v σ H Q, t' v σ H Q → t v σ H Q) : PGs X es t' := ⟨fun pins s σ H v u Q I r q => h.run pins s σ H v u Q I r (m v σ H Q q)⟩
theorem g_name {i : Nat} {x : Str} (hN : X.N.Nodup) (hi : X.N[i]? = some x) (hx : Loc X.env.scope x) (hf : X.fn x = true ∨ X.env.scope.names.lookup x = some .local := by first | exact .inl rfl | exact .inr rfl | assumption) : DPG X (.Name x pos) (gN i) :=
  pg_mono (pg_name hN hi hx hf) fun v σ H Q h => by
    obtain ⟨d, ρ, s, k, rfl, er, r, q, p⟩ := h
    exact p _ s q (Step.refl s) _ (er.set i r)
def gsNil : DGs := fun ds ρ M k => ds = [] ∧ k ρ M
def gsCons (g : DG) (h : DGs) : DGs := fun ds ρ M k => ∃ d r, ds = d :: r ∧ g d ρ M fun ρ1 M1 => h r ρ1 M1 k
theorem gs_nil : DPGs X [] gsNil := pgs_mono pgs_nil fun vs σ H Q h => by
  obtain ⟨ds, ρ, s, k, rfl, er, r, ⟨rfl, q⟩, p⟩ := h
  cases r
  exact ⟨rfl, p _ s q (Step.refl s) _ er⟩
theorem gs_cons {es : List Expr} {g : DG} {h : DGs} (h1 : DPG X e g) (h2 : DPGs X es h) (hs : (assignEach (e :: es) X.env).map (·.2) = assign e X.env :: (assignEach es X.env).map (·.2) := by rfl) : DPGs X (e :: es) (gsCons g h) :=
  pgs_mono (pgs_cons h1 h2 hs) fun vs σ H Q hh => by
    obtain ⟨ds, ρ, s, k, rfl, er, r, ⟨d, dr, rfl, q⟩, p⟩ := hh
    cases r with
    | cons rv rs =>
      refine ⟨_, _, rfl, d, ρ, s, _, rfl, er, rv, q, fun ρ1 s1 q1 st1 σ1 er1 => ?_⟩
      exact ⟨dr, ρ1, s1, k, rfl, er1, rs.same st1.same, q1, p.step st1⟩
/-- (a, b, ..) = a tuple of that length -/
def gTupD (n : Nat) (g : DGs) : DG := fun d ρ M k => ∃ ds, d = .tup ds ∧ ds.length = n ∧ g ds ρ M k
theorem g_tup {es : List Expr} {k : Nat} {g : DGs} {n : Nat} (hc : X.calm = true) (h : DPGs X es g) (hn : (assignEach es X.env).length = n := by rfl) (hst : (assignEach es X.env).findIdx? (·.1) = none := by rfl) : DPG X (.Tuple es k pos) (gTupD n g) :=
  pg_mono (pg_tup hc h hn hst) fun v σ H Q hh => by
    obtain ⟨d, ρ, s, k, rfl, er, r, ⟨ds, rfl, hl, q⟩, p⟩ := hh
    obtain ⟨a, vs, rfl, ha, rs⟩ := r.tup_of
    exact ⟨a, vs, rfl, (Same.seqT er.ok.sub ha), by rw [rs.length]; exact hl, ds, ρ, s, k, rfl, er, rs, q, p⟩
/-- target = value -/
def dAsg (g : DG) (τ : DE) : DS := fun k x ρ M => τ ρ M (fun u M1 => g u ρ M1 k.nx) x
theorem s_asg {tg : Expr} {g : DG} (he : DP X E e τa) (hg : DPG X tg g) (hs : swapsWithSole [tg] e pos.line X.env = pure false := by rfl) (hw : swappedStores [tg] e X.env = pure none := by rfl)
    (h1 : (assignEach [tg] X.env).map (·.2) = [assign tg X.env] := by rfl) : DPS X E (.Assign [tg] e pos) (dAsg g τa) := ps_mono (ps_asg he hg hs hw h1) fun D σ H h => by
  obtain ⟨ρ, s, k, x, rfl, er, q, p, px⟩ := h
  exact ⟨ρ, s, _, x, rfl, er, q, fun u s1 q1 st1 ok1 v1 r1 => ⟨u, ρ, s1, k.nx, rfl, er.step st1 ok1, r1, q1, p.nx.step st1⟩, px⟩

/-! ### for -/
/-- the turns over ds; I: what holds ahead of each turn -/
inductive ForK (g : DG) (β : DS) (k : DEnds) (x : DX) (ρ0 : DEnv) (ds : List D) (M0 : Mm) : Prop where
  | of (I : Nat → DEnv → Mm → Prop) (i0 : I 0 ρ0 M0) (turn : ∀ (j : Nat) (d : D) (ρ : DEnv) (M : Mm), ds[j]? = some d → I j ρ M → g d ρ M fun ρ1 M2 => β { k with nx := I (j + 1), bk := k.nx, ct := I (j + 1) } x ρ1 M2)
      (fin : ∀ ρ M, I ds.length ρ M → k.nx ρ M)
  | no (h : False)
def dFor (ι : DI) (g : DG) (β : DS) : DS := fun k x ρ M => ι ρ M (fun ds M1 => ForK g β k x ρ ds M1) x
theorem s_for {body : List Stmt} {ι : DI} {g : DG} {β : DS} (hp : PassesOwn (model X.prog X.w) X.A X.env X.xe) (hc : X.calm = true) (hi : DPI X E tg iter ι) (hg : DPG X tg g) (hb : DPB X E body β)
    (hs : ∀ x, foldedSetIterable iter X.env x = pure x := by intro _; rfl) : DPS X E (.For tg iter body [] pos) (dFor ι g β) := ps_mono (ps_for hp hc hi hg hb hs) fun D σ H h => by
  obtain ⟨ρ, s, k, x, rfl, er, q, p, px⟩ := h
  refine ⟨ρ, s, _, x, rfl, er, q, px, fun ds s1 q1 st1 ok1 J it => ?_⟩
  rcases q1 with ⟨I, i0, turn, fin⟩ | z
  case no => exact z.elim
  refine ⟨fun j m σ' H' => m = ds.length - j ∧ j ≤ ds.length ∧ ∃ ρ' s', s'.H = H' ∧ ER X.K s' σ' ρ' ∧ Step s1 s' ∧ I j ρ' s'.M, ⟨_, rfl, Nat.zero_le _, ρ, s1, rfl, er.step st1 ok1, Step.refl s1, i0⟩, ?_⟩
  rintro j m σ' H' ⟨rfl, hj, ρ', s', rfl, er', st', ij⟩
  by_cases hlt : j < ds.length
  · refine .inr ⟨it.go j s' st' er'.ok hlt, fun σ2 H2 => ∃ ρ2 s2, s2.H = H2 ∧ ER X.K s2 σ2 ρ2 ∧ Step s1 s2 ∧ I (j + 1) ρ2 s2.M, ?_, ?_⟩
    · rintro σ2 H2 ⟨ρ2, s2, e2, er2, st2, i2⟩
      exact ⟨ds.length - (j + 1), by omega, rfl, hlt, ρ2, s2, e2, er2, st2, i2⟩
    · intro v H2 y
      obtain ⟨d, hd⟩ : ∃ d, ds[j]? = some d := ⟨ds[j], by simp [hlt]⟩
      obtain ⟨u, rfl, eM, stu, oku, ru⟩ := it.yld j s' v H2 st' er'.ok y d hd
      have ij' : I j ρ' u.M := by rw [eM]; exact ij
      refine ⟨d, ρ', u, _, rfl, er'.step stu oku, ru, turn j d ρ' u.M hd ij', fun ρ3 s3 q3 st3 σ3 er3 => ?_⟩
      have sb : Step s1 s3 := (st'.trans stu).trans st3
      refine ⟨ρ3, s3, _, x, rfl, er3, q3, ⟨fun ρ4 s4 q4 st4 σ4 er4 => ⟨ρ4, s4, rfl, er4, sb.trans st4, q4⟩, ?_, fun ρ4 s4 q4 st4 σ4 er4 => p.nx ρ4 s4 q4 ((st1.trans sb).trans st4) σ4 er4, fun ρ4 s4 q4 st4 σ4 er4 => ⟨ρ4, s4, rfl, er4, sb.trans st4, q4⟩⟩, px.step (st1.trans sb)⟩
      obtain ⟨b, b1, b2, b3, b4⟩ := p.rt
      exact ⟨b, b1.trans (st1.trans sb), b2, b3, b4⟩
  · have ej : j = ds.length := by omega
    subst ej
    exact .inl ⟨it.stop s' st' er'.ok, p.nx ρ' s' (fin ρ' s'.M ij) (st1.trans st') σ' er'⟩

/-! ### while -/
inductive WhK (c : DT) (β : DS) (k : DEnds) (x : DX) (ρ0 : DEnv) (M0 : Mm) : Prop where
  | of (W : Nat → DEnv → Mm → Prop) (w0 : ∃ m, W m ρ0 M0) (turn : ∀ m ρ M, W m ρ M →
      c ρ M (fun b M1 => if b = true then β { k with nx := fun ρ M => ∃ m', m' < m ∧ W m' ρ M, bk := k.nx, ct := fun ρ M => ∃ m', m' < m ∧ W m' ρ M } x ρ M1 else k.nx ρ M1) x)
  | no (h : False)
def dWhile (c : DT) (β : DS) : DS := fun k x ρ M => WhK c β k x ρ M
theorem s_while {body : List Stmt} {θ : DT} {β : DS} (hp : PassesOwn (model X.prog X.w) X.A X.env X.xe) (hc : DPT X E c θ) (hb : DPB X E body β) : DPS X E (.While c body [] pos) (dWhile θ β) := ps_mono (ps_while hp hc hb) fun D σ H h => by
  obtain ⟨ρ, s, k, x, rfl, er, q, p, px⟩ := h
  rcases q with ⟨W, ⟨m0, w0⟩, turn⟩ | z
  case no => exact z.elim
  refine ⟨fun m σ' H' => ∃ ρ' s', s'.H = H' ∧ ER X.K s' σ' ρ' ∧ Step s s' ∧ W m ρ' s'.M, ⟨m0, ρ, s, rfl, er, Step.refl s, w0⟩, ?_⟩
  rintro m σ' H' ⟨ρ', s', rfl, er', st', w'⟩
  refine ⟨ρ', s', _, x, rfl, er', turn m ρ' s'.M w', fun b s1 q1 st1 ok1 => ?_, px.step st'⟩
  cases b with
  | true =>
    rw [if_pos rfl] at q1 ⊢
    have sb : Step s s1 := st'.trans st1
    refine ⟨fun σ2 H2 => ∃ m', m' < m ∧ ∃ ρ2 s2, s2.H = H2 ∧ ER X.K s2 σ2 ρ2 ∧ Step s s2 ∧ W m' ρ2 s2.M, fun σ2 H2 z => z, ?_⟩
    refine ⟨ρ', s1, _, x, rfl, er'.step st1 ok1, q1, ⟨fun ρ4 s4 ⟨m', hm, q4⟩ st4 σ4 er4 => ⟨m', hm, ρ4, s4, rfl, er4, sb.trans st4, q4⟩, ?_, fun ρ4 s4 q4 st4 σ4 er4 => p.nx ρ4 s4 q4 (sb.trans st4) σ4 er4, fun ρ4 s4 ⟨m', hm, q4⟩ st4 σ4 er4 => ⟨m', hm, ρ4, s4, rfl, er4, sb.trans st4, q4⟩⟩, px.step sb⟩
    obtain ⟨b, b1, b2, b3, b4⟩ := p.rt
    exact ⟨b, b1.trans sb, b2, b3, b4⟩
  | false =>
    rw [if_neg Bool.false_ne_true] at q1 ⊢
    exact p.nx ρ' s1 q1 (st'.trans st1) σ' (er'.step st1 ok1)

/-! ### list comprehensions -/
def wipeD (ρ : DEnv) : List Nat → DEnv
  | [] => ρ
  | v :: vs => (wipeD ρ vs).set v none
theorem ER.wipe {K : PySem.W.Frag} {s : Sta} {σ : L2.St} {ρ : DEnv} (er : ER K s σ ρ) : ∀ vs : List Nat, ER K s (wipe σ vs) (wipeD ρ vs)
  | [] => er
  | v :: vs => (er.wipe vs).unset v
/-- the turns of a comprehension; I: what holds ahead of each turn of the list made so far -/
inductive LcK (g : DG) (θ : DT) (ε : DE) (vs : List Nat) (ρ : DEnv) (ds : List D) (M0 : Mm) (k : DK) : Prop where
  | of (hl : ds.length < sizeLine) (I : Nat → List D → Mm → Prop) (i0 : I 0 [] M0)
      (turn : ∀ (j : Nat) (d : D) (acc : List D) (M : Mm), ds[j]? = some d → I j acc M → g d (wipeD ρ vs) M fun ρ1 M2 => θ ρ1 M2 (fun b M3 => if b = true then ε ρ1 M3 (fun y M4 => I (j + 1) (acc ++ [y]) M4) (fun _ _ _ => False) else I (j + 1) acc M3) (fun _ _ _ => False))
      (fin : ∀ acc M, I ds.length acc M → k (.lst acc) M)
  | no (h : False)
def dLc (ι : DI) (g : DG) (θ : DT) (ε : DE) (vs : List Nat) : DE := fun ρ M k x => ι ρ M (fun ds M1 => LcK g θ ε vs ρ ds M1 k) x
def DPTs (X : Cx) (E : XK) (ifs : List Expr) (θ : DT) : Prop := PTs X ifs (upT X.K E θ)
def dYes : DT := fun _ M k _ => k true M
theorem ts_nil : DPTs X E [] dYes := ⟨fun pins s σ H Q I h => by
  obtain ⟨ρ, s0, k, x, rfl, er, q, p, px⟩ := h
  exact pts_nil.run pins s σ s0.H Q I (p true s0 q (Step.refl s0) er.ok)⟩
theorem ts_one {θ : DT} (h : DPT X E c θ) : DPTs X E [c] θ := pts_one h
/-- a target, over values and over data; the slots of vs alone are set -/
structure GPair (K : PySem.W.Frag) (g : TG) (γ : DG) (vs : List Nat) : Prop where
  run : ∀ (v : V) (d : D) (σ : L2.St) (ρ : DEnv) (s : Sta) (k : DEnv → Mm → Prop) (Q : L2.St → Hp → Prop), ER K s σ ρ → Rep K s.G v d → γ d ρ s.M k →
    (∀ ρ' σ', k ρ' s.M → ER K s σ' ρ' → wipe σ' vs = wipe σ vs → Q σ' s.H) → g v σ s.H Q
structure GsPair (K : PySem.W.Frag) (g : TGs) (γ : DGs) (vs : List Nat) : Prop where
  run : ∀ (v : List V) (d : List D) (σ : L2.St) (ρ : DEnv) (s : Sta) (k : DEnv → Mm → Prop) (Q : L2.St → Hp → Prop), ER K s σ ρ → Reps K s.G v d → γ d ρ s.M k →
    (∀ ρ' σ', k ρ' s.M → ER K s σ' ρ' → wipe σ' vs = wipe σ vs → Q σ' s.H) → g v σ s.H Q
theorem wipe_set (σ : L2.St) (i : Nat) (v : Option V) : ∀ vs : List Nat, i ∈ vs → wipe (σ.set i v) vs = wipe σ vs
  | [], h => by cases h
  | j :: vs, h => by
    unfold wipe
    by_cases e : i ∈ vs
    · rw [wipe_set σ i v vs e]
    · have hj : i = j := by
        rcases List.mem_cons.mp h with z | z
        · exact z
        · exact absurd z e
      subst hj
      have key : ∀ us : List Nat, i ∉ us → wipe (σ.set i v) us = (wipe σ us).set i v := by
        intro us
        induction us with
        | nil => intro _; rfl
        | cons u us ih =>
          intro hn
          unfold wipe
          rw [ih (fun z => hn (List.mem_cons_of_mem _ z))]
          exact List.set_comm _ _ (fun z => hn (by rw [z]; exact List.mem_cons_self))
      rw [key vs e, List.set_set]
theorem wipe_wipe (σ : L2.St) : ∀ vs : List Nat, wipe (wipe σ vs) vs = wipe σ vs := by
  have h : ∀ (us vs : List Nat), (∀ u ∈ us, u ∈ vs) → wipe (wipe σ us) vs = wipe σ vs := by
    intro us
    induction us with
    | nil => intro vs _; rfl
    | cons u us ih =>
      intro vs hs
      show wipe ((wipe σ us).set u none) vs = wipe σ vs
      rw [wipe_set _ _ _ _ (hs u List.mem_cons_self)]
      exact ih vs fun z hz => hs z (List.mem_cons_of_mem _ hz)
  exact fun vs => h vs vs fun _ z => z
theorem gp_name {K : PySem.W.Frag} {i : Nat} {vs : List Nat} (h : i ∈ vs) : GPair K (gName i) (gN i) vs :=
  ⟨fun v d σ ρ s k Q er r q f => f _ _ q (er.set i r) (wipe_set σ i _ vs h)⟩
theorem gps_nil {K : PySem.W.Frag} {vs : List Nat} : GsPair K gNil gsNil vs :=
  ⟨fun v d σ ρ s k Q er r q f => by
    obtain ⟨rfl, q⟩ := q
    cases r
    exact ⟨rfl, f _ _ q er rfl⟩⟩
theorem gps_cons {K : PySem.W.Frag} {vs : List Nat} {g : TG} {γ : DG} {gs : TGs} {γs : DGs} (h : GPair K g γ vs) (hs : GsPair K gs γs vs) : GsPair K (gCons g gs) (gsCons γ γs) vs :=
  ⟨fun v d σ ρ s k Q er r q f => by
    obtain ⟨d1, dr, rfl, q⟩ := q
    cases r with
    | cons rv rs =>
      exact ⟨_, _, rfl, h.run _ d1 σ ρ s _ _ er rv q fun ρ' σ' q' er' w' => hs.run _ dr σ' ρ' s k Q er' rs q' fun ρ2 σ2 q2 er2 w2 => f ρ2 σ2 q2 er2 (w2.trans w')⟩⟩
theorem gp_tup {K : PySem.W.Frag} {vs : List Nat} {n : Nat} {gs : TGs} {γs : DGs} (hs : GsPair K gs γs vs) : GPair K (gTup K n gs) (gTupD n γs) vs :=
  ⟨fun v d σ ρ s k Q er r q f => by
    obtain ⟨ds, rfl, hl, q⟩ := q
    obtain ⟨a, us, rfl, ha, rs⟩ := r.tup_of
    exact ⟨a, us, rfl, (Same.seqT er.ok.sub ha), by rw [rs.length]; exact hl, hs.run _ ds σ ρ s k Q er rs q f⟩⟩

theorem up_lc {K : PySem.W.Frag} {ι : DI} {g : TG} {γ : DG} {θ : DT} {ε : DE} {vs : List Nat} {σ : L2.St} {H : Hp} {Q : VK} (gp : GPair K g γ vs) (h : up K E (dLc ι γ θ ε vs) σ H Q) : tLc (upI K E ι) g (upT K E0 θ) (up K E0 ε) vs σ H Q := by
  obtain ⟨ρ, s, k, x, rfl, er, q, p, px⟩ := h
  refine ⟨ρ, s, _, x, rfl, er, q, px, fun ds s1 q1 st1 ok1 J it => ?_⟩
  rcases q1 with ⟨hlen, I, i0, turn, fin⟩ | z
  case no => exact z.elim
  intro L hL
  -- the list at L is hidden while it grows
  have inv0 : ∃ (acc : List D) (vs' : List V) (s' : Sta), s'.H = upd s1.H L (.lst []) ∧ Ok K s' ∧ Step s1 s' ∧ s'.G L = none ∧ s'.M L = none ∧ s'.H L = some (.lst vs') ∧ Reps K s'.G vs' acc ∧ acc.length ≤ 0 ∧ I 0 acc s'.M := by
    obtain ⟨k1, st⟩ := ok1.hide (o := .lst []) (Step.refl s1) hL (ok1.freeG hL) (ok1.freeM hL)
    exact ⟨[], [], ⟨_, _, _⟩, rfl, k1, st, ok1.freeG hL, ok1.freeM hL, upd_same, .nil, Nat.le_refl _, i0⟩
  refine ⟨fun j m H' => m = ds.length - j ∧ j ≤ ds.length ∧ ∃ (acc : List D) (vs' : List V) (s' : Sta), s'.H = H' ∧ Ok K s' ∧ Step s1 s' ∧ s'.G L = none ∧ s'.M L = none ∧ s'.H L = some (.lst vs') ∧ Reps K s'.G vs' acc ∧ acc.length ≤ j ∧ I j acc s'.M,
    ⟨ds.length, rfl, Nat.zero_le _, inv0⟩, ?_⟩
  rintro j m H' ⟨rfl, hj, acc, vs', s', rfl, ok', st', gL, mL, hL', rs, hal, ij⟩
  by_cases hlt : j < ds.length
  · refine .inr ⟨it.go j s' st' ok' hlt, fun H2 => ∃ (acc : List D) (vs' : List V) (s' : Sta), s'.H = H2 ∧ Ok K s' ∧ Step s1 s' ∧ s'.G L = none ∧ s'.M L = none ∧ s'.H L = some (.lst vs') ∧ Reps K s'.G vs' acc ∧ acc.length ≤ j + 1 ∧ I (j + 1) acc s'.M,
      fun H2 z => ⟨ds.length - (j + 1), by omega, rfl, hlt, z⟩, fun v H2 y => ?_⟩
    obtain ⟨d, hd⟩ : ∃ d, ds[j]? = some d := ⟨ds[j], by simp [hlt]⟩
    obtain ⟨u, rfl, eM, stu, oku, ru⟩ := it.yld j s' v H2 st' ok' y d hd
    have ij' : I j acc u.M := by rw [eM]; exact ij
    obtain ⟨hLu, gLu, mLu⟩ := stu.hid L _ hL' gL mL
    have eru : ER K u (wipe σ vs) (wipeD ρ vs) := (er.step ((st1.trans st').trans stu) oku).wipe vs
    refine gp.run v d _ _ u _ _ eru ru (turn j d acc u.M hd ij') fun ρ3 σ3 q3 er3 w3 => ⟨w3.trans (wipe_wipe σ vs), ?_⟩
    refine ⟨ρ3, u, _, _, rfl, er3, q3, fun b s4 q4 st4 ok4 => ?_, PostX.never⟩
    obtain ⟨hL4, gL4, mL4⟩ := st4.hid L _ hLu gLu mLu
    cases b with
    | true =>
      rw [if_pos rfl] at q4 ⊢
      refine ⟨ρ3, s4, _, _, rfl, er3.step st4 ok4, q4, fun yd s5 q5 st5 ok5 yv ry => ?_, PostX.never⟩
      obtain ⟨hL5, gL5, mL5⟩ := st5.hid L _ hL4 gL4 mL4
      have rs5 : Reps K s5.G vs' acc := rs.same ((stu.trans st4).trans st5).same
      refine ⟨vs', hL5, by rw [rs5.length]; omega, ?_⟩
      obtain ⟨k6, st6⟩ := ok5.hide (o := .lst (vs' ++ [yv])) (((st'.trans stu).trans st4).trans st5) hL gL5 mL5
      exact ⟨acc ++ [yd], vs' ++ [yv], ⟨_, _, _⟩, rfl, k6, st6, gL5, mL5, upd_same, rs5.append (.cons ry .nil), by simp; omega, q5⟩
    | false =>
      rw [if_neg Bool.false_ne_true] at q4 ⊢
      exact ⟨acc, vs', s4, rfl, ok4, (st'.trans stu).trans st4, gL4, mL4, hL4, rs.same (stu.trans st4).same, by omega, q4⟩
  · have ej : j = ds.length := by omega
    subst ej
    refine .inl ⟨it.stop s' st' ok', ?_⟩
    obtain ⟨k6, st6, sm⟩ := ok'.shown st' hL gL mL hL'
    exact p _ ⟨s'.H, upd s'.G L (.lst vs'), s'.M⟩ (fin acc s'.M ij) (st1.trans st6) k6 _ (.lst upd_same (rs.same sm))
variable {elt : Expr} {ifs : List Expr} {scope : Scope} {own : List (Str × Nat)} {ι : DI} {g : TG} {γ : DG} {θ : DT} {ε : DE}
theorem d_lc (hc : X.calm = true) (hN : X.N.Nodup) (hi : DPI X E tg iter ι) (ok : BlkOk X.N X.env.scope scope own) (gp : GPair X.K g γ (own.map (·.2)))
    (hg : ∀ (s : Shared) (H : Hp) (C : Addr) (cl : List (Str × Addr)) (fp : List Addr), PG (X.blk s H scope (compEnvC scope cl C X.env) fp) tg g) (ht : ∀ (s : Shared) (H : Hp) (C : Addr) (cl : List (Str × Addr)) (fp : List Addr), DPTs (X.blk s H scope (compEnvC scope cl C X.env) fp) E0 ifs θ)
    (he : ∀ (s : Shared) (H : Hp) (C : Addr) (cl : List (Str × Addr)) (fp : List Addr), DP (X.blk s H scope (compEnvC scope cl C X.env) fp) E0 elt ε) (hs : ∀ x, foldedSetIterable iter X.env x = pure x := by intro _; rfl) :
    DP X E (.ListComp elt [⟨tg, iter, ifs, 0⟩] scope pos) (dLc ι γ θ ε (own.map (·.2))) := pe_mono (pe_lc (tt := upT X.K E0 θ) (te := up X.K E0 ε) hc hN hi ok hg ht he hs) fun _ _ _ h => up_lc gp h
theorem s_setLc {i : Nat} {y : Str} {py spos : Pos} (hc : X.calm = true) (hN : X.N.Nodup) (hy : X.N[i]? = some y) (hyl : X.env.scope.names.lookup y = some .local)
    (hsw : swapsWith (.ListComp elt [⟨tg, iter, ifs, 0⟩] scope pos) (some (.Name y py)) spos.line X.env = pure true) (hi : DPI X E tg iter ι) (ok : BlkOk X.N X.env.scope scope own) (gp : GPair X.K g γ (own.map (·.2)))
    (hg : ∀ (s : Shared) (H : Hp) (C : Addr) (cl : List (Str × Addr)) (fp : List Addr), PG (X.blk s H scope (compEnvC scope cl C X.env) fp) tg g) (ht : ∀ (s : Shared) (H : Hp) (C : Addr) (cl : List (Str × Addr)) (fp : List Addr), DPTs (X.blk s H scope (compEnvC scope cl C X.env) fp) E0 ifs θ)
    (he : ∀ (s : Shared) (H : Hp) (C : Addr) (cl : List (Str × Addr)) (fp : List Addr), DP (X.blk s H scope (compEnvC scope cl C X.env) fp) E0 elt ε) (hs : ∀ x, foldedSetIterable iter X.env x = pure x := by intro _; rfl) :
    DPS X E (.Assign [.Name y py] (.ListComp elt [⟨tg, iter, ifs, 0⟩] scope pos) spos) (dSet i (dLc ι γ θ ε (own.map (·.2)))) := ps_mono (ps_setLc (tt := upT X.K E0 θ) (te := up X.K E0 ε) hc hN hy hyl hsw hi ok hg ht he hs) fun D σ H h => by
  obtain ⟨ρ, s, k, x, rfl, er, q, p, px⟩ := h
  refine up_lc gp ⟨ρ, s, _, x, rfl, er, q, fun u s1 q1 st1 ok1 v1 r1 => p.nx _ s1 q1 st1 _ ((er.step st1 ok1).set i r1), px⟩
end
end DL
set_option Elab.async false
set_option linter.all false
set_option maxRecDepth 100000
set_option maxHeartbeats 2000000
namespace DL
open PySem PySem.Spec PyProof.Rows L2

/-! ### promises over data -/
abbrev Ct := List D → Mm → DK → DX → Prop
def spD (K : PySem.W.Frag) (n : Nat) (φ : Ct) : Sp := fun vs H Q E => ∃ s ds k x, s.H = H ∧ Ok K s ∧ Reps K s.G vs ds ∧ ds.length = n ∧ φ ds s.M k x ∧ Post K s k Q ∧ PostX K E s x
theorem spD_len {K : PySem.W.Frag} {n : Nat} {φ : Ct} {vs : List V} {H : Hp} {Q : VK} {E : XK} (h : spD K n φ vs H Q E) : vs.length = n := by
  obtain ⟨s, ds, k, x, _, _, r, hl, _⟩ := h
  rw [r.length]
  exact hl
theorem spD_imp {K : PySem.W.Frag} {n : Nat} {φ ψ : Ct} (h : ∀ ds M k x, φ ds M k x → ψ ds M k x) {vs : List V} {H : Hp} {Q : VK} {E : XK} (q : spD K n φ vs H Q E) : spD K n ψ vs H Q E := by
  obtain ⟨s, ds, k, x, e, o, r, hl, f, p, px⟩ := q
  exact ⟨s, ds, k, x, e, o, r, hl, h _ _ _ _ f, p, px⟩
def startD (N : List Str) (ds : List D) : DEnv := ds.map some ++ List.replicate (N.length - ds.length) none
theorem er_start {K : PySem.W.Frag} {s : Sta} {N : List Str} {vs : List V} {ds : List D} (o : Ok K s) (r : Reps K s.G vs ds) : ER K s (L2.start N vs) (startD N ds) := by
  have hl := r.length
  refine ⟨o, by simp [L2.start, startD, hl], fun i d h => ?_⟩
  unfold startD at h
  by_cases hi : i < ds.length
  · rw [List.getElem?_append_left (by simpa using hi), List.getElem?_map] at h
    cases e : ds[i]? with
    | none => rw [e] at h; cases h
    | some d' =>
      rw [e] at h
      have h' : d' = d := by simpa using h
      subst h'
      obtain ⟨v, hv, rv⟩ := r.get e
      refine ⟨v, ?_, rv⟩
      unfold L2.start
      rw [List.getElem?_append_left (by simpa [hl] using hi), List.getElem?_map, hv]
      rfl
  · rw [List.getElem?_append_right (by simpa using hi)] at h
    rw [List.getElem?_replicate] at h
    split at h <;> cases h
/-- what a def lets out is what its context takes -/
theorem pass_own {X : Cx} {E : XK} {E₁ : Value → Shared → Prop} (hs : X.stack = X.env :: X.outer) (hf : X.env.frame = some X.env.locals) (hex : X.ex = [])
    (hx : X.xe = fun e s' => wpAny (model X.prog X.w) X.A (leaving X.env e) (fun _ s'' => L2.CX X.prog X.w X.outer X.H_0 X.s_0 E e s'') E₁ s') : Passes (L2.CX X.prog X.w) X E :=
  passes_call (takes_of hs hf hex hx) fun _ _ _ _ h => h
section
variable {P : Program} {w : World} {K : PySem.W.Frag} {mg : Str → Option Value} {base : Heap}
/-- THE RULE for a def -/
theorem fn_D {x qual : Str} {params : Arguments} {body : List Stmt} {scope : Scope} {dvs : List V} {kws : List (Str × V)} {f : Addr} {fd : FuncData} {N ps : List Str} {k n : Nat} {φ : Ct} (F : FunD K x qual params body scope dvs kws f fd) (S : FnScope N ps scope) (hn : n = ps.length)
    (h : ∀ (cdv : Value) (A : Around) (outer : List Env) (s : Shared) (H : Hp) (E : XK), Room k (A.deeper (envOfC qual scope s.heap.objs.size f cdv)) →
      Passes (L2.CX P w) (cxOf (L2.CX P w) P w K mg base N qual scope f cdv A outer s H E) E → PassesOwn (model P w) (cxOf (L2.CX P w) P w K mg base N qual scope f cdv A outer s H E).A (cxOf (L2.CX P w) P w K mg base N qual scope f cdv A outer s H E).env (cxOf (L2.CX P w) P w K mg base N qual scope f cdv A outer s H E).xe →
      ∃ τ, DPB (cxOf (L2.CX P w) P w K mg base N qual scope f cdv A outer s H E) E body τ ∧
        ∀ (ds : List D) (M : Mm) (kk : DK) (x : DX), ds.length = n → φ ds M kk x → τ { nx := fun _ M => kk .non M, rt := kk, m0 := M } x (startD N ds) M) : FnOk P w K mg base (L2.CX P w) (k + 1) f fd ps (spD K n φ) := by
  refine F.ok (CX := L2.CX P w) S (fun vs H Q E q => by rw [spD_len q, hn]) fun cdv A outer s H vs Q E hr q => ?_
  obtain ⟨τ, ht, hq⟩ := h cdv A outer s H E hr (pass_own rfl rfl rfl rfl) (passes_of rfl)
  refine ⟨_, ht, ?_⟩
  obtain ⟨s0, ds, kk, xx, rfl, o, r, hl, f, p, px⟩ := q
  exact ⟨_, s0, _, xx, rfl, er_start o r, hq ds s0.M kk xx hl f, ⟨fun ρ t q st σ er => p _ t q st er.ok _ .non, ⟨s0, Step.refl s0, o, rfl, p⟩, fun _ _ z => z.elim, fun _ _ z => z.elim⟩, px⟩
end

/-! ### calls -/
section
variable {X : Cx} {CX : CXT} {E : XK} {k n : Nat} {f C : Addr} {fd : FuncData} {ps ks : List Str} {φ : Ct} {x m : Str} {p pos apos : Pos} {e o : Expr} {es : List Expr} {kws : List Keyword} {αa ακ : DA} {τo τv : DE} {g : List Value → List Value → List Value} {gV : List V → List V → List V} {gD : List D → List D → List D}
/-- how arguments bind, over data: n positional values, keywords named ks -/
structure KBd (K : PySem.W.Frag) (fd : FuncData) (ps : List Str) (n : Nat) (ks : List Str) (gD : List D → List D → List D) : Prop where
  ex : ∃ (g : List Value → List Value → List Value) (gV : List V → List V → List V), KBn K fd ps n ks g gV ∧ ∀ {G : Hp} {vs : List V} {us : List D} {zs : List V} {ws : List D}, Reps K G vs us → Reps K G zs ws → us.length = n → ws.length = ks.length → Reps K G (gV vs zs) (gD us ws)
def DPK (X : Cx) (E : XK) (kws : List Keyword) (τ : DA) : Prop := PK X kws (upA X.K E τ)
theorem pk_mono {t t' : TA} (h : PK X kws t) (m : ∀ σ H Q, t' σ H Q → t σ H Q) : PK X kws t' := ⟨fun p pins s σ H Q I q => h.run p pins s σ H Q I (m σ H Q q)⟩
theorem k_nil : DPK X E [] dNil := pk_mono pk_nil fun σ H Q h => by
  obtain ⟨ρ, s, k, x, rfl, er, q, p, px⟩ := h
  exact p [] s q (Step.refl s) er.ok [] .nil
theorem k_cons {nm : Option Str} {kpos : Pos} (ha : DP X E e τo) (hr : DPK X E kws αa) : DPK X E (⟨nm, e, kpos⟩ :: kws) (dCons τo αa) := pk_mono (pk_cons ha hr) fun σ H Q h => by
  obtain ⟨ρ, s, k, x, rfl, er, q, p, px⟩ := h
  refine ⟨ρ, s, _, x, rfl, er, q, fun u s1 q1 st1 ok1 v1 r1 => ?_, px⟩
  refine ⟨ρ, s1, _, x, rfl, er.step st1 ok1, q1, fun us s2 q2 st2 ok2 vs r2 => ?_, px.step st1⟩
  exact p _ s2 q2 (st1.trans st2) ok2 _ (.cons (r1.same st2.same) r2)
theorem run_D {nn : Nat} {pins : List (Addr × Obj)} {σ : L2.St} {H : Hp} {s : Shared} {Q : VK} {us ws : List Value} {vs zs : List V} (F : FnOk X.prog X.w X.K X.mg X.base CX k f fd ps (spD X.K nn φ)) (hr : Room k X.A) (hb : KBd X.K fd ps n ks gD) (hx : Passes CX X E)
    (I : Inv X pins σ H s) (r : Vals vs us) (rz : Vals zs ws) (h : ∃ s ds zd k x, s.H = H ∧ Ok X.K s ∧ Reps X.K s.G vs ds ∧ Reps X.K s.G zs zd ∧ ds.length = n ∧ zd.length = ks.length ∧ (gD ds zd).length = nn ∧ φ (gD ds zd) s.M k x ∧ Post X.K s k Q ∧ PostX X.K E s x) :
    wpAny (model X.prog X.w) X.A (call (.ref f) us (ks.zip ws)) (EP X pins σ Q) X.xe s := by
  obtain ⟨s0, ds, zd, kk, xx, rfl, o, r1, r2, l1, l2, ln, q, p, px⟩ := h
  obtain ⟨g, gV, hb, hrep⟩ := hb.ex
  have rr := hb.rel r rz
  have e1 : us.length = n := r.length.symm.trans (r1.length.trans l1)
  have e2 : ws.length = ks.length := rz.length.symm.trans (r2.length.trans l2)
  have hs : spD X.K nn φ (gV vs zs) s0.H Q E := ⟨s0, gD ds zd, kk, xx, rfl, o, hrep r1 r2 l1 l2, ln, q, p, px⟩
  refine wpAny_call (codeAny_mono (F.run X.A X.stack s s0.H ⟨us, ks.zip ws⟩ (g us ws) (gV vs zs) Q E hr I.env0 (hb.to s us ws I.kIn e1 e2) rr hs) fun r s' hq => ?_)
  cases r with
  | error e => exact hx pins σ s0.H s e s' I hq
  | ok fl =>
    cases fl with
    | ret u => exact I.after hq
    | next => exact False.elim hq
    | brk => exact False.elim hq
    | cont => exact False.elim hq
def dCall (n : Nat) (φ : Ct) (gD : List D → List D → List D) (α : DA) : DE := fun ρ M k x => α ρ M (fun ds M1 => ds.length = n ∧ φ (gD ds []) M1 k x) x
def dCallK (n m : Nat) (φ : Ct) (gD : List D → List D → List D) (α κ : DA) : DE := fun ρ M k x => α ρ M (fun ds M1 => κ ρ M1 (fun zs M2 => ds.length = n ∧ zs.length = m ∧ φ (gD ds zs) M2 k x) x) x
variable {nn : Nat} (hgl : ∀ us ws : List D, us.length = n → ws.length = ks.length → (gD us ws).length = nn)
theorem d_call (F : FnOk X.prog X.w X.K X.mg X.base CX k f fd ps (spD X.K nn φ)) (hr : Room k X.A) (hg : Gl X x) (hm : X.mg x = some (.ref f)) (hk : PySem.W.keepIn X.K (.ref f) = true) (hb : KBd X.K fd ps n [] gD) (hgl : ∀ us ws : List D, us.length = n → ws.length = 0 → (gD us ws).length = nn) (hx : Passes CX X E)
    (ha : DPA X E (e :: es) αa) (hdb : (x == ("__debug__" : Str)) = false := by decide) (he : starEach (e :: es) X.env = (false, eval e X.env) :: starEach es X.env := by rfl) (hpl : (backTo pos (starEach es X.env)).any (·.1) = false := by rfl) :
    DP X E (.Call (.Name x p) (e :: es) [] pos) (dCall n φ gD αa) := by
  refine ⟨fun pins s σ H Q I h => ?_⟩
  obtain ⟨ρ, s0, kk, xx, rfl, er, q, pp, px⟩ := h
  refine wpAny_Call_Name_kw (ld_glob I hg hm ?_ hdb)
  refine PySem.W.callWith_K (h₀ := X.base) I.ok.mod.kin hk (thn (ha.run pos pins s σ s0.H (fun vs H1 => ∃ s1 ds, s1.H = H1 ∧ Ok X.K s1 ∧ Step s0 s1 ∧ Reps X.K s1.G vs ds ∧ ds.length = n ∧ φ (gD ds []) s1.M kk xx) I ⟨ρ, s0, _, xx, rfl, er, q, fun ds s1 q1 st1 ok1 vs r1 => ⟨s1, ds, rfl, ok1, st1, r1, q1⟩, px⟩) fun us s1 ⟨vs, H1, I1, r, s2, ds, e2, ok2, st2, r2, l2, q2⟩ => ⟨I1.kIn, ?_⟩) he hpl
  subst e2
  exact run_D (ws := []) (zs := []) F hr hb hx I1 r .nil ⟨s2, ds, [], kk, xx, rfl, ok2, r2, .nil, l2, rfl, hgl _ _ l2 rfl, q2, pp.step st2, px.step st2⟩
theorem d_call0 (F : FnOk X.prog X.w X.K X.mg X.base CX k f fd ps (spD X.K nn φ)) (hr : Room k X.A) (hg : Gl X x) (hm : X.mg x = some (.ref f)) (hk : PySem.W.keepIn X.K (.ref f) = true) (hb : KBd X.K fd ps 0 [] gD) (hgl : (gD [] []).length = nn) (hx : Passes CX X E) (hdb : (x == ("__debug__" : Str)) = false := by decide) :
    DP X E (.Call (.Name x p) [] [] pos) (dCall 0 φ gD dNil) := by
  refine ⟨fun pins s σ H Q I h => ?_⟩
  obtain ⟨ρ, s0, kk, xx, rfl, er, ⟨_, q⟩, pp, px⟩ := h
  refine wpAny_Call_Name_kw (ld_glob I hg hm ?_ hdb)
  exact PySem.W.callWith_K0 I.kIn hk (run_D (us := []) (vs := []) (ws := []) (zs := []) F hr hb hx I .nil .nil ⟨s0, [], [], kk, xx, rfl, er.ok, .nil, .nil, rfl, rfl, hgl, q, pp, px⟩)
theorem d_callK (F : FnOk X.prog X.w X.K X.mg X.base CX k f fd ps (spD X.K nn φ)) (hr : Room k X.A) (hg : Gl X x) (hm : X.mg x = some (.ref f)) (hk : PySem.W.keepIn X.K (.ref f) = true) (hb : KBd X.K fd ps n ks gD) (hgl : ∀ us ws : List D, us.length = n → ws.length = ks.length → (gD us ws).length = nn) (hx : Passes CX X E)
    (ha : DPA X E (e :: es) αa) (hkw : DPK X E kws ακ) (hall : (backToKw pos (keywordEach kws X.env)).all (·.1.isSome) = true := by rfl) (hks : (backToKw pos (keywordEach kws X.env)).filterMap (·.1) = ks := by rfl)
    (hdb : (x == ("__debug__" : Str)) = false := by decide) (he : starEach (e :: es) X.env = (false, eval e X.env) :: starEach es X.env := by rfl)
    (hpl : ((backTo pos (starEach (e :: es) X.env)).any (·.1) || (backToKw pos (keywordEach kws X.env)).any (·.1.isNone)) = false := by rfl) :
    DP X E (.Call (.Name x p) (e :: es) kws pos) (dCallK n ks.length φ gD αa ακ) := by
  refine ⟨fun pins s σ H Q I h => ?_⟩
  obtain ⟨ρ, s0, kk, xx, rfl, er, q, pp, px⟩ := h
  refine wpAny_Call_Name_kw (ld_glob I hg hm ?_ hdb)
  refine PySem.W.callWith_KW (h₀ := X.base) I.ok.mod.kin hk hall (thn (ha.run pos pins s σ s0.H (fun vs H1 => ∃ s1 ds, s1.H = H1 ∧ Ok X.K s1 ∧ Step s0 s1 ∧ Reps X.K s1.G vs ds ∧ ακ ρ s1.M (fun zs M2 => ds.length = n ∧ zs.length = ks.length ∧ φ (gD ds zs) M2 kk xx) xx) I ⟨ρ, s0, _, xx, rfl, er, q, fun ds s1 q1 st1 ok1 vs r1 => ⟨s1, ds, rfl, ok1, st1, r1, q1⟩, px⟩) fun us s1 ⟨vs, H1, I1, r, s2, ds, e2, ok2, st2, r2, q2⟩ => ?_) hpl he
  subst e2
  refine thn (hkw.run pos pins s1 σ s2.H (fun zs H2 => ∃ s3 zd, s3.H = H2 ∧ Ok X.K s3 ∧ Step s2 s3 ∧ Reps X.K s3.G zs zd ∧ ds.length = n ∧ zd.length = ks.length ∧ φ (gD ds zd) s3.M kk xx) I1 ⟨ρ, s2, _, xx, rfl, er.step st2 ok2, q2, fun zd s3 q3 st3 ok3 zs r3 => ⟨s3, zd, rfl, ok3, st3, r3, q3⟩, px.step st2⟩) fun ws s3 ⟨zs, H2, I2, rz, s4, zd, e4, ok4, st4, r4, l4, l5, q4⟩ => ⟨I2.kIn, ?_⟩
  subst e4
  rw [hks]
  exact run_D F hr hb hx I2 r rz ⟨s4, ds, zd, kk, xx, rfl, ok4, r2.same st4.same, r4, l4, l5, hgl _ _ l4 l5, q4, pp.step (st2.trans st4), px.step (st2.trans st4)⟩
theorem d_callK0 (F : FnOk X.prog X.w X.K X.mg X.base CX k f fd ps (spD X.K nn φ)) (hr : Room k X.A) (hg : Gl X x) (hm : X.mg x = some (.ref f)) (hk : PySem.W.keepIn X.K (.ref f) = true) (hb : KBd X.K fd ps 0 ks gD) (hgl : ∀ ws : List D, ws.length = ks.length → (gD [] ws).length = nn) (hx : Passes CX X E)
    (hkw : DPK X E kws ακ) (hall : (backToKw pos (keywordEach kws X.env)).all (·.1.isSome) = true := by rfl) (hks : (backToKw pos (keywordEach kws X.env)).filterMap (·.1) = ks := by rfl)
    (hdb : (x == ("__debug__" : Str)) = false := by decide) (hpl : ((backTo pos (starEach [] X.env)).any (·.1) || (backToKw pos (keywordEach kws X.env)).any (·.1.isNone)) = false := by rfl) :
    DP X E (.Call (.Name x p) [] kws pos) (dCallK 0 ks.length φ gD dNil ακ) := by
  refine ⟨fun pins s σ H Q I h => ?_⟩
  obtain ⟨ρ, s0, kk, xx, rfl, er, q, pp, px⟩ := h
  refine wpAny_Call_Name_kw (ld_glob I hg hm ?_ hdb)
  refine PySem.W.callWith_KW0 (h₀ := X.base) I.ok.mod.kin hk hall ?_ hpl
  refine thn (hkw.run pos pins s σ s0.H (fun zs H2 => ∃ s3 zd, s3.H = H2 ∧ Ok X.K s3 ∧ Step s0 s3 ∧ Reps X.K s3.G zs zd ∧ 0 = 0 ∧ zd.length = ks.length ∧ φ (gD [] zd) s3.M kk xx) I ⟨ρ, s0, _, xx, rfl, er, q, fun zd s3 q3 st3 ok3 zs r3 => ⟨s3, zd, rfl, ok3, st3, r3, q3⟩, px⟩) fun ws s3 ⟨zs, H2, I2, rz, s4, zd, e4, ok4, st4, r4, l4, l5, q4⟩ => ⟨I2.kIn, ?_⟩
  subst e4
  rw [hks]
  exact run_D (us := []) (vs := []) F hr hb hx I2 .nil rz ⟨s4, [], zd, kk, xx, rfl, ok4, .nil, r4, rfl, l5, hgl _ l5, q4, pp.step st4, px.step st4⟩
end
/-- every parameter is written, in order -/
theorem kbd_plain {K : PySem.W.Frag} {fd : FuncData} {ps : List Str} {n : Nat} (hn : n = ps.length) (h : ∀ us : List Value, us.length = ps.length → bindArgs fd ⟨us, []⟩ = pure (ps.zip us)) : KBd K fd ps n [] (fun us _ => us) :=
  ⟨⟨fun us _ => us, fun vs _ => vs, ⟨fun s us ws _ l1 l2 => by
    have e : ws = [] := List.eq_nil_of_length_eq_zero l2
    subst e
    exact .of_eq (h us (l1.trans hn)), fun r _ => r⟩, fun r _ _ _ => r⟩⟩
/-- keywords: what stands at the i-th place comes from the positional ones (inl) or the keywords (inr) -/
def pickA {α : Type} (us ws : List α) : List (Sum Nat Nat) → List α
  | [] => []
  | .inl i :: r => (match us[i]? with | some u => [u] | none => []) ++ pickA us ws r
  | .inr j :: r => (match ws[j]? with | some u => [u] | none => []) ++ pickA us ws r
theorem pickA_vals {vs zs : List V} {us ws : List Value} (r : Vals vs us) (rz : Vals zs ws) : ∀ l, Vals (pickA vs zs l) (pickA us ws l)
  | [] => .nil
  | .inl i :: l => by
    refine Vals.append ?_ (pickA_vals r rz l)
    cases e : vs[i]? with
    | none => rw [r.none_of e]; exact .nil
    | some v => obtain ⟨u, h1, h2⟩ := r.get e; rw [h1]; exact .cons h2 .nil
  | .inr i :: l => by
    refine Vals.append ?_ (pickA_vals r rz l)
    cases e : zs[i]? with
    | none => rw [rz.none_of e]; exact .nil
    | some v => obtain ⟨u, h1, h2⟩ := rz.get e; rw [h1]; exact .cons h2 .nil
theorem Reps.noneD {K : PySem.W.Frag} {G : Hp} {vs : List V} {ds : List D} {i : Nat} (r : Reps K G vs ds) (e : vs[i]? = none) : ds[i]? = none := by
  have h1 := r.length
  have h2 : vs.length ≤ i := List.getElem?_eq_none_iff.mp e
  exact List.getElem?_eq_none_iff.mpr (by omega)
theorem pickA_reps {K : PySem.W.Frag} {G : Hp} {vs zs : List V} {us ws : List D} (r : Reps K G vs us) (rz : Reps K G zs ws) : ∀ l, Reps K G (pickA vs zs l) (pickA us ws l)
  | [] => .nil
  | .inl i :: l => by
    refine Reps.append ?_ (pickA_reps r rz l)
    cases e : vs[i]? with
    | none => rw [r.noneD e]; exact .nil
    | some v => obtain ⟨u, h1, h2⟩ := r.getV e; rw [h1]; exact .cons h2 .nil
  | .inr i :: l => by
    refine Reps.append ?_ (pickA_reps r rz l)
    cases e : zs[i]? with
    | none => rw [rz.noneD e]; exact .nil
    | some v => obtain ⟨u, h1, h2⟩ := rz.getV e; rw [h1]; exact .cons h2 .nil
theorem kbd_kw {K : PySem.W.Frag} {fd : FuncData} {ps ks : List Str} {n : Nat} (l : List (Sum Nat Nat)) (h : ∀ us ws : List Value, us.length = n → ws.length = ks.length → bindArgs fd ⟨us, ks.zip ws⟩ = pure (ps.zip (pickA us ws l))) : KBd K fd ps n ks (fun us ws => pickA us ws l) :=
  ⟨⟨fun us ws => pickA us ws l, fun vs zs => pickA vs zs l, ⟨fun s us ws _ l1 l2 => .of_eq (h us ws l1 l2), fun r rz => pickA_vals r rz l⟩, fun r rz _ _ => pickA_reps r rz l⟩⟩
end DL
set_option Elab.async false
set_option linter.all false
set_option maxRecDepth 100000
set_option maxHeartbeats 2000000
namespace DL
open PySem PySem.Spec PyProof.Rows L2
section
variable {X : Cx} {E : XK} {e a b c : Expr} {pos : Pos} {τa τb τc : DE} {αa : DA} {es : List Expr}

/-! ### arithmetic -/
def dAdd : D2
  | .int i, .int j, M, k, _ => k (.int (i + j)) M
  | .str i, .str j, M, k, _ => i.length + j.length ≤ sizeLine ∧ k (.str (i ++ j)) M
  | .lst i, .lst j, M, k, _ => i.length + j.length ≤ sizeLine ∧ k (.lst (i ++ j)) M
  | .tup i, .tup j, M, k, _ => i.length + j.length ≤ sizeLine ∧ k (.tup (i ++ j)) M
  | _, _, _, _, _ => False
theorem o_add : OpR X (binaryOp .Add) (r2 X.K E dAdd) := by
  intro pins s σ H x y u v Q I rx ry h
  obtain ⟨s0, dx, dy, k, xx, rfl, ok, hx, hy, q, p, px⟩ := h
  unfold dAdd at q
  split at q
  · cases hx; cases hy
    exact op_add pins s σ _ _ _ u v Q I rx ry ⟨_, _, rfl, rfl, p.now q ok .int⟩
  · cases hx; cases hy
    exact op_add_str pins s σ _ _ _ u v Q I rx ry ⟨_, _, rfl, rfl, q.1, p.now q.2 ok .str⟩
  · obtain ⟨l, vs, rfl, hl, r1⟩ := hx.lst_of
    obtain ⟨m, us, rfl, hm, r2⟩ := hy.lst_of
    exact op_cat pins s σ _ _ _ u v Q I rx ry ⟨l, m, vs, us, rfl, rfl, ok.sub _ _ hl, ok.sub _ _ hm, by rw [r1.length, r2.length]; exact q.1, fun t ht => p.lst q.2 ok (r1.append r2) ht⟩
  · obtain ⟨l, vs, rfl, hl, r1⟩ := hx.tup_of
    obtain ⟨m, us, rfl, hm, r2⟩ := hy.tup_of
    refine op_catA pins s σ _ _ _ u v Q I rx ry ⟨l, m, vs, us, rfl, rfl, (Same.seqT ok.sub hl), (Same.seqT ok.sub hm), by rw [r1.length, r2.length]; exact q.1, fun e => ?_, fun _ e => ?_, fun _ _ t ht => p.tup q.2 ok (r1.append r2) ht⟩
    · subst e
      cases r1
      exact p.now q.2 ok (.tup hm r2)
    · subst e
      cases r2
      have q2 := q.2
      rw [List.append_nil] at q2
      exact p.now q2 ok (.tup hl r1)
  · exact q.elim
def dI2 (g : Int → Int → D) : D2
  | .int i, .int j, M, k, _ => k (g i j) M
  | _, _, _, _, _ => False
def dI2c (C : Int → Int → Prop) (g : Int → Int → D) : D2
  | .int i, .int j, M, k, _ => C i j ∧ k (g i j) M
  | _, _, _, _, _ => False
theorem o_sub : OpR X (binaryOp .Sub) (r2 X.K E (dI2 fun i j => .int (i - j))) := by
  intro pins s σ H x y u v Q I rx ry h
  obtain ⟨s0, dx, dy, k, xx, rfl, ok, hx, hy, q, p, px⟩ := h
  unfold dI2 at q
  split at q
  · cases hx; cases hy
    exact op_sub pins s σ _ _ _ u v Q I rx ry ⟨_, _, rfl, rfl, p.now q ok .int⟩
  · exact q.elim
/-- one factor below 2 ^ 64, or both together below a million bits -/
def MulOk (i j : Int) : Prop := CMul i j ∨ CMulW i j
theorem o_mul : OpR X (binaryOp .Mult) (r2 X.K E (dI2c MulOk fun i j => .int (i * j))) := by
  intro pins s σ H x y u v Q I rx ry h
  obtain ⟨s0, dx, dy, k, xx, rfl, ok, hx, hy, q, p, px⟩ := h
  unfold dI2c at q
  split at q
  · cases hx; cases hy
    rcases q.1 with c | c
    · exact op_mul pins s σ _ _ _ u v Q I rx ry ⟨_, _, rfl, rfl, c, p.now q.2 ok .int⟩
    · exact op_mulW pins s σ _ _ _ u v Q I rx ry ⟨_, _, rfl, rfl, c, p.now q.2 ok .int⟩
  · exact q.elim
def DivOk (_ j : Int) : Prop := j ≠ 0 ∧ j.natAbs.log2 < 9000
theorem o_fdiv : OpR X (binaryOp .FloorDiv) (r2 X.K E (dI2c DivOk fun i j => .int (i.fdiv j))) := by
  intro pins s σ H x y u v Q I rx ry h
  obtain ⟨s0, dx, dy, k, xx, rfl, ok, hx, hy, q, p, px⟩ := h
  unfold dI2c at q
  split at q
  · cases hx; cases hy
    have op : OpR X (binaryOp .FloorDiv) (rI DivOk fun i j => .int (i.fdiv j)) := opI fun _ _ _ _ _ _ _ hc q => floordiv_int hc.1 q (.inl (PyProof.noPylong_of_log2 hc.2))
    exact op pins s σ _ _ _ u v Q I rx ry ⟨_, _, rfl, rfl, q.1, p.now q.2 ok .int⟩
  · exact q.elim
theorem o_mod : OpR X (binaryOp .Mod) (r2 X.K E (dI2c (fun _ j => j ≠ 0) fun i j => .int (i.fmod j))) := by
  intro pins s σ H x y u v Q I rx ry h
  obtain ⟨s0, dx, dy, k, xx, rfl, ok, hx, hy, q, p, px⟩ := h
  unfold dI2c at q
  split at q
  · cases hx; cases hy
    exact op_modN pins s σ _ _ _ u v Q I rx ry ⟨_, _, rfl, rfl, q.1, p.now q.2 ok .int⟩
  · exact q.elim
theorem o_pow : OpR X (binaryOp .Pow) (r2 X.K E (dI2c CPow fun i j => .int (i ^ j.toNat))) := by
  intro pins s σ H x y u v Q I rx ry h
  obtain ⟨s0, dx, dy, k, xx, rfl, ok, hx, hy, q, p, px⟩ := h
  unfold dI2c at q
  split at q
  · cases hx; cases hy
    exact op_pow pins s σ _ _ _ u v Q I rx ry ⟨_, _, rfl, rfl, q.1, p.now q.2 ok .int⟩
  · exact q.elim
def dNeg : D1
  | .int i, M, k, _ => k (.int (-i)) M
  | _, _, _, _ => False
theorem o_neg : UnR X (unaryOp .USub) (r1 X.K E dNeg) := by
  intro pins s σ H x u Q I rx h
  obtain ⟨s0, dx, k, xx, rfl, ok, hx, q, p, px⟩ := h
  unfold dNeg at q
  split at q
  · cases hx
    exact un_neg pins s σ _ _ u Q I rx ⟨_, rfl, p.now q ok .int⟩
  · exact q.elim

/-! ### comparisons -/
theorem o_lt : OpR X (compareOp .Lt) (r2 X.K E (dI2 fun i j => .bl (decide (i < j)))) := by
  intro pins s σ H x y u v Q I rx ry h
  obtain ⟨s0, dx, dy, k, xx, rfl, ok, hx, hy, q, p, px⟩ := h
  unfold dI2 at q
  split at q
  · cases hx; cases hy
    exact op_lt pins s σ _ _ _ u v Q I rx ry ⟨_, _, rfl, rfl, p.now q ok .bl⟩
  · exact q.elim
theorem o_le : OpR X (compareOp .LtE) (r2 X.K E (dI2 fun i j => .bl (decide (i ≤ j)))) := by
  intro pins s σ H x y u v Q I rx ry h
  obtain ⟨s0, dx, dy, k, xx, rfl, ok, hx, hy, q, p, px⟩ := h
  unfold dI2 at q
  split at q
  · cases hx; cases hy
    exact op_le pins s σ _ _ _ u v Q I rx ry ⟨_, _, rfl, rfl, p.now q ok .bl⟩
  · exact q.elim
theorem o_gt : OpR X (compareOp .Gt) (r2 X.K E (dI2 fun i j => .bl (decide (j < i)))) := by
  intro pins s σ H x y u v Q I rx ry h
  obtain ⟨s0, dx, dy, k, xx, rfl, ok, hx, hy, q, p, px⟩ := h
  unfold dI2 at q
  split at q
  · cases hx; cases hy
    exact op_gt pins s σ _ _ _ u v Q I rx ry ⟨_, _, rfl, rfl, p.now q ok .bl⟩
  · exact q.elim
theorem o_ge : OpR X (compareOp .GtE) (r2 X.K E (dI2 fun i j => .bl (decide (j ≤ i)))) := by
  intro pins s σ H x y u v Q I rx ry h
  obtain ⟨s0, dx, dy, k, xx, rfl, ok, hx, hy, q, p, px⟩ := h
  unfold dI2 at q
  split at q
  · cases hx; cases hy
    exact op_ge pins s σ _ _ _ u v Q I rx ry ⟨_, _, rfl, rfl, p.now q ok .bl⟩
  · exact q.elim
/-- a < b < c -/
theorem d_chain {op op' : CmpOp} {f g : D2} (ho : OpR X (compareOp op) (r2 X.K E f)) (ho' : OpR X (compareOp op') (r2 X.K E g)) (ha : DP X E a τa) (hb : DP X E b τb) (hc : DP X E c τc) (hm : lastMarks [op, op'] [b, c] = false := by with_unfolding_all rfl) :
    DP X E (.Compare a [op, op'] [b, c] pos) (dChain f g τa τb τc) := pe_mono (pe_chain ho ho' ha hb hc hm) fun σ H Q h => by
  obtain ⟨ρ, s, k, x, rfl, er, q, p, px⟩ := h
  refine ⟨ρ, s, _, x, rfl, er, q, fun u s1 q1 st1 ok1 v1 r1 => ?_, px⟩
  refine ⟨ρ, s1, _, x, rfl, er.step st1 ok1, q1, fun w s2 q2 st2 ok2 v2 r2 => ?_, px.step st1⟩
  refine ⟨s2, u, w, _, x, rfl, ok2, r1.same st2.same, r2, q2, fun z s3 q3 st3 ok3 v3 r3 => ?_, px.step (st1.trans st2)⟩
  obtain ⟨c, rfl, q3⟩ := q3
  refine ⟨c, r3.bl_of, ?_⟩
  have st : Step s s3 := (st1.trans st2).trans st3
  cases c with
  | true =>
    rw [if_pos rfl] at q3 ⊢
    refine ⟨ρ, s3, _, x, rfl, er.step st ok3, q3, fun z s4 q4 st4 ok4 v4 r4 => ?_, px.step st⟩
    exact ⟨s4, w, z, k, x, rfl, ok4, r2.same (st3.trans st4).same, r4, q4, p.step (st.trans st4), px.step (st.trans st4)⟩
  | false =>
    rw [if_neg Bool.false_ne_true] at q3 ⊢
    exact p _ s3 q3 st ok3 _ .bl
theorem t_chain {op op' : CmpOp} {f g : D2} (ho : OpR X (compareOp op) (r2 X.K E f)) (ho' : OpR X (compareOp op') (r2 X.K E g)) (ha : DP X E a τa) (hb : DP X E b τb) (hc : DP X E c τc) (hm : lastMarks [op, op'] [b, c] = false := by with_unfolding_all rfl) :
    DPT X E (.Compare a [op, op'] [b, c] pos) (dB (dChain f g τa τb τc)) := pt_mono (pt_chain ho ho' ha hb hc hm) fun σ H Q h => by
  have h' := upT_B h
  obtain ⟨ρ, s, k, x, rfl, er, q, p, px⟩ := h'
  refine ⟨ρ, s, _, x, rfl, er, q, fun u s1 q1 st1 ok1 v1 r1 => ?_, px⟩
  refine ⟨ρ, s1, _, x, rfl, er.step st1 ok1, q1, fun w s2 q2 st2 ok2 v2 r2 => ?_, px.step st1⟩
  refine ⟨s2, u, w, _, x, rfl, ok2, r1.same st2.same, r2, q2, fun z s3 q3 st3 ok3 v3 r3 => ?_, px.step (st1.trans st2)⟩
  obtain ⟨c, rfl, q3⟩ := q3
  refine ⟨c, r3.bl_of, ?_⟩
  have st : Step s s3 := (st1.trans st2).trans st3
  cases c with
  | true =>
    rw [if_pos rfl] at q3 ⊢
    refine ⟨ρ, s3, _, x, rfl, er.step st ok3, q3, fun z s4 q4 st4 ok4 v4 r4 => ?_, px.step st⟩
    exact ⟨s4, w, z, k, x, rfl, ok4, r2.same (st3.trans st4).same, r4, q4, p.step (st.trans st4), px.step (st.trans st4)⟩
  | false =>
    rw [if_neg Bool.false_ne_true] at q3 ⊢
    exact p _ s3 q3 st ok3 _ .bl

/-! ### == -/
mutual
def toP : D → Option PyData
  | .non => some .none
  | .bl b => some (.bool b)
  | .int i => some (.int i)
  | .str x => some (.str x)
  | .lst ds => (toPs ds).map .list
  | .tup ds => (toPs ds).map .tuple
  | _ => none
def toPs : List D → Option (List PyData)
  | [] => some []
  | d :: ds => match toP d, toPs ds with
    | some p, some ps => some (p :: ps)
    | _, _ => none
end
mutual
theorem dp_of {K : PySem.W.Frag} {G : Hp} : ∀ {v : V} {d : D} {p : PyData}, Rep K G v d → toP d = some p → Dp K G v p
  | _, .non, p, h, e => by cases h; simp [toP] at e; subst e; exact .non
  | _, .bl b, p, h, e => by cases h; simp [toP] at e; subst e; exact .bl b
  | _, .int b, p, h, e => by cases h; simp [toP] at e; subst e; exact .int b
  | _, .str b, p, h, e => by cases h; simp [toP] at e; subst e; exact .str b
  | _, .lst ds, p, h, e => by
    obtain ⟨a, vs, rfl, ha, r⟩ := h.lst_of
    simp only [toP, Option.map_eq_some_iff] at e
    obtain ⟨ps, e1, rfl⟩ := e
    exact .lst (SqL.of ha) (dps_of r e1)
  | _, .tup ds, p, h, e => by
    obtain ⟨a, vs, rfl, ha, r⟩ := h.tup_of
    simp only [toP, Option.map_eq_some_iff] at e
    obtain ⟨ps, e1, rfl⟩ := e
    exact .tup (ha) (dps_of r e1)
  | _, .obj _ _, p, h, e => by simp [toP] at e
  | _, .cel _, p, h, e => by simp [toP] at e
  | _, .scr _, p, h, e => by simp [toP] at e
  | _, .exc _ _ _, p, h, e => by simp [toP] at e
  | _, .lam _ _ _ _ _, p, h, e => by simp [toP] at e
theorem dps_of {K : PySem.W.Frag} {G : Hp} : ∀ {vs : List V} {ds : List D} {ps : List PyData}, Reps K G vs ds → toPs ds = some ps → DpAll K G vs ps
  | _, [], ps, h, e => by cases h; simp [toPs] at e; subst e; exact .nil
  | _, d :: ds, ps, h, e => by
    cases h with
    | cons h1 h2 =>
      simp only [toPs] at e
      split at e
      · rename_i p ps' e1 e2
        cases e
        exact .cons (dp_of h1 e1) (dps_of h2 e2)
      · cases e
end
mutual
theorem Dp.same {K : PySem.W.Frag} {G G' : Hp} (s : Same G G') : ∀ {v : V} {p : PyData}, Dp K G v p → Dp K G' v p
  | _, _, .non => .non
  | _, _, .bl b => .bl b
  | _, _, .int b => .int b
  | _, _, .str b => .str b
  | _, _, .lst h r => .lst (Same.seq s h) (DpAll.same s r)
  | _, _, .tup h r => .tup (Same.seqT s h) (DpAll.same s r)
theorem DpAll.same {K : PySem.W.Frag} {G G' : Hp} (s : Same G G') : ∀ {v : List V} {p : List PyData}, DpAll K G v p → DpAll K G' v p
  | _, _, .nil => .nil
  | _, _, .cons h r => .cons (Dp.same s h) (DpAll.same s r)
end
/-- flat data -/
def flatD : D → Bool
  | .non => true
  | .bl _ => true
  | .int _ => true
  | .str _ => true
  | _ => false
def toV : D → V
  | .non => .non
  | .bl b => .bl b
  | .int i => .int i
  | .str x => .str x
  | _ => .non
theorem Rep.flat {K : PySem.W.Frag} {G : Hp} {v : V} {d : D} (h : Rep K G v d) (f : flatD d = true) : v = toV d ∧ flatV v = true := by
  cases h <;> first | exact ⟨rfl, rfl⟩ | cases f
/-- == of pure data -/
inductive EqD : D → D → Bool → Prop where
  | py {x y : D} {p q : PyData} (h1 : toP x = some p) (h2 : toP y = some q) (h3 : SeqAt.shaped p = true) (h4 : SeqAt.shaped q = true) : EqD x y (PyData.eqv p q)
  | sc {x y : D} (h1 : flatD x = true) (h2 : flatD y = true) (h3 : scal (toV x) (toV y) = true) : EqD x y (decide (toV x = toV y))
inductive EqK (x y : D) (M : Mm) (k : DK) : Prop where
  | of {r : Bool} (h : EqD x y r) (q : k (.bl r) M)
  | no (h : False)
inductive NeK (x y : D) (M : Mm) (k : DK) : Prop where
  | of {r : Bool} (h : EqD x y r) (q : k (.bl (!r)) M)
  | no (h : False)
def dEq : D2 := fun x y M k _ => EqK x y M k
def dNe : D2 := fun x y M k _ => NeK x y M k
theorem o_eq (hu : X.A.units + 64 < cLine) : OpR X (compareOp .Eq) (r2 X.K E dEq) := by
  intro pins s σ H x y u v Q I rx ry h
  obtain ⟨s0, dx, dy, k, xx, rfl, ok, hx, hy, qq, p, px⟩ := h
  rcases qq with ⟨q, q2⟩ | z
  case no => exact z.elim
  cases q with
  | py h1 h2 h3 h4 => exact op_eqD hu pins s σ _ _ _ u v Q I rx ry ⟨_, _, Dp.same ok.sub (dp_of hx h1), Dp.same ok.sub (dp_of hy h2), h3, h4, p.now q2 ok .bl⟩
  | sc h1 h2 h3 =>
    obtain ⟨rfl, _⟩ := hx.flat h1
    obtain ⟨rfl, _⟩ := hy.flat h2
    exact op_eq pins s σ _ _ _ u v Q I rx ry ⟨h3, p.now q2 ok .bl⟩
theorem o_ne (hu : X.A.units + 64 < cLine) : OpR X (compareOp .NotEq) (r2 X.K E dNe) := by
  intro pins s σ H x y u v Q I rx ry h
  obtain ⟨s0, dx, dy, k, xx, rfl, ok, hx, hy, qq, p, px⟩ := h
  rcases qq with ⟨q, q2⟩ | z
  case no => exact z.elim
  cases q with
  | py h1 h2 h3 h4 => exact op_neD hu pins s σ _ _ _ u v Q I rx ry ⟨_, _, Dp.same ok.sub (dp_of hx h1), Dp.same ok.sub (dp_of hy h2), h3, h4, p.now q2 ok .bl⟩
  | sc h1 h2 h3 =>
    obtain ⟨rfl, _⟩ := hx.flat h1
    obtain ⟨rfl, _⟩ := hy.flat h2
    exact op_ne pins s σ _ _ _ u v Q I rx ry ⟨h3, p.now q2 ok .bl⟩

/-! ### in, is None -/
def eqF (x y : D) : Bool := eqV (toV x) (toV y)
def inD (x : D) (xs : List D) : Bool := xs.any fun y => eqF y x
theorem inV_of {K : PySem.W.Frag} {G : Hp} {v : V} {x : D} (h : v = toV x) : ∀ {vs : List V} {xs : List D}, Reps K G vs xs → xs.all flatD = true → inV v vs = inD x xs ∧ vs.all flatV = true
  | _, _, .nil, _ => ⟨rfl, rfl⟩
  | _, _, .cons r rs, f => by
    simp only [List.all_cons, Bool.and_eq_true] at f
    obtain ⟨e1, e2⟩ := r.flat f.1
    obtain ⟨e3, e4⟩ := inV_of h rs f.2
    refine ⟨?_, by simp only [List.all_cons, e2, e4, Bool.and_self]⟩
    unfold inV inD at *
    simp only [List.any_cons]
    rw [e3]
    unfold eqF
    rw [e1, h]
/-- in a text: one sign; in a list or tuple: flat data -/
def dIn (neg : Bool) : D2
  | .str x, .str z, M, k, _ => ∃ c : Nat, x = ⟨#[c]⟩ ∧ k (.bl (if neg then !decide (c ∈ z.cps.toList) else decide (c ∈ z.cps.toList))) M
  | x, .lst xs, M, k, _ => flatD x = true ∧ xs.all flatD = true ∧ k (.bl (if neg then !inD x xs else inD x xs)) M
  | x, .tup xs, M, k, _ => flatD x = true ∧ xs.all flatD = true ∧ k (.bl (if neg then !inD x xs else inD x xs)) M
  | _, _, _, _, _ => False
theorem o_in : OpR X (compareOp .In) (r2 X.K E (dIn false)) := by
  intro pins s σ H x y u v Q I rx ry h
  obtain ⟨s0, dx, dy, k, xx, rfl, ok, hx, hy, q, p, px⟩ := h
  unfold dIn at q
  split at q
  · obtain ⟨c, rfl, q⟩ := q
    cases hx; cases hy
    exact op_in_sign pins s σ _ _ _ u v Q I rx ry ⟨c, _, rfl, rfl, p.now q ok .bl⟩
  · obtain ⟨l, vs, rfl, hl, r1⟩ := hy.lst_of
    obtain ⟨e1, e2⟩ := hx.flat q.1
    obtain ⟨e3, e4⟩ := inV_of e1 r1 q.2.1
    refine op_in_seq pins s σ _ _ _ u v Q I rx ry ⟨l, vs, rfl, .inl (SqL.of (ok.sub _ _ hl)), e2, e4, ?_⟩
    rw [e3]
    exact p.now q.2.2 ok .bl
  · obtain ⟨l, vs, rfl, hl, r1⟩ := hy.tup_of
    obtain ⟨e1, e2⟩ := hx.flat q.1
    obtain ⟨e3, e4⟩ := inV_of e1 r1 q.2.1
    refine op_in_seq pins s σ _ _ _ u v Q I rx ry ⟨l, vs, rfl, .inr ((Same.seqT ok.sub hl)), e2, e4, ?_⟩
    rw [e3]
    exact p.now q.2.2 ok .bl
  · exact q.elim
theorem o_notIn : OpR X (compareOp .NotIn) (r2 X.K E (dIn true)) := by
  intro pins s σ H x y u v Q I rx ry h
  obtain ⟨s0, dx, dy, k, xx, rfl, ok, hx, hy, q, p, px⟩ := h
  unfold dIn at q
  split at q
  · obtain ⟨c, rfl, q⟩ := q
    cases hx; cases hy
    exact op_notIn_sign pins s σ _ _ _ u v Q I rx ry ⟨c, _, rfl, rfl, p.now q ok .bl⟩
  · obtain ⟨l, vs, rfl, hl, r1⟩ := hy.lst_of
    obtain ⟨e1, e2⟩ := hx.flat q.1
    obtain ⟨e3, e4⟩ := inV_of e1 r1 q.2.1
    refine op_notIn_seq pins s σ _ _ _ u v Q I rx ry ⟨l, vs, rfl, .inl (SqL.of (ok.sub _ _ hl)), e2, e4, ?_⟩
    rw [e3]
    exact p.now q.2.2 ok .bl
  · obtain ⟨l, vs, rfl, hl, r1⟩ := hy.tup_of
    obtain ⟨e1, e2⟩ := hx.flat q.1
    obtain ⟨e3, e4⟩ := inV_of e1 r1 q.2.1
    refine op_notIn_seq pins s σ _ _ _ u v Q I rx ry ⟨l, vs, rfl, .inr ((Same.seqT ok.sub hl)), e2, e4, ?_⟩
    rw [e3]
    exact p.now q.2.2 ok .bl
  · exact q.elim
def isNon : D → Bool
  | .non => true
  | _ => false
theorem Rep.isNon {K : PySem.W.Frag} {G : Hp} {v : V} {d : D} (h : Rep K G v d) : decide (v = .non) = DL.isNon d := by
  cases h <;> first | rfl | exact decide_eq_false (fun z => nomatch z)
def dIsN (neg : Bool) : D2 := fun x y M k _ => y = .non ∧ k (.bl (if neg then !isNon x else isNon x)) M
theorem o_isN : OpR X (compareOp .Is) (r2 X.K E (dIsN false)) := by
  intro pins s σ H x y u v Q I rx ry h
  obtain ⟨s0, dx, dy, k, xx, rfl, ok, hx, hy, ⟨rfl, q⟩, p, px⟩ := h
  refine op_isN pins s σ _ _ _ u v Q I rx ry ⟨hy.non_of, ?_⟩
  rw [hx.isNon]
  exact p.now q ok .bl
theorem o_isNotN : OpR X (compareOp .IsNot) (r2 X.K E (dIsN true)) := by
  intro pins s σ H x y u v Q I rx ry h
  obtain ⟨s0, dx, dy, k, xx, rfl, ok, hx, hy, ⟨rfl, q⟩, p, px⟩ := h
  refine op_notN pins s σ _ _ _ u v Q I rx ry ⟨hy.non_of, ?_⟩
  rw [hx.isNon]
  exact p.now q ok .bl

/-! ### items, slices, stores -/
theorem atI_reps {K : PySem.W.Frag} {G : Hp} {vs : List V} {ds : List D} {i : Int} {d : D} (r : Reps K G vs ds) (h : atI ds i = some d) : ∃ v, atI vs i = some v ∧ Rep K G v d := by
  unfold atI at h ⊢
  rw [r.length]
  cases e : ixN ds.length i with
  | none => rw [e] at h; cases h
  | some j =>
    rw [e] at h
    exact r.get h
def dIx : D2
  | .lst ds, .int i, M, k, _ => ∃ d, atI ds i = some d ∧ k d M
  | .tup ds, .int i, M, k, _ => ∃ d, atI ds i = some d ∧ k d M
  | .str z, .int i, M, k, _ => z.length ≤ sizeLine ∧ ∃ c, atI z.cps.toList i = some c ∧ k (.str ⟨#[c]⟩) M
  | .cel a, .int i, M, k, _ => ∃ ds, M a = some (.lst ds) ∧ ∃ d, atI ds i = some d ∧ k d M
  | _, _, _, _, _ => False
theorem x_ix : IxR X (r2 X.K E dIx) := by
  intro value slice pins s σ H x y u v Q I rx ry h hsub
  obtain ⟨s0, dx, dy, k, xx, rfl, ok, hx, hy, q, p, px⟩ := h
  unfold dIx at q
  split at q
  · cases hy
    obtain ⟨l, vs, rfl, hl, r1⟩ := hx.lst_of
    obtain ⟨d, hd, q⟩ := q
    obtain ⟨w, hw, rw'⟩ := atI_reps r1 hd
    exact ix_list value slice pins s σ _ _ _ u v Q I rx ry ⟨l, vs, _, w, rfl, rfl, SqL.of (ok.sub _ _ hl), hw, p.now q ok rw'⟩ hsub
  · cases hy
    obtain ⟨l, vs, rfl, hl, r1⟩ := hx.tup_of
    obtain ⟨d, hd, q⟩ := q
    obtain ⟨w, hw, rw'⟩ := atI_reps r1 hd
    exact ix_tup value slice pins s σ _ _ _ u v Q I rx ry ⟨l, vs, _, w, rfl, rfl, (Same.seqT ok.sub hl), hw, p.now q ok rw'⟩ hsub
  · cases hy; cases hx
    obtain ⟨hz, c, hc, q⟩ := q
    exact ix_str value slice pins s σ _ _ _ u v Q I rx ry ⟨_, _, c, rfl, rfl, hz, hc, p.now q ok .str⟩ hsub
  · cases hy; cases hx
    obtain ⟨ds, hm, d, hd, q⟩ := q
    obtain ⟨vs, e, r1⟩ := ok.cells _ _ hm
    obtain ⟨w, hw, rw'⟩ := atI_reps r1 hd
    exact ix_list value slice pins s σ _ _ _ u v Q I rx ry ⟨_, vs, _, w, rfl, rfl, SqL.of e, hw, p.now q ok rw'⟩ hsub
  · exact q.elim
theorem d_ix {f : D2} (hr : IxR X (r2 X.K E f)) (ha : DP X E a τa) (hb : DP X E b τb) (hs : PlainIx b) : DP X E (.Subscript a b pos) (dOp f τa τb) := pe_mono (pe_ix hr ha hb hs) fun _ _ _ h => up_op h
abbrev DO := DEnv → Mm → (Option Int → Mm → Prop) → DX → Prop
def upO (K : PySem.W.Frag) (E : XK) (τ : DO) : TO := fun σ H Q => ∃ ρ s k x, s.H = H ∧ ER K s σ ρ ∧ τ ρ s.M k x ∧ (∀ o (t : Sta), k o t.M → Step s t → Ok K t → Q o t.H) ∧ PostX K E s x
def DPO (X : Cx) (E : XK) (e : Option Expr) (τ : DO) : Prop := PO X e (upO X.K E τ)
theorem po_mono {e : Option Expr} {t t' : TO} (h : PO X e t) (m : ∀ σ H Q, t' σ H Q → t σ H Q) : PO X e t' := ⟨fun pins s σ H Q I q => h.run pins s σ H Q I (m σ H Q q)⟩
def dNoPart : DO := fun _ M k _ => k none M
def dPart (τ : DE) : DO := fun ρ M k x => τ ρ M (fun u M1 => ∃ i, u = .int i ∧ k (some i) M1) x
theorem o_none : DPO X E none dNoPart := po_mono po_none fun σ H Q h => by
  obtain ⟨ρ, s, k, x, rfl, er, q, p, px⟩ := h
  exact p none s q (Step.refl s) er.ok
theorem o_some (h : DP X E e τa) : DPO X E (some e) (dPart τa) := po_mono (po_some h) fun σ H Q h => by
  obtain ⟨ρ, s, k, x, rfl, er, q, p, px⟩ := h
  refine ⟨ρ, s, _, x, rfl, er, q, fun u s1 q1 st1 ok1 v1 r1 => ?_, px⟩
  obtain ⟨i, rfl, q1⟩ := q1
  exact ⟨i, r1.int_of, p _ s1 q1 st1 ok1⟩
abbrev DSl := D → Option Int → Option Int → Mm → DK → Prop
def rSlD (K : PySem.W.Frag) (E : XK) (f : DSl) : V → Option Int → Option Int → Hp → VK → Prop := fun x lo hi H Q => ∃ s dx k, s.H = H ∧ Ok K s ∧ Rep K s.G x dx ∧ f dx lo hi s.M k ∧ Post K s k Q
def dSl (f : DSl) (τ : DE) (τl τh : DO) : DE := fun ρ M k x => τ ρ M (fun u M1 => τl ρ M1 (fun lo M2 => τh ρ M2 (fun hi M3 => f u lo hi M3 k) x) x) x
theorem d_slice {f : DSl} {τl τh : DO} {lo hi : Option Expr} {p2 : Pos} (hr : SlR X (rSlD X.K E f)) (he : DP X E e τa) (hl : DPO X E lo τl) (hu : DPO X E hi τh) : DP X E (.Subscript e (.Slice lo hi none p2) pos) (dSl f τa τl τh) := pe_mono (pe_slice hr he hl hu) fun σ H Q h => by
  obtain ⟨ρ, s, k, x, rfl, er, q, p, px⟩ := h
  refine ⟨ρ, s, _, x, rfl, er, q, fun u s1 q1 st1 ok1 v1 r1 => ?_, px⟩
  refine ⟨ρ, s1, _, x, rfl, er.step st1 ok1, q1, fun lo s2 q2 st2 ok2 => ?_, px.step st1⟩
  refine ⟨ρ, s2, _, x, rfl, er.step (st1.trans st2) ok2, q2, fun hi s3 q3 st3 ok3 => ?_, px.step (st1.trans st2)⟩
  exact ⟨s3, u, k, rfl, ok3, r1.same (st2.trans st3).same, q3, p.step ((st1.trans st2).trans st3)⟩
def cutD {α : Type} (xs : List α) (lo hi : Option Int) : List α := (xs.drop (HT.sIx xs.length 0 lo)).take (HT.sIx xs.length xs.length hi - HT.sIx xs.length 0 lo)
theorem cut_reps {K : PySem.W.Frag} {G : Hp} {vs : List V} {ds : List D} (r : Reps K G vs ds) (lo hi : Option Int) : Reps K G (cutV vs lo hi) (cutD ds lo hi) := by
  unfold cutV cutD
  rw [r.length]
  exact (r.drop _).take _
def dCut : DSl
  | .lst ds, lo, hi, M, k => k (.lst (cutD ds lo hi)) M
  | .tup ds, lo, hi, M, k => k (.tup (cutD ds lo hi)) M
  | .str z, lo, hi, M, k => z.length ≤ sizeLine ∧ k (.str (cutS z lo hi)) M
  | .scr ns, lo, hi, M, k => k (.lst ((cutD ns lo hi).map .int)) M
  | _, _, _, _, _ => False
theorem cutD_map {α β : Type} (f : α → β) (xs : List α) (lo hi : Option Int) : cutD (xs.map f) lo hi = (cutD xs lo hi).map f := by
  unfold cutD
  rw [List.length_map, List.map_take, List.map_drop]
theorem cutV_map {α : Type} (f : α → V) (xs : List α) (lo hi : Option Int) : cutV (xs.map f) lo hi = (cutD xs lo hi).map f := by
  unfold cutV cutD
  rw [List.length_map, List.map_take, List.map_drop]
theorem cutD_whole {α : Type} {xs : List α} {lo hi : Option Int} (h : HT.sIx xs.length 0 lo = 0 ∧ HT.sIx xs.length xs.length hi = xs.length) : cutD xs lo hi = xs := by
  unfold cutD
  rw [h.1, h.2]
  simp
theorem sl_D : SlR X (rSlD X.K E dCut) := by
  intro pins s σ H x v vl vu lo hi sl Q I rx hs pl pu h
  obtain ⟨s0, dx, k, rfl, ok, hx, q, p⟩ := h
  unfold dCut at q
  split at q
  · obtain ⟨l, vs, rfl, hl, r1⟩ := hx.lst_of
    exact sl_list pins s σ _ _ v vl vu _ _ sl Q I rx hs pl pu ⟨l, vs, rfl, SqL.of (ok.sub _ _ hl), fun t ht => p.lst q ok (cut_reps r1 _ _) ht⟩
  · obtain ⟨l, vs, rfl, hl, r1⟩ := hx.tup_of
    refine sl_tupA pins s σ _ _ v vl vu _ _ sl Q I rx hs pl pu ⟨l, vs, rfl, (Same.seqT ok.sub hl), fun hw => ?_, fun _ t ht => p.tup q ok (cut_reps r1 _ _) ht⟩
    rw [r1.length] at hw
    rw [cutD_whole hw] at q
    exact p.now q ok (.tup hl r1)
  · cases hx
    exact sl_str pins s σ _ _ v vl vu _ _ sl Q I rx hs pl pu ⟨_, rfl, q.1, p.now q.2 ok .str⟩
  · cases hx with
    | scr hl =>
      refine sl_list pins s σ _ _ v vl vu _ _ sl Q I rx hs pl pu ⟨_, _, rfl, Same.seqL ok.sub hl, fun t ht => ?_⟩
      rw [cutV_map]
      exact p.lst q ok (Reps.ints _) ht
  · exact q.elim
/-- o[i] = v of a changing list -/
def dSetIx (τo τi τv : DE) : DS := fun k x ρ M => τv ρ M (fun v M1 => τo ρ M1 (fun o M2 => τi ρ M2 (fun i M3 => ∃ a ds n j, o = .cel a ∧ i = .int n ∧ M3 a = some (.lst ds) ∧ ixN ds.length n = some j ∧ k.nx ρ (mup M3 a (.lst (ds.set j v)))) x) x) x
theorem s_setIx {o i v : Expr} {τo τi τv : DE} {pos' : Pos} (hv : DP X E v τv) (ho : DP X E o τo) (hi : DP X E i τi) (hs : swapsWithSole [.Subscript o i pos'] v pos.line X.env = pure false := by rfl) (hw : swappedStores [.Subscript o i pos'] v X.env = pure none := by rfl)
    (h1 : (assignEach [.Subscript o i pos'] X.env).map (·.2) = [assign (.Subscript o i pos') X.env] := by rfl)
    (hasg : ∀ v, assign (.Subscript o i pos') X.env v = (do
      let ov ← holding [v] (eval o X.env)
      let iv ← holding [v, ov] (eval i X.env)
      standAt pos'
      holding [v, ov, iv] (setItem ov iv v)
      release [v, ov, iv] []) := by intro _; rfl) :
    DPS X E (.Assign [.Subscript o i pos'] v pos) (dSetIx τo τi τv) := ps_mono (ps_asg hv (pg_sub ho hi set_list hasg) hs hw h1) fun D σ H h => by
  obtain ⟨ρ, s, k, x, rfl, er, q, p, px⟩ := h
  refine ⟨ρ, s, _, x, rfl, er, q, fun u s1 q1 st1 ok1 v1 r1 => ?_, px⟩
  refine ⟨ρ, s1, _, x, rfl, er.step st1 ok1, q1, fun w s2 q2 st2 ok2 v2 r2 => ?_, px.step st1⟩
  refine ⟨ρ, s2, _, x, rfl, er.step (st1.trans st2) ok2, q2, fun z s3 q3 st3 ok3 v3 r3 => ?_, px.step (st1.trans st2)⟩
  obtain ⟨a, ds, n, j, rfl, rfl, hm, hj, q3⟩ := q3
  obtain ⟨vs, e, rs⟩ := ok3.cells _ _ hm
  have st : Step s s3 := (st1.trans st2).trans st3
  obtain ⟨k4, st4⟩ := ok3.put (p := a) (o := .lst (vs.set j v1)) (mo := .lst (ds.set j u)) (by rw [hm]; rfl) ⟨_, rfl, Reps.set (r1.same (st2.trans st3).same) j rs⟩
  exact ⟨a, vs, n, j, r2.cel_of, r3.int_of, e, by rw [rs.length]; exact hj, p.nx ρ ⟨_, _, _⟩ q3 (st.trans st4) σ (er.step (st.trans st4) k4)⟩

/-! ### built-ins -/
def dLen : DN
  | [.str z], M, k, _ => z.length ≤ sizeLine ∧ k (.int z.length) M
  | [.lst ds], M, k, _ => k (.int ds.length) M
  | [.tup ds], M, k, _ => k (.int ds.length) M
  | [.scr ns], M, k, _ => k (.int ns.length) M
  | [.cel a], M, k, _ => ∃ ds, M a = some (.lst ds) ∧ k (.int ds.length) M
  | _, _, _, _ => False
theorem c_len : CallR X (.builtin "len") (rA X.K E dLen) := by
  intro pins s σ H xs us Q I r h
  obtain ⟨s0, ds, k, xx, rfl, ok, hx, q, p, px⟩ := h
  unfold dLen at q
  split at q
  · obtain ⟨v, rfl, rv⟩ := hx.one
    cases rv
    exact call_len pins s σ _ _ us Q I r ⟨_, _, rfl, ⟨q.1, rfl⟩, p.now q.2 ok .int⟩
  · obtain ⟨v, rfl, rv⟩ := hx.one
    obtain ⟨l, vs, rfl, hl, r1⟩ := rv.lst_of
    refine call_len pins s σ _ _ us Q I r ⟨_, vs.length, rfl, .inl ⟨vs, SqL.of (ok.sub _ _ hl), rfl⟩, ?_⟩
    rw [r1.length]
    exact p.now q ok .int
  · obtain ⟨v, rfl, rv⟩ := hx.one
    obtain ⟨l, vs, rfl, hl, r1⟩ := rv.tup_of
    refine call_len pins s σ _ _ us Q I r ⟨_, vs.length, rfl, .inr ⟨vs, (Same.seqT ok.sub hl), rfl⟩, ?_⟩
    rw [r1.length]
    exact p.now q ok .int
  · obtain ⟨v, rfl, rv⟩ := hx.one
    cases rv with
    | scr hl =>
      refine call_len pins s σ _ _ us Q I r ⟨_, _, rfl, .inl ⟨_, Same.seqL ok.sub hl, rfl⟩, ?_⟩
      rw [List.length_map]
      exact p.now q ok .int
  · obtain ⟨v, rfl, rv⟩ := hx.one
    cases rv
    obtain ⟨ds, hm, q⟩ := q
    obtain ⟨vs, e, r1⟩ := ok.cells _ _ hm
    refine call_len pins s σ _ _ us Q I r ⟨_, vs.length, rfl, .inl ⟨vs, SqL.of e, rfl⟩, ?_⟩
    rw [r1.length]
    exact p.now q ok .int
  · exact q.elim
def dAbs : DN
  | [.int i], M, k, _ => k (.int (if i < 0 then -i else i)) M
  | _, _, _, _ => False
theorem c_abs : CallR X (.builtin "abs") (rA X.K E dAbs) := by
  intro pins s σ H xs us Q I r h
  obtain ⟨s0, ds, k, xx, rfl, ok, hx, q, p, px⟩ := h
  unfold dAbs at q
  split at q
  · obtain ⟨v, rfl, rv⟩ := hx.one
    cases rv
    exact call_abs pins s σ _ _ us Q I r ⟨_, rfl, p.now q ok .int⟩
  · exact q.elim
def dMin2 : DN
  | [.int i, .int j], M, k, _ => k (.int (if j < i then j else i)) M
  | _, _, _, _ => False
theorem c_min2 (hc : X.calm = true) : CallR X (.builtin "min") (rA X.K E dMin2) := by
  intro pins s σ H xs us Q I r h
  obtain ⟨s0, ds, k, xx, rfl, ok, hx, q, p, px⟩ := h
  unfold dMin2 at q
  split at q
  · obtain ⟨v, w, rfl, rv, rw'⟩ := hx.two
    cases rv; cases rw'
    exact call_min2 hc pins s σ _ _ us Q I r ⟨_, _, rfl, p.now q ok .int⟩
  · exact q.elim
def dInt : DN
  | [.int i], M, k, _ => k (.int i) M
  | [.bl b], M, k, _ => k (.int (if b then 1 else 0)) M
  | _, _, _, _ => False
theorem c_int : CallR X (.type "int") (rA X.K E dInt) := by
  intro pins s σ H xs us Q I r h
  obtain ⟨s0, ds, k, xx, rfl, ok, hx, q, p, px⟩ := h
  unfold dInt at q
  split at q
  · obtain ⟨v, rfl, rv⟩ := hx.one
    cases rv
    exact call_int1 pins s σ _ _ us Q I r (.inl ⟨_, rfl, p.now q ok .int⟩)
  · obtain ⟨v, rfl, rv⟩ := hx.one
    cases rv
    exact call_int1 pins s σ _ _ us Q I r (.inr ⟨_, rfl, p.now q ok .int⟩)
  · exact q.elim
def dStrI : DN
  | [.int i], M, k, _ => i.natAbs.log2 < 1920 ∧ k (.str (toString i)) M
  | _, _, _, _ => False
theorem c_str : CallR X (.type "str") (rA X.K E dStrI) := by
  intro pins s σ H xs us Q I r h
  obtain ⟨s0, ds, k, xx, rfl, ok, hx, q, p, px⟩ := h
  unfold dStrI at q
  split at q
  · obtain ⟨v, rfl, rv⟩ := hx.one
    cases rv
    exact call_str_int pins s σ _ _ us Q I r ⟨_, rfl, q.1, p.now q.2 ok .str⟩
  · exact q.elim
theorem Reps.bls {K : PySem.W.Frag} {G : Hp} : ∀ {bs : List Bool} {vs : List V}, Reps K G vs (bs.map D.bl) → vs = bs.map V.bl
  | [], _, h => by cases h; rfl
  | b :: bs, _, h => by
    cases h with
    | cons h1 h2 =>
      cases h1
      rw [Reps.bls h2]
      rfl
theorem Reps.strs {K : PySem.W.Frag} {G : Hp} : ∀ {bs : List Str} {vs : List V}, Reps K G vs (bs.map D.str) → vs = bs.map V.str
  | [], _, h => by cases h; rfl
  | b :: bs, _, h => by
    cases h with
    | cons h1 h2 =>
      cases h1
      rw [Reps.strs h2]
      rfl
/-- all, any of a list of bools -/
def dAll : DN := fun ds M k _ => ∃ bs : List Bool, ds = [.lst (bs.map .bl)] ∧ k (.bl (bs.all id)) M
def dAny : DN := fun ds M k _ => ∃ bs : List Bool, ds = [.lst (bs.map .bl)] ∧ k (.bl (bs.any id)) M
theorem c_all (hc : X.calm = true) : CallR X (.builtin "all") (rA X.K E dAll) := by
  intro pins s σ H xs us Q I r h
  obtain ⟨s0, ds, k, xx, rfl, ok, hx, ⟨bs, rfl, q⟩, p, px⟩ := h
  obtain ⟨v, rfl, rv⟩ := hx.one
  obtain ⟨l, vs, rfl, hl, r1⟩ := rv.lst_of
  have e := Reps.bls r1
  subst e
  exact cr_all hc pins s σ _ _ us Q I r ⟨l, bs, rfl, SqL.of (ok.sub _ _ hl), p.now q ok .bl⟩
theorem c_any (hc : X.calm = true) : CallR X (.builtin "any") (rA X.K E dAny) := by
  intro pins s σ H xs us Q I r h
  obtain ⟨s0, ds, k, xx, rfl, ok, hx, ⟨bs, rfl, q⟩, p, px⟩ := h
  obtain ⟨v, rfl, rv⟩ := hx.one
  obtain ⟨l, vs, rfl, hl, r1⟩ := rv.lst_of
  have e := Reps.bls r1
  subst e
  exact cr_any hc pins s σ _ _ us Q I r ⟨l, bs, rfl, SqL.of (ok.sub _ _ hl), p.now q ok .bl⟩
/-- list(x) of a list or a tuple -/
def dList : DN
  | [.lst ds], M, k, _ => k (.lst ds) M
  | [.tup ds], M, k, _ => k (.lst ds) M
  | _, _, _, _ => False
theorem c_list : CallR X (.type "list") (rA X.K E dList) := by
  intro pins s σ H xs us Q I r h
  obtain ⟨s0, ds, k, xx, rfl, ok, hx, q, p, px⟩ := h
  unfold dList at q
  split at q
  · obtain ⟨v, rfl, rv⟩ := hx.one
    obtain ⟨l, vs, rfl, hl, r1⟩ := rv.lst_of
    exact call_list_of pins s σ _ _ us Q I r ⟨l, vs, rfl, .inl (SqL.of (ok.sub _ _ hl)), fun t ht => p.lst q ok r1 ht⟩
  · obtain ⟨v, rfl, rv⟩ := hx.one
    obtain ⟨l, vs, rfl, hl, r1⟩ := rv.tup_of
    exact call_list_of pins s σ _ _ us Q I r ⟨l, vs, rfl, .inr ((Same.seqT ok.sub hl)), fun t ht => p.lst q ok r1 ht⟩
  · exact q.elim
/-- tuple(x) -/
def dTuple : DN
  | [.lst ds], M, k, _ => k (.tup ds) M
  | [.tup ds], M, k, _ => k (.tup ds) M
  | _, _, _, _ => False
theorem c_tuple : CallR X (.type "tuple") (rA X.K E dTuple) := by
  intro pins s σ H xs us Q I r h
  obtain ⟨s0, ds, k, xx, rfl, ok, hx, q, p, px⟩ := h
  unfold dTuple at q
  split at q
  · obtain ⟨v, rfl, rv⟩ := hx.one
    obtain ⟨l, vs, rfl, hl, r1⟩ := rv.lst_of
    exact call_tuple_of pins s σ _ _ us Q I r ⟨l, vs, rfl, .inl ⟨SqL.of (ok.sub _ _ hl), fun t ht => p.tup q ok r1 ht⟩⟩
  · obtain ⟨v, rfl, rv⟩ := hx.one
    obtain ⟨l, vs, rfl, hl, r1⟩ := rv.tup_of
    exact call_tuple_of pins s σ _ _ us Q I r ⟨l, vs, rfl, .inr ⟨(Same.seqT ok.sub hl), p.now q ok (.tup hl r1)⟩⟩
  · exact q.elim

/-! ### methods of built-in types -/
def dBM (f : D → List D → Mm → DK → DX → Prop) (τ : DE) (α : DA) : DE := fun ρ M k x => τ ρ M (fun u M1 => α ρ M1 (fun ds M2 => f u ds M2 k x) x) x
def rM (K : PySem.W.Frag) (E : XK) (f : D → List D → Mm → DK → DX → Prop) : V → List V → Hp → VK → Prop := fun x xs H Q => ∃ s dx ds k xx, s.H = H ∧ Ok K s ∧ Rep K s.G x dx ∧ Reps K s.G xs ds ∧ f dx ds s.M k xx ∧ Post K s k Q ∧ PostX K E s xx
/-- the receiver is of the type T: told by a test of the datum -/
def tyD (T : String) : D → Mm → Prop
  | .str _, _ => T = "str"
  | .int _, _ => T = "int"
  | .lst _, _ => T = "list"
  | .cel a, M => T = "list" ∧ ∃ ds, M a = some (.lst ds)
  | _, _ => False
theorem tyV_of {K : PySem.W.Frag} {s : Sta} {T : String} {v : V} {d : D} (ok : Ok K s) (r : Rep K s.G v d) (h : tyD T d s.M) : tyV K T v s.H := by
  cases r with
  | str => exact h
  | int => exact h
  | lst hl r => exact .inl ⟨h, _, SqL.of (ok.sub _ _ hl)⟩
  | cel =>
    obtain ⟨h1, ds, h2⟩ := h
    obtain ⟨vs, e, r1⟩ := ok.cells _ _ h2
    exact .inl ⟨h1, _, SqL.of e⟩
  | _ => exact h.elim
def dBMt (T : String) (f : D → List D → Mm → DK → DX → Prop) (τ : DE) (α : DA) : DE := fun ρ M k x => τ ρ M (fun u M1 => tyD T u M1 ∧ α ρ M1 (fun ds M2 => f u ds M2 k x) x) x
theorem d_bm {T id : String} {name : Str} {apos cpos : Pos} {o : Expr} {τo : DE} {f : D → List D → Mm → DK → DX → Prop} (pa : PlainAttrs T) (slot : Slot T name id) (hty : typeOf (.builtin id) = pure (.type "method_descriptor")) (hm : MtR X id (rM X.K E f)) (ho : DP X E o τo) (ha : DPA X E (e :: es) αa)
    (hbase : attributeBase o name X.env (eval o X.env) = eval o X.env := by rfl)
    (hfew : ((backTo cpos (starEach (e :: es) X.env)).all (fun x => !x.1) && (backToKw cpos (keywordEach [] X.env)).all (fun x => x.1.isSome)
      && decide ((e :: es).length + ([] : List Keyword).length + (if ([] : List Keyword).isEmpty then 0 else 1) < 30)) = true := by rfl)
    (hline : (apos.endLine == cpos.line) = true := by rfl) (hs : starEach (e :: es) X.env = (false, eval e X.env) :: starEach es X.env := by rfl) (hplain : (backTo cpos (starEach es X.env)).any (·.1) = false := by rfl) :
    DP X E (.Call (.Attribute o name apos) (e :: es) [] cpos) (dBMt T f τo αa) := pe_mono (pe_bm pa slot hty hm ho ha hbase hfew hline hs hplain) fun σ H Q h => by
  obtain ⟨ρ, s, k, x, rfl, er, q, p, px⟩ := h
  refine ⟨ρ, s, _, x, rfl, er, q, fun u s1 q1 st1 ok1 v1 r1 => ⟨tyV_of ok1 r1 q1.1, ?_⟩, px⟩
  refine ⟨ρ, s1, _, x, rfl, er.step st1 ok1, q1.2, fun us s2 q2 st2 ok2 vs r2 => ?_, px.step st1⟩
  exact ⟨s2, u, us, k, x, rfl, ok2, r1.same st2.same, r2, q2, p.step (st1.trans st2), px.step (st1.trans st2)⟩
/-- xs.append(y) of a changing list -/
def dAppend : D → List D → Mm → DK → DX → Prop
  | .cel a, [y], M, k, _ => ∃ ds, M a = some (.lst ds) ∧ ds.length < sizeLine ∧ k .non (mup M a (.lst (ds ++ [y])))
  | _, _, _, _, _ => False
theorem m_append : MtR X "list.append" (rM X.K E dAppend) := by
  intro pins s σ H x xs v us Q I rx rs h
  obtain ⟨s0, dx, ds, k, xx, rfl, ok, hx, hxs, q, p, px⟩ := h
  unfold dAppend at q
  split at q
  · cases hx
    obtain ⟨ds, hm, hz, q⟩ := q
    obtain ⟨y, rfl, ry⟩ := hxs.one
    obtain ⟨vs, e, r1⟩ := ok.cells _ _ hm
    obtain ⟨k4, st4⟩ := ok.put (o := .lst (vs ++ [y])) (mo := .lst (ds ++ [_])) (by rw [hm]; rfl) ⟨_, rfl, r1.append (.cons ry .nil)⟩
    exact mt_append pins s σ _ _ _ v us Q I rx rs ⟨_, vs, y, rfl, rfl, e, by rw [r1.length]; exact hz, p _ ⟨_, _, _⟩ q st4 k4 _ .non⟩
  · exact q.elim
/-- xs.insert(i, y) -/
def dInsert : D → List D → Mm → DK → DX → Prop
  | .cel a, [.int i, y], M, k, _ => ∃ ds, M a = some (.lst ds) ∧ ds.length < sizeLine ∧ 0 ≤ i ∧ i < 2 ^ 63 ∧ k .non (mup M a (.lst (ds.take i.toNat ++ [y] ++ ds.drop i.toNat)))
  | _, _, _, _, _ => False
theorem m_insert : MtR X "list.insert" (rM X.K E dInsert) := by
  intro pins s σ H x xs v us Q I rx rs h
  obtain ⟨s0, dx, ds, k, xx, rfl, ok, hx, hxs, q, p, px⟩ := h
  unfold dInsert at q
  split at q
  · cases hx
    obtain ⟨ds, hm, hz, h0, h1, q⟩ := q
    obtain ⟨iv, y, rfl, ri, ry⟩ := hxs.two
    cases ri
    obtain ⟨vs, e, r1⟩ := ok.cells _ _ hm
    obtain ⟨k4, st4⟩ := ok.put (o := .lst (vs.take _ ++ [y] ++ vs.drop _)) (mo := .lst (ds.take _ ++ [_] ++ ds.drop _)) (by rw [hm]; rfl) ⟨_, rfl, ((r1.take _).append (.cons ry .nil)).append (r1.drop _)⟩
    exact mt_insert pins s σ _ _ _ v us Q I rx rs ⟨_, vs, _, y, rfl, rfl, e, by rw [r1.length]; exact hz, h0, h1, p _ ⟨_, _, _⟩ q st4 k4 _ .non⟩
  · exact q.elim
/-- xs.index(y), flat, the first place -/
def firstIx (y : D) : List D → Option Nat
  | [] => none
  | x :: xs => if eqF x y = true then some 0 else (firstIx y xs).map (· + 1)
theorem firstIx_spec {y : D} : ∀ {xs : List D} {j : Nat}, firstIx y xs = some j → (∃ z, xs[j]? = some z ∧ eqF z y = true) ∧ ∀ (m : Nat) z, m < j → xs[m]? = some z → eqF z y = false
  | [], _, h => by cases h
  | x :: xs, j, h => by
    unfold firstIx at h
    split at h
    · rename_i hx
      cases h
      exact ⟨⟨x, rfl, hx⟩, fun m z hm => by omega⟩
    · rename_i hx
      cases e : firstIx y xs with
      | none => rw [e] at h; cases h
      | some i =>
        rw [e] at h
        have hj : j = i + 1 := (Option.some.inj h).symm
        subst hj
        obtain ⟨⟨z, h1, h2⟩, h3⟩ := firstIx_spec e
        refine ⟨⟨z, by simpa using h1, h2⟩, fun m z hm hz => ?_⟩
        cases m with
        | zero =>
          have : x = z := by simpa using hz
          subst this
          simpa using hx
        | succ m => exact h3 m z (by omega) (by simpa using hz)
def dIndex : D → List D → Mm → DK → DX → Prop
  | .lst ds, [y], M, k, _ => flatD y = true ∧ ds.all flatD = true ∧ ∃ j : Nat, firstIx y ds = some j ∧ k (.int j) M
  | _, _, _, _, _ => False
theorem m_index : MtR X "list.index" (rM X.K E dIndex) := by
  intro pins s σ H x xs v us Q I rx rs h
  obtain ⟨s0, dx, ds, k, xx, rfl, ok, hx, hxs, q, p, px⟩ := h
  unfold dIndex at q
  split at q
  · obtain ⟨l, vs, rfl, hl, r1⟩ := hx.lst_of
    obtain ⟨fy, fd, j, hj, q⟩ := q
    obtain ⟨y, rfl, ry⟩ := hxs.one
    obtain ⟨e1, e2⟩ := ry.flat fy
    obtain ⟨_, e4⟩ := inV_of (x := _) e1 r1 fd
    obtain ⟨⟨z, h1, h2⟩, h3⟩ := firstIx_spec hj
    obtain ⟨zv, h4, rz⟩ := r1.get h1
    have fz : flatD z = true := List.all_eq_true.mp fd z (List.mem_of_getElem? h1)
    obtain ⟨e5, e6⟩ := rz.flat fz
    refine mt_index pins s σ _ _ _ v us Q I rx rs ⟨l, vs, y, j, zv, rfl, rfl, SqL.of (ok.sub _ _ hl), e2, e4, h4, ?_, fun m z' hm hz' => ?_, p.now q ok .int⟩
    · rw [e5, e1]; exact h2
    · obtain ⟨d', g1, g2⟩ := r1.getV hz'
      have fz' : flatD d' = true := List.all_eq_true.mp fd d' (List.mem_of_getElem? g1)
      obtain ⟨e7, _⟩ := g2.flat fz'
      rw [e7, e1]
      exact h3 m d' hm g1
  · exact q.elim
/-- sep.join(xs) -/
def dJoin : D → List D → Mm → DK → DX → Prop := fun x ds M k _ => ∃ (a : Str) (ys : List Str), x = .str a ∧ ds = [.lst (ys.map .str)] ∧ (ys.map (·.length)).sum + ys.length * a.length ≤ 16777216 ∧ k (.str (Txt.join a ys)) M
theorem m_join : MtR X "str.join" (rM X.K E dJoin) := by
  intro pins s σ H x xs v us Q I rx rs h
  obtain ⟨s0, dx, ds, k, xx, rfl, ok, hx, hxs, ⟨a, ys, rfl, rfl, hz, q⟩, p, px⟩ := h
  cases hx
  obtain ⟨y, rfl, ry⟩ := hxs.one
  obtain ⟨l, vs, rfl, hl, r1⟩ := ry.lst_of
  have e := Reps.strs r1
  subst e
  exact mt_join pins s σ _ _ _ v us Q I rx rs ⟨a, l, ys, rfl, rfl, .inl (SqL.of (ok.sub _ _ hl)), hz, p.now q ok .str⟩
end
end DL
set_option Elab.async false
set_option linter.all false
set_option maxRecDepth 100000
set_option maxHeartbeats 2000000
namespace DL
open PySem PySem.Spec PyProof.Rows L2

/-! ### kinds of data -/
inductive Kd where
  | non | bl | int | str | lst | tup
  deriving DecidableEq
def Kd.nm : Kd → String
  | .non => "NoneType" | .bl => "bool" | .int => "int" | .str => "str" | .lst => "list" | .tup => "tuple"
def isK (T u : Kd) : Bool := T == u || (T == .int && u == .bl)
theorem kit_K : ∀ (T u : Kd), T ≠ .non → kitB u.nm T.nm = some (isK T u)
  | .non, _, h => absurd rfl h
  | .bl, .non, _ => by decide +kernel
  | .bl, .bl, _ => by decide +kernel
  | .bl, .int, _ => by decide +kernel
  | .bl, .str, _ => by decide +kernel
  | .bl, .lst, _ => by decide +kernel
  | .bl, .tup, _ => by decide +kernel
  | .int, .non, _ => by decide +kernel
  | .int, .bl, _ => by decide +kernel
  | .int, .int, _ => by decide +kernel
  | .int, .str, _ => by decide +kernel
  | .int, .lst, _ => by decide +kernel
  | .int, .tup, _ => by decide +kernel
  | .str, .non, _ => by decide +kernel
  | .str, .bl, _ => by decide +kernel
  | .str, .int, _ => by decide +kernel
  | .str, .str, _ => by decide +kernel
  | .str, .lst, _ => by decide +kernel
  | .str, .tup, _ => by decide +kernel
  | .lst, .non, _ => by decide +kernel
  | .lst, .bl, _ => by decide +kernel
  | .lst, .int, _ => by decide +kernel
  | .lst, .str, _ => by decide +kernel
  | .lst, .lst, _ => by decide +kernel
  | .lst, .tup, _ => by decide +kernel
  | .tup, .non, _ => by decide +kernel
  | .tup, .bl, _ => by decide +kernel
  | .tup, .int, _ => by decide +kernel
  | .tup, .str, _ => by decide +kernel
  | .tup, .lst, _ => by decide +kernel
  | .tup, .tup, _ => by decide +kernel
/-- a kind, or an own class -/
def kdD : D → Mm → Option (Sum Kd Addr)
  | .non, _ => some (.inl .non)
  | .bl _, _ => some (.inl .bl)
  | .int _, _ => some (.inl .int)
  | .str _, _ => some (.inl .str)
  | .lst _, _ => some (.inl .lst)
  | .tup _, _ => some (.inl .tup)
  | .scr _, _ => none
  | .exc _ _ _, _ => none
  | .lam _ _ _ _ _, _ => none
  | .obj C _, _ => some (.inr C)
  | .cel a, M => match M a with
    | some (.lst _) => some (.inl .lst)
    | some (.ins C _) => some (.inr C)
    | some (.tbl _) => none
    | none => none
/-- what a class must have for isinstance -/
structure ClsI (K : PySem.W.Frag) (C : Addr) : Prop where
  cl : Cls K C
  ha : PySem.W.findIn K (.ref C) "__class__" = some (some (.builtin "object.__class__"))
  hn : PySem.W.specialIn K (.builtin "object.__class__") "__get__" = some (some (.builtin "getset_descriptor.__get__"))
  htk : PySem.W.takesIn K (.builtin "object.__class__") = some true
  hm : PySem.W.mroIn K C (.type "object") = some true
theorem tyX_of {K : PySem.W.Frag} {s : Sta} {v : V} {d : D} (ok : Ok K s) (r : Rep K s.G v d) : (∀ u, kdD d s.M = some (.inl u) → TyX K s.H v (.type u.nm)) ∧ ∀ C, kdD d s.M = some (.inr C) → ClsI K C → TyX K s.H v (.ref C) := by
  refine ⟨fun u e => ?_, fun C e c => ?_⟩
  · cases r with
    | non => cases e; exact .base .non
    | bl => cases e; exact .base (.bl _)
    | int => cases e; exact .base (.int _)
    | str => cases e; exact .base (.str _)
    | lst h _ => cases e; exact .base (.lst (ok.sub _ _ h))
    | tup h _ =>
      cases e
      rcases Same.seqT ok.sub h with (h | ⟨o, h⟩) | ⟨o, its, n, h, hc, _⟩
      · exact .base (.tup h)
      · exact .fTuple h
      · exact .kTuple h hc
    | obj h _ => cases e
    | scr h => cases e
    | exc h r => cases e
    | lam h hc ht => cases e
    | @cel a =>
      simp only [kdD] at e
      split at e
      · rename_i ds hm
        cases e
        obtain ⟨vs, e, _⟩ := ok.cells _ _ hm
        exact .base (.lst e)
      · cases e
      · cases e
      · cases e
  · cases r with
    | non => cases e
    | bl => cases e
    | int => cases e
    | str => cases e
    | lst h _ => cases e
    | tup h _ => cases e
    | obj h _ => cases e; exact .base (.ins (ok.sub _ _ h) c.cl c.ha c.hn c.htk c.hm)
    | scr h => cases e
    | exc h r => cases e
    | lam h hc ht => cases e
    | @cel a =>
      simp only [kdD] at e
      split at e
      · cases e
      · rename_i C' fs hm
        cases e
        obtain ⟨dx, fvs, e, _⟩ := ok.cells _ _ hm
        exact .base (.ins e c.cl c.ha c.hn c.htk c.hm)
      · cases e
      · cases e
def dIsiB (T : Kd) (CS : List Addr) : D1 := fun u M k _ => match kdD u M with
  | some (.inl u') => k (.bl (isK T u')) M
  | some (.inr C) => C ∈ CS ∧ k (.bl false) M
  | none => False
def dIsiC (C0 : Addr) (CS : List Addr) : D1 := fun u M k _ => match kdD u M with
  | some (.inl _) => k (.bl false) M
  | some (.inr C) => C ∈ CS ∧ k (.bl (decide (C = C0))) M
  | none => False
section
variable {X : Cx} {E : XK} {e a b c : Expr} {p pos : Pos} {τa τb τc : DE} {αa : DA} {es : List Expr}
/-- isinstance(e, T), T a built-in class -/
theorem d_isi {q : Pos} {x : Str} (T : Kd) (CS : List Addr) (hT : T ≠ .non) (hC : ∀ C ∈ CS, ClsI X.K C ∧ PySem.W.kitOne X.K (.ref C) (.type T.nm) = some false) (hg : Gl X "isinstance") (hm : X.mg "isinstance" = none) (hgT : Gl X x) (hmT : X.mg x = none) (hvT : bootBuiltins x = some (.type T.nm)) (he : DP X E e τa)
    (hn : x ≠ "__name__" := by decide) (hd : (x == ("__debug__" : Str)) = false := by decide) (hs : starEach [e, .Name x q] X.env = (false, eval e X.env) :: starEach [.Name x q] X.env := by rfl) (hs2 : starEach [.Name x q] X.env = (false, eval (.Name x q) X.env) :: starEach [] X.env := by rfl) (hpl : (backTo pos (starEach [.Name x q] X.env)).any (·.1) = false := by rfl) :
    DP X E (.Call (.Name "isinstance" p) [e, .Name x q] [] pos) (dUn (dIsiB T CS) τa) :=
  pe_mono (pe_callB call_isi hg hm (by decide +kernel) (pa_cons he (pa_cons (pe_bltn (v := .ty T.nm) hgT hmT hvT rfl hn hd) pa_nil hs2) hs) (by decide) (by decide) hs hpl) fun σ H Q h => by
    obtain ⟨ρ, s, k, xx, rfl, er, q, pp, px⟩ := h
    refine ⟨ρ, s, _, xx, rfl, er, q, fun u s1 q1 st1 ok1 v1 r1 => ?_, px⟩
    obtain ⟨t1, t2⟩ := tyX_of ok1 r1
    change dIsiB T CS u s1.M k xx at q1
    unfold dIsiB at q1
    split at q1
    · rename_i u' hu
      exact ⟨v1, .ty T.nm, .type u'.nm, .type T.nm, isK T u', rfl, .ty _, t1 u' hu, kit_ty (kit_K T u' hT), pp _ s1 q1 st1 ok1 _ .bl⟩
    · rename_i C hu
      obtain ⟨c1, c2⟩ := hC C q1.1
      exact ⟨v1, .ty T.nm, .ref C, .type T.nm, false, rfl, .ty _, t2 C hu c1, c2, pp _ s1 q1.2 st1 ok1 _ .bl⟩
    · exact q1.elim
/-- isinstance(e, C0), C0 an own class -/
theorem d_isiC {q : Pos} {x : Str} (C0 : Addr) (CS : List Addr) (hC : ∀ C ∈ CS, ClsI X.K C ∧ PySem.W.kitOne X.K (.ref C) (.ref C0) = some (decide (C = C0))) (hB : ∀ u : Kd, PySem.W.kitOne X.K (.type u.nm) (.ref C0) = some false) (hg : Gl X "isinstance") (hm : X.mg "isinstance" = none) (hgT : Gl X x) (hmT : X.mg x = some (.ref C0)) (he : DP X E e τa)
    (hd : (x == ("__debug__" : Str)) = false := by decide) (hs : starEach [e, .Name x q] X.env = (false, eval e X.env) :: starEach [.Name x q] X.env := by rfl) (hs2 : starEach [.Name x q] X.env = (false, eval (.Name x q) X.env) :: starEach [] X.env := by rfl) (hpl : (backTo pos (starEach [.Name x q] X.env)).any (·.1) = false := by rfl) :
    DP X E (.Call (.Name "isinstance" p) [e, .Name x q] [] pos) (dUn (dIsiC C0 CS) τa) :=
  pe_mono (pe_callB call_isi hg hm (by decide +kernel) (pa_cons he (pa_cons (pe_glob (v := .ref C0) hgT hmT rfl hd) pa_nil hs2) hs) (by decide) (by decide) hs hpl) fun σ H Q h => by
    obtain ⟨ρ, s, k, xx, rfl, er, q, pp, px⟩ := h
    refine ⟨ρ, s, _, xx, rfl, er, q, fun u s1 q1 st1 ok1 v1 r1 => ?_, px⟩
    obtain ⟨t1, t2⟩ := tyX_of ok1 r1
    change dIsiC C0 CS u s1.M k xx at q1
    unfold dIsiC at q1
    split at q1
    · rename_i u' hu
      exact ⟨v1, .ref C0, .type u'.nm, .ref C0, false, rfl, .own _, t1 u' hu, hB u', pp _ s1 q1 st1 ok1 _ .bl⟩
    · rename_i C hu
      obtain ⟨c1, c2⟩ := hC C q1.1
      exact ⟨v1, .ref C0, .ref C, .ref C0, _, rfl, .own _, t2 C hu c1, c2, pp _ s1 q1.2 st1 ok1 _ .bl⟩
    · exact q1.elim

end

/-! ### small facts for printed terms -/
theorem d_globE {X : Cx} {E : XK} {x : Str} {d : D} {pos : Pos} (hg : Gl X x) (hm : ∃ u, X.mg x = some u ∧ KC d u) (hd : (x == ("__debug__" : Str)) = false := by decide) : DP X E (.Name x pos) (dC d) := by
  obtain ⟨u, h1, h2⟩ := hm
  exact d_glob hg h1 h2 hd
theorem boot_len' : bootBuiltins "len" = some (.builtin "len") := by decide +kernel
theorem boot_abs' : bootBuiltins "abs" = some (.builtin "abs") := by decide +kernel
theorem boot_all' : bootBuiltins "all" = some (.builtin "all") := by decide +kernel
theorem boot_any' : bootBuiltins "any" = some (.builtin "any") := by decide +kernel
theorem boot_min' : bootBuiltins "min" = some (.builtin "min") := by decide +kernel
theorem boot_int' : bootBuiltins "int" = some (.type "int") := by decide +kernel
theorem boot_list' : bootBuiltins "list" = some (.type "list") := by decide +kernel
theorem boot_tuple' : bootBuiltins "tuple" = some (.type "tuple") := by decide +kernel
theorem boot_str' : bootBuiltins "str" = some (.type "str") := by decide +kernel
theorem boot_bool' : bootBuiltins "bool" = some (.type "bool") := by decide +kernel
theorem fund_mk {K : PySem.W.Frag} {x qual : Str} {params : Arguments} {body : List Stmt} {scope : Scope} {f : Addr} {oc : Value} {od an : Option Addr} {osl : Array (Option Value)} {kV doc pm cdv ct : Value} (l : K.lookup f = some ⟨oc, od, .func (PySem.W.fnOf x qual params body scope .none kV doc pm an cdv ct), osl⟩)
    (c : PySem.W.codeIn K cdv qual = true) (k : PySem.W.keepIn K (.ref f) = true) : FunD K x qual params body scope [] [] f (PySem.W.fnOf x qual params body scope .none kV doc pm an cdv ct) :=
  ⟨⟨oc, od, .none, kV, doc, pm, an, cdv, ct, osl, rfl, l, c, .inl ⟨rfl, rfl⟩, .inl rfl⟩, k⟩
theorem kbd_of {K : PySem.W.Frag} {x qual : Str} {params : Arguments} {body : List Stmt} {scope : Scope} {f : Addr} {fd : FuncData} {ps : List Str} {n : Nat} (F : FunD K x qual params body scope [] [] f fd) (hn : n = ps.length)
    (h : ∀ (kV doc pm : Value) (an : Option Addr) (cdv ct : Value) (us : List Value), us.length = ps.length → bindArgs (PySem.W.fnOf x qual params body scope .none kV doc pm an cdv ct) ⟨us, []⟩ = pure (ps.zip us)) : KBd K fd ps n [] (fun us _ => us) := by
  obtain ⟨oc, od, dV, kV, doc, pm, an, cdv, ct, osl, rfl, lk, hcd, hD, hK⟩ := F.ex
  rcases hD with ⟨_, rfl⟩ | ⟨e, _⟩
  · exact kbd_plain hn (h kV doc pm an cdv ct)
  · exact absurd rfl e
theorem kbdk_of {K : PySem.W.Frag} {x qual : Str} {params : Arguments} {body : List Stmt} {scope : Scope} {f : Addr} {fd : FuncData} {ps ks : List Str} {n : Nat} (F : FunD K x qual params body scope [] [] f fd) (l : List (Sum Nat Nat))
    (h : ∀ (kV doc pm : Value) (an : Option Addr) (cdv ct : Value) (us ws : List Value), us.length = n → ws.length = ks.length → bindArgs (PySem.W.fnOf x qual params body scope .none kV doc pm an cdv ct) ⟨us, ks.zip ws⟩ = pure (ps.zip (pickA us ws l))) : KBd K fd ps n ks (fun us ws => pickA us ws l) := by
  obtain ⟨oc, od, dV, kV, doc, pm, an, cdv, ct, osl, rfl, lk, hcd, hD, hK⟩ := F.ex
  rcases hD with ⟨_, rfl⟩ | ⟨e, _⟩
  · exact kbd_kw l (h kV doc pm an cdv ct)
  · exact absurd rfl e
theorem isiB_inl {T v : Kd} {CS : List Addr} {u : D} {M : Mm} {k : DK} {x : DX} (h : kdD u M = some (.inl v)) (q : k (.bl (isK T v)) M) : dIsiB T CS u M k x := by
  unfold dIsiB
  rw [h]
  exact q
theorem isiB_inr {T : Kd} {C : Addr} {CS : List Addr} {u : D} {M : Mm} {k : DK} {x : DX} (h : kdD u M = some (.inr C)) (hc : C ∈ CS) (q : k (.bl false) M) : dIsiB T CS u M k x := by
  unfold dIsiB
  rw [h]
  exact ⟨hc, q⟩
theorem isiC_inl {C0 : Addr} {v : Kd} {CS : List Addr} {u : D} {M : Mm} {k : DK} {x : DX} (h : kdD u M = some (.inl v)) (q : k (.bl false) M) : dIsiC C0 CS u M k x := by
  unfold dIsiC
  rw [h]
  exact q
theorem isiC_inr {C0 C : Addr} {CS : List Addr} {u : D} {M : Mm} {k : DK} {x : DX} (h : kdD u M = some (.inr C)) (hc : C ∈ CS) (q : k (.bl (decide (C = C0))) M) : dIsiC C0 CS u M k x := by
  unfold dIsiC
  rw [h]
  exact ⟨hc, q⟩
theorem ite_of {c : Prop} [Decidable c] {A B : Prop} (h1 : c → A) (h2 : ¬ c → B) : if decide c = true then A else B := by
  by_cases h : c
  · rw [if_pos (decide_eq_true h)]
    exact h1 h
  · rw [if_neg (fun z => h (of_decide_eq_true z))]
    exact h2 h
theorem ite_b {c : Bool} {A B : Prop} (h1 : c = true → A) (h2 : c = false → B) : if c = true then A else B := by
  cases c with
  | true => rw [if_pos rfl]; exact h1 rfl
  | false => rw [if_neg Bool.false_ne_true]; exact h2 rfl
/-- a comprehension's turns: no test, the element is told for each item and changes nothing -/
theorem lc_map {γ : DG} {ε : DE} {vs : List Nat} {ρ : DEnv} {M : Mm} {k : DK} {ds : List D} (f : D → D) (hl : ds.length < sizeLine)
    (he : ∀ d ∈ ds, ∀ K : DK, K (f d) M → γ d (wipeD ρ vs) M fun ρ1 M2 => ε ρ1 M2 K (fun _ _ _ => False))
    (gm : ∀ d (K K' : DEnv → Mm → Prop), (∀ ρ M, K ρ M → K' ρ M) → γ d (wipeD ρ vs) M K → γ d (wipeD ρ vs) M K') (hk : k (.lst (ds.map f)) M) : LcK γ dYes ε vs ρ ds M k := by
  refine .of hl (fun j acc M' => M' = M ∧ acc = (ds.take j).map f) ⟨rfl, rfl⟩ (fun j d acc M' hd ⟨e1, e2⟩ => ?_) (fun acc M' ⟨e1, e2⟩ => ?_)
  · subst e1 e2
    have hn : List.map f (List.take j ds) ++ [f d] = List.map f (List.take (j + 1) ds) := by
      rw [List.take_succ, hd]
      simp
    refine gm d _ _ (fun ρ1 M2 hh => ?_) (he d (List.mem_of_getElem? hd) (fun y M4 => M4 = M' ∧ List.map f (List.take j ds) ++ [y] = List.map f (List.take (j + 1) ds)) ⟨rfl, hn⟩)
    unfold dYes
    dsimp only
    rw [if_pos rfl]
    exact hh
  · subst e1 e2
    rw [List.take_length]
    exact hk
theorem gN_mono {i : Nat} {d : D} {ρ : DEnv} {M : Mm} (K K' : DEnv → Mm → Prop) (h : ∀ ρ M, K ρ M → K' ρ M) (q : gN i d ρ M K) : gN i d ρ M K' := h _ _ q
theorem eqD_int (i j : Int) : EqD (.int i) (.int j) (decide (i = j)) := by
  have h : EqD (.int i) (.int j) (decide (toV (.int i) = toV (.int j))) := .sc rfl rfl rfl
  have e : decide (toV (.int i) = toV (.int j)) = decide (i = j) := by
    by_cases c : i = j
    · subst c; simp
    · rw [decide_eq_false c]
      exact decide_eq_false fun z => c (by injection z)
  rw [← e]
  exact h
theorem eqD_str (i j : Str) : EqD (.str i) (.str j) (decide (i = j)) := by
  have h : EqD (.str i) (.str j) (decide (toV (.str i) = toV (.str j))) := .sc rfl rfl rfl
  have e : decide (toV (.str i) = toV (.str j)) = decide (i = j) := by
    by_cases c : i = j
    · subst c; simp
    · rw [decide_eq_false c]
      exact decide_eq_false fun z => c (by injection z)
  rw [← e]
  exact h
theorem eqD_bl (i j : Bool) : EqD (.bl i) (.bl j) (decide (i = j)) := by
  have h : EqD (.bl i) (.bl j) (decide (toV (.bl i) = toV (.bl j))) := .sc rfl rfl rfl
  have e : decide (toV (.bl i) = toV (.bl j)) = decide (i = j) := by
    by_cases c : i = j
    · subst c; simp
    · rw [decide_eq_false c]
      exact decide_eq_false fun z => c (by injection z)
  rw [← e]
  exact h
theorem eqD_non : EqD .non .non true := by
  have h : EqD .non .non (decide (toV .non = toV .non)) := .sc rfl rfl rfl
  exact h
theorem eqI {i j : Int} {M : Mm} {k : DK} (q : k (.bl (decide (i = j))) M) : EqK (.int i) (.int j) M k := .of (eqD_int i j) q
theorem neI {i j : Int} {M : Mm} {k : DK} (q : k (.bl (!decide (i = j))) M) : NeK (.int i) (.int j) M k := .of (eqD_int i j) q
theorem eqP {a b : D} {p r : PyData} {M : Mm} {k : DK} (h1 : toP a = some p) (h2 : toP b = some r) (h3 : SeqAt.shaped p = true) (h4 : SeqAt.shaped r = true) (q : k (.bl (PyData.eqv p r)) M) : EqK a b M k := .of (.py h1 h2 h3 h4) q
theorem neP {a b : D} {p r : PyData} {M : Mm} {k : DK} (h1 : toP a = some p) (h2 : toP b = some r) (h3 : SeqAt.shaped p = true) (h4 : SeqAt.shaped r = true) (q : k (.bl (!PyData.eqv p r)) M) : NeK a b M k := .of (.py h1 h2 h3 h4) q
/-- the kind of plain data -/
def kd : D → Option Kd
  | .non => some .non
  | .bl _ => some .bl
  | .int _ => some .int
  | .str _ => some .str
  | .lst _ => some .lst
  | .tup _ => some .tup
  | _ => none
theorem kdD_of {u : D} {v : Kd} (h : kd u = some v) (M : Mm) : kdD u M = some (.inl v) := by
  cases u <;> first | (cases h; rfl) | cases h
theorem kd_str {u : D} (h : kd u = some .str) : ∃ z, u = .str z := by
  cases u <;> first | exact ⟨_, rfl⟩ | cases h
theorem kd_tup {u : D} (h : kd u = some .tup) : ∃ z, u = .tup z := by
  cases u <;> first | exact ⟨_, rfl⟩ | cases h
theorem kd_int {u : D} (h : kd u = some .int) : ∃ z, u = .int z := by
  cases u <;> first | exact ⟨_, rfl⟩ | cases h
/-- a block cut behind its first statement: R is what holds there -/
def dCutS (t u : DS) : DS := fun k x ρ M => ∃ R : DEnv → Mm → Prop, t { k with nx := R } x ρ M ∧ ∀ ρ M, R ρ M → u k x ρ M
theorem b_cut {X : Cx} {E : XK} {st : Stmt} {sts : List Stmt} {τs τt : DS} (h1 : DPS X E st τs) (h2 : DPB X E sts τt) : DPB X E (st :: sts) (dCutS τs τt) := pss_mono (pss_cons h1 h2) fun D σ H h => by
  obtain ⟨ρ, s, k, x, rfl, er, ⟨R, q, qr⟩, p, px⟩ := h
  refine ⟨ρ, s, _, x, rfl, er, q, ⟨fun ρ1 s1 q1 st1 σ1 er1 => ?_, p.rt, p.bk, p.ct⟩, px⟩
  exact ⟨ρ1, s1, k, x, rfl, er1, qr ρ1 s1.M q1, p.step st1, px.step st1⟩
end DL
set_option Elab.async false
set_option linter.all false
set_option maxRecDepth 100000
namespace DL
open PySem PySem.Spec PyProof.Rows L2
/-- the end: a law's promise in data gives the walk -/
theorem walk_D {l : PySem.W.OpenLaw} {k : Nat} {q : Program} {loose : List Str} {XP : (Str → Option Value) → Heap → Prop} {YP : World → Heap → Prop} {d : DefRec} {K : Params → PySem.W.Frag} {φ : Ct} {x : Str}
    (hn : l.most = some 63) (hdf : d.params.defaults = []) (hr : Room k callerA)
    (hφ : ∀ (ns : List Int) (M : Mm) (kk : DK) (xx : DX), ns.length ≤ 63 → (∀ z ∈ ns, Builtin.Int.intBits z ≤ 1048576) → (∀ a, M a = none) → (∀ M', kk (.bl true) M') → φ [.scr ns] M kk xx)
    (hY : ∀ (w : World) (h : Heap), YP w h → (K w.params).In h)
    (F : ∀ (w : World) (mg : Str → Option Value) (fa : Addr) (h : Heap), (K w.params).In h → h.Ns mainGlobals mg → mg d.name = some (.ref fa) →
      ∃ fd : FuncData, (∀ (s : Shared) (u : Value), BindsTo s fd ⟨[u], []⟩ [(x, u)]) ∧
        ∀ base : Heap, (K w.params).In base → base.Ns mainGlobals mg → FnOk l.prog w (K w.params) mg base (L2.CX l.prog w) k fa fd [x] (spD (K w.params) 1 φ)) :
    PySem.W.WalkO q loose XP YP l.row.toRowW d [] (fun f vs => PySem.call f vs) :=
  L2.walk_ofB (n := 63) (k := k) (x := x) (CX := fun w => L2.CX l.prog w) (sp := fun w => spD (K w.params) 1 φ) hn (by decide) hdf hr hY F
    (fun w H a ns hl hb _ hS => ⟨⟨H, H, fun _ => none⟩, [.scr ns], fun d _ => d = .bl true, fun _ _ _ => False, rfl, ⟨Same.refl _, nofun, nofun⟩, .cons (.scr hS) .nil, rfl,
      hφ ns _ _ _ hl hb (fun _ => rfl) (fun _ => rfl), fun d t e _ _ v r => by subst e; cases r; rfl, fun C fs t h => h.elim⟩)
    fun w H s e s' h => by
      obtain ⟨_, _, _, _, _, _, _, _, _, _, _, _, z⟩ := h
      exact z
end DL
set_option Elab.async false
set_option linter.all false
set_option maxRecDepth 100000
set_option maxHeartbeats 2000000
namespace DL
open PySem PySem.Spec PyProof.Rows L2
/-! ### instances -/
/-- an instance: its class and what it holds -/
def insOf : D → Mm → Option (Addr × List (Str × D))
  | .obj C fs, _ => some (C, fs)
  | .cel a, M => match M a with
    | some (.ins C fs) => some (C, fs)
    | _ => none
  | _, _ => none
theorem ins_of {K : PySem.W.Frag} {s : Sta} {v : V} {d : D} {C : Addr} {fs : List (Str × D)} (ok : Ok K s) (r : Rep K s.G v d) (h : insOf d s.M = some (C, fs)) : ∃ a dx fvs, v = .ref a ∧ s.H a = some (.ins C dx fvs) ∧ FRep K s.G fvs fs := by
  cases r with
  | obj h1 r1 => cases h; exact ⟨_, _, _, rfl, ok.sub _ _ h1, r1⟩
  | @cel a =>
    simp only [insOf] at h
    split at h
    · rename_i C' fs' hm
      cases h
      obtain ⟨dx, fvs, e, rf⟩ := ok.cells _ _ hm
      exact ⟨a, dx, fvs, rfl, e, rf⟩
    · cases h
  | _ => cases h
theorem insOf_cel {M : Mm} {p : Addr} {C : Addr} {fs : List (Str × D)} (h : M p = some (.ins C fs)) : insOf (.cel p) M = some (C, fs) := by
  simp only [insOf, h]
def dFld (CS : List Addr) (f : Str) : D1 := fun u M k _ => ∃ C fs d, insOf u M = some (C, fs) ∧ C ∈ CS ∧ fs.lookup f = some d ∧ k d M
section
variable {X : Cx} {E : XK} {e o v : Expr} {f : Str} {pos pos' : Pos} {τ τo τv : DE}
theorem d_fld (CS : List Addr) (hc : ∀ C ∈ CS, Cls X.K C ∧ NoAttr X.K C f) (he : DP X E e τ) (hb : attributeBase e f X.env (eval e X.env) = eval e X.env := by rfl) : DP X E (.Attribute e f pos) (dUn (dFld CS f) τ) := pe_mono (pe_fld he hb) fun σ H Q h => by
  obtain ⟨ρ, s, k, x, rfl, er, q, p, px⟩ := h
  refine ⟨ρ, s, _, x, rfl, er, q, fun u s1 q1 st1 ok1 v1 r1 => ?_, px⟩
  obtain ⟨C, fs, d, hi, hC, hl, q1⟩ := q1
  obtain ⟨a, dx, fvs, rfl, ha, rf⟩ := ins_of ok1 r1 hi
  obtain ⟨v, hv, rv⟩ := rf.get hl
  exact ⟨a, C, dx, fvs, v, rfl, ha, (hc C hC).1, (hc C hC).2, hv, p d s1 q1 st1 ok1 v rv⟩
theorem FRep.put {K : PySem.W.Frag} {G : Hp} {f : Str} {v : V} {d : D} (r : Rep K G v d) : ∀ {vs : List (Str × V)} {ds : List (Str × D)}, FRep K G vs ds → FRep K G (putF f v vs) (putD f d ds)
  | _, _, .nil => .cons r .nil
  | _, _, .cons (f := g) h t => by
    unfold putF putD
    by_cases e : g = f
    · subst e
      rw [if_pos rfl, if_pos rfl]
      exact .cons r t
    · rw [if_neg e, if_neg e]
      exact .cons h (FRep.put r t)
/-- o.f = v of an instance in the making -/
def dSetFld (CS : List Addr) (f : Str) (τo τv : DE) : DS := fun k x ρ M => τv ρ M (fun u M1 => τo ρ M1 (fun w M2 => ∃ a C fs, w = .cel a ∧ M2 a = some (.ins C fs) ∧ C ∈ CS ∧ fs.length < 1000 ∧ k.nx ρ (mup M2 a (.ins C (putD f u fs)))) x) x
theorem s_fld (CS : List Addr) (hc : ∀ C ∈ CS, Cls X.K C ∧ NoAttr X.K C f) (hv : DP X E v τv) (ho : DP X E o τo) (hs : swapsWith v (some (.Attribute o f pos')) pos.line X.env = pure false := by rfl) :
    DPS X E (.Assign [.Attribute o f pos'] v pos) (dSetFld CS f τo τv) := ps_mono (ps_fld ho hv hs) fun D σ H h => by
  obtain ⟨ρ, s, k, x, rfl, er, q, p, px⟩ := h
  refine ⟨ρ, s, _, x, rfl, er, q, fun u s1 q1 st1 ok1 v1 r1 => ?_, px⟩
  refine ⟨ρ, s1, _, x, rfl, er.step st1 ok1, q1, fun w s2 q2 st2 ok2 v2 r2 => ?_, px.step st1⟩
  obtain ⟨a, C, fs, rfl, hm, hC, hl, q2⟩ := q2
  obtain ⟨dx, fvs, e, rf⟩ := ok2.cells _ _ hm
  have st : Step s s2 := st1.trans st2
  obtain ⟨k4, st4⟩ := ok2.put (p := a) (o := .ins C dx (putF f v1 fvs)) (mo := .ins C (putD f u fs)) (by rw [hm]; rfl) ⟨_, _, rfl, rf.put (r1.same st2.same)⟩
  exact ⟨a, C, dx, fvs, r2.cel_of, e, (hc C hC).1, (hc C hC).2, by rw [rf.length]; exact hl, p.nx ρ ⟨_, _, _⟩ q2 (st.trans st4) σ (er.step (st.trans st4) k4)⟩
end
/-! ### a new instance -/
/-- the instance's making: its __init__ at a fresh cell; what it holds then is frozen -/
def mkC (C : Addr) (φ : Ct) (gD : List D → List D → List D) (ds zs : List D) (M : Mm) (k : DK) (x : DX) : Prop :=
  ∀ p, M p = none → φ (gD (.cel p :: ds) zs) (mup M p (.ins C [])) (fun d M2 => d = .non ∧ ∃ fs, M2 p = some (.ins C fs) ∧ k (.obj C fs) (mdel M2 p)) (fun D fs M2 => x D fs (mdel M2 p))
def dMake (C : Addr) (n m : Nat) (φ : Ct) (gD : List D → List D → List D) (α κ : DA) : DE := fun ρ M k x => α ρ M (fun ds M1 => κ ρ M1 (fun zs M2 => ds.length = n ∧ zs.length = m ∧ mkC C φ gD ds zs M2 k x) x) x
theorem Ok.drop {K : PySem.W.Frag} {b s : Sta} {p : Addr} (k : Ok K s) (st : Step b s) (hb : b.H p = none) (hbm : b.M p = none) : Ok K ⟨s.H, s.G, mdel s.M p⟩ ∧ Step b ⟨s.H, s.G, mdel s.M p⟩ := by
  have ne : ∀ a mo, mdel s.M p a = some mo → a ≠ p := fun a mo e z => by subst z; rw [mdel_same] at e; cases e
  refine ⟨⟨k.sub, fun a mo e => ?_, fun a mo e => ?_⟩, ⟨st.same, fun a h => ?_, fun a o h1 h2 h3 => ?_⟩⟩
  · have e' : mdel s.M p a = some mo := e
    have z := ne a mo e'
    rw [mdel_ne z] at e'
    exact k.apart a mo e'
  · have e' : mdel s.M p a = some mo := e
    have z := ne a mo e'
    rw [mdel_ne z] at e'
    exact k.cells a mo e'
  · have z : a ≠ p := fun z => by subst z; rw [hbm] at h; cases h
    show (mdel s.M p a).isSome = true
    rw [mdel_ne z]
    exact st.dom a h
  · have z : a ≠ p := fun z => by subst z; rw [hb] at h1; cases h1
    obtain ⟨x1, x2, x3⟩ := st.hid a o h1 h2 h3
    refine ⟨x1, x2, ?_⟩
    show mdel s.M p a = none
    rw [mdel_ne z]
    exact x3
section
variable {X : Cx} {CX : CXT} {E : XK} {k n nn : Nat} {f C : Addr} {fd : FuncData} {ps ks : List Str} {φ : Ct} {x m : Str} {p pos apos : Pos} {e o : Expr} {es : List Expr} {kws : List Keyword} {αa ακ : DA} {τo τv : DE} {gD : List D → List D → List D}
theorem mk_sp {K : PySem.W.Frag} {gV : List V → List V → List V} {s0 : Sta} {ds zd : List D} {vs zs : List V} {kk : DK} {xx : DX} {Q : VK}
    (hrep : ∀ {G : Hp} {vs : List V} {us : List D} {zs : List V} {ws : List D}, Reps K G vs us → Reps K G zs ws → us.length = n + 1 → ws.length = ks.length → Reps K G (gV vs zs) (gD us ws))
    (hgl : ∀ us ws : List D, us.length = n + 1 → ws.length = ks.length → (gD us ws).length = nn)
    (ok : Ok K s0) (r1 : Reps K s0.G vs ds) (r2 : Reps K s0.G zs zd) (l1 : ds.length = n) (l2 : zd.length = ks.length) (q : mkC C φ gD ds zd s0.M kk xx) (pp : Post K s0 kk Q) (px : PostX K E s0 xx) :
    ∀ y dx, s0.H y = none → s0.H dx = none → dx ≠ y → spD K nn φ (gV (.ref y :: vs) zs) (upd (upd s0.H dx (.own y)) y (.ins C dx [])) (fun v H3 => v = .non ∧ Q (.ref y) H3) E := by
  intro y dx hy hdx hne
  obtain ⟨oka, sta⟩ := ok.hide (o := .own y) (Step.refl s0) hdx (ok.freeG hdx) (ok.freeM hdx)
  have hy1 : upd s0.H dx (.own y) y = none := by rw [upd_ne (Ne.symm hne)]; exact hy
  obtain ⟨okb, stb⟩ := oka.newM (p := y) (o := .ins C dx []) (mo := .ins C []) hy1 ⟨dx, [], rfl, .nil⟩
  have hym : s0.M y = none := ok.freeM hy
  have sg : Same s0.G s0.G := Same.refl _
  refine ⟨_, gD (.cel y :: ds) zd, _, _, rfl, okb, hrep (.cons .cel r1) r2 (by rw [List.length_cons, l1]) l2, hgl _ _ (by rw [List.length_cons, l1]) l2, q y hym, ?_, ?_⟩
  · rintro d t ⟨rfl, fs, hm, q2⟩ st okt v rv
    cases rv
    refine ⟨rfl, ?_⟩
    obtain ⟨dx', fvs, ho, rf⟩ := okt.cells _ _ hm
    have st0 : Step s0 t := (sta.trans stb).trans st
    obtain ⟨k2, st2, sm⟩ := okt.freeze st0 hy hym (by rw [hm]; rfl) ho
    exact pp _ ⟨_, _, _⟩ q2 st2 k2 _ (.obj upd_same (rf.same sm))
  · intro D fs t h st okt dx' fvs h1 h2 h3 hn h4
    have st0 : Step s0 t := (sta.trans stb).trans st
    obtain ⟨k2, st2⟩ := okt.drop st0 hy hym
    refine px D fs ⟨_, _, _⟩ h st2 k2 dx' fvs h1 h2 ?_ (fun ⟨o, z1, z2, z3⟩ => hn ⟨o, (sta.trans stb).hid dx' o z1 z2 z3⟩) h4
    show mdel t.M y dx' = none
    unfold mdel
    split
    · rfl
    · exact h3
theorem d_make (Mk : Mk X.K C f) (F : FnOk X.prog X.w X.K X.mg X.base CX k f fd ps (spD X.K nn φ)) (hr : Room (k + 1) X.A) (hg : Gl X x) (hm : X.mg x = some (.ref C)) (hb : KBd X.K fd ps (n + 1) ks gD) (hgl : ∀ us ws : List D, us.length = n + 1 → ws.length = ks.length → (gD us ws).length = nn) (hx : Passes CX X E)
    (ha : DPA X E (e :: es) αa) (hkw : DPK X E kws ακ) (hall : (backToKw pos (keywordEach kws X.env)).all (·.1.isSome) = true := by rfl) (hks : (backToKw pos (keywordEach kws X.env)).filterMap (·.1) = ks := by rfl)
    (hdb : (x == ("__debug__" : Str)) = false := by decide) (he : starEach (e :: es) X.env = (false, eval e X.env) :: starEach es X.env := by rfl)
    (hpl : ((backTo pos (starEach (e :: es) X.env)).any (·.1) || (backToKw pos (keywordEach kws X.env)).any (·.1.isNone)) = false := by rfl) :
    DP X E (.Call (.Name x p) (e :: es) kws pos) (dMake C n ks.length φ gD αa ακ) := by
  obtain ⟨g, gV, hb, hrep⟩ := hb.ex
  refine pe_mono (pe_makeK (n := n) Mk F hr hg hm hb hx ha hkw hall hks hdb he hpl) fun σ H Q h => ?_
  obtain ⟨ρ, s0, kk, xx, rfl, er, q, pp, px⟩ := h
  refine ⟨ρ, s0, _, xx, rfl, er, q, fun ds s1 q1 st1 ok1 vs r1 => ?_, px⟩
  refine ⟨ρ, s1, _, xx, rfl, er.step st1 ok1, q1, fun zd s2 q2 st2 ok2 zs r2 => ?_, px.step st1⟩
  obtain ⟨l1, l2, q3⟩ := q2
  have st := st1.trans st2
  exact ⟨r1.length.trans l1, r2.length.trans l2, mk_sp hrep hgl ok2 (r1.same st2.same) r2 l1 l2 q3 (pp.step st) (px.step st)⟩
theorem d_make0 (Mk : Mk X.K C f) (F : FnOk X.prog X.w X.K X.mg X.base CX k f fd ps (spD X.K nn φ)) (hr : Room (k + 1) X.A) (hg : Gl X x) (hm : X.mg x = some (.ref C)) (hb : KBd X.K fd ps 1 ks gD) (hgl : ∀ us ws : List D, us.length = 0 + 1 → ws.length = ks.length → (gD us ws).length = nn) (hx : Passes CX X E)
    (hkw : DPK X E kws ακ) (hall : (backToKw pos (keywordEach kws X.env)).all (·.1.isSome) = true := by rfl) (hks : (backToKw pos (keywordEach kws X.env)).filterMap (·.1) = ks := by rfl)
    (hdb : (x == ("__debug__" : Str)) = false := by decide) (hpl : ((backTo pos (starEach [] X.env)).any (·.1) || (backToKw pos (keywordEach kws X.env)).any (·.1.isNone)) = false := by rfl) :
    DP X E (.Call (.Name x p) [] kws pos) (dMake C 0 ks.length φ gD dNil ακ) := by
  obtain ⟨g, gV, hb, hrep⟩ := hb.ex
  refine pe_mono (pe_makeK0 Mk F hr hg hm hb hx hkw hall hks hdb hpl) fun σ H Q h => ?_
  obtain ⟨ρ, s0, kk, xx, rfl, er, q, pp, px⟩ := h
  refine ⟨ρ, s0, _, xx, rfl, er, q, fun zd s2 q2 st2 ok2 zs r2 => ?_, px⟩
  obtain ⟨l1, l2, q3⟩ := q2
  exact ⟨rfl, r2.length.trans l2, mk_sp (n := 0) hrep hgl ok2 .nil r2 l1 l2 q3 (pp.step st2) (px.step st2)⟩
end
end DL
set_option Elab.async false
set_option linter.all false
set_option maxRecDepth 100000
set_option maxHeartbeats 2000000
namespace DL
open PySem PySem.Spec PyProof.Rows L2
section
variable {X : Cx} {CX : CXT} {E : XK} {k n nn : Nat} {f C pa : Addr} {fd : FuncData} {ps ks : List Str} {φ : Ct} {x m : Str} {p pos apos : Pos} {e o : Expr} {es : List Expr} {kws : List Keyword} {αa ακ : DA} {τ τo τv : DE} {gD : List D → List D → List D}
/-! ### methods -/
def dMeth (C : Addr) (mn : Str) (n m : Nat) (φ : Ct) (gD : List D → List D → List D) (τo : DE) (α κ : DA) : DE := fun ρ M k x => τo ρ M (fun o M1 => ∃ fs, insOf o M1 = some (C, fs) ∧ fs.lookup mn = none ∧ α ρ M1 (fun ds M2 => κ ρ M2 (fun zs M3 => ds.length = n ∧ zs.length = m ∧ φ (gD (o :: ds) zs) M3 k x) x) x) x
theorem d_meth {pl : Sem Bool} (c : Cls X.K C) (hm : Meth X.K C m f) (F : FnOk X.prog X.w X.K X.mg X.base CX k f fd ps (spD X.K nn φ)) (hr : Room k X.A) (hb : KBd X.K fd ps (n + 1) ks gD) (hgl : ∀ us ws : List D, us.length = n + 1 → ws.length = ks.length → (gD us ws).length = nn) (hx : Passes CX X E)
    (ho : DP X E o τo) (ha : DPA X E (e :: es) αa) (hkw : DPK X E kws ακ) (hall : (backToKw pos (keywordEach kws X.env)).all (·.1.isSome) = true := by rfl) (hks : (backToKw pos (keywordEach kws X.env)).filterMap (·.1) = ks := by rfl)
    (he : starEach (e :: es) X.env = (false, eval e X.env) :: starEach es X.env := by rfl)
    (hpl : ((backTo pos (starEach (e :: es) X.env)).any (·.1) || (backToKw pos (keywordEach kws X.env)).any (·.1.isNone)) = false := by rfl)
    (ht : eval (.Call (.Attribute o m apos) (e :: es) kws pos) X.env = (do
      let ov ← eval o X.env
      standAt apos.atName
      let (f, first) ← holding [ov] (getMethod ov m pl)
      callWith pos f first (backTo pos (starEach (e :: es) X.env)) (backToKw pos (keywordEach kws X.env))) := by rfl) :
    DP X E (.Call (.Attribute o m apos) (e :: es) kws pos) (dMeth C m n ks.length φ gD τo αa ακ) := by
  refine ⟨fun pins s σ H Q I h => ?_⟩
  obtain ⟨ρ, s0, kk, xx, rfl, er, q, pp, px⟩ := h
  refine PySem.W.methodCall_KW (pl := pl) (thn (ho.run pins s σ s0.H (fun v H1 => ∃ s1 d, s1.H = H1 ∧ Ok X.K s1 ∧ Step s0 s1 ∧ Rep X.K s1.G v d ∧ ∃ fs, insOf d s1.M = some (C, fs) ∧ fs.lookup m = none ∧ αa ρ s1.M (fun ds M2 => ακ ρ M2 (fun zs M3 => ds.length = n ∧ zs.length = ks.length ∧ φ (gD (d :: ds) zs) M3 kk xx) xx) xx) I
    ⟨ρ, s0, _, xx, rfl, er, q, fun d s1 q1 st1 ok1 v1 r1 => ⟨s1, d, rfl, ok1, st1, r1, q1⟩, px⟩) fun u s1 ⟨x, H1, I1, rx, sa, d, e1, oka, sta, ra, fs, hi, hl, q1⟩ => ?_) ht
  subst e1
  obtain ⟨a, dx, fvs, ex, hha, rf⟩ := ins_of oka ra hi
  subst ex
  obtain rfl : u = Value.ref a := rx
  refine getmeth_ok I1 hha c hm (rf.none hl) ?_
  refine PySem.W.callWith_KW (first := [.ref a]) (h₀ := X.base) I.ok.mod.kin hm.kp hall (thn (ha.run pos pins s1 σ sa.H (fun vs H2 => ∃ sb ds, sb.H = H2 ∧ Ok X.K sb ∧ Step sa sb ∧ Reps X.K sb.G vs ds ∧ ακ ρ sb.M (fun zs M3 => ds.length = n ∧ zs.length = ks.length ∧ φ (gD (d :: ds) zs) M3 kk xx) xx) I1
    ⟨ρ, sa, _, xx, rfl, er.step sta oka, q1, fun ds sb qb stb okb vs rb => ⟨sb, ds, rfl, okb, stb, rb, qb⟩, px.step sta⟩) fun us s2 ⟨vs, H2, I2, r, sb, ds, e2, okb, stb, rb, q2⟩ => ?_) hpl he
  subst e2
  refine thn (hkw.run pos pins s2 σ sb.H (fun zs H3 => ∃ sc zd, sc.H = H3 ∧ Ok X.K sc ∧ Step sb sc ∧ Reps X.K sc.G zs zd ∧ ds.length = n ∧ zd.length = ks.length ∧ φ (gD (d :: ds) zd) sc.M kk xx) I2
    ⟨ρ, sb, _, xx, rfl, er.step (sta.trans stb) okb, q2, fun zd sc qc stc okc zs rc => ⟨sc, zd, rfl, okc, stc, rc, qc⟩, px.step (sta.trans stb)⟩) fun ws s3 ⟨zs, H3, I3, rz, sc, zd, e3, okc, stc, rc, l1, l2, q3⟩ => ⟨I3.kIn, ?_⟩
  subst e3
  rw [hks]
  have st := (sta.trans stb).trans stc
  exact run_D (us := .ref a :: us) (vs := .ref a :: vs) F hr hb hx I3 (.cons rfl r) rz ⟨sc, d :: ds, zd, kk, xx, rfl, okc, .cons (ra.same (stb.trans stc).same) (rb.same stc.same), rc, by rw [List.length_cons, l1], l2, hgl _ _ (by rw [List.length_cons, l1]) l2, q3, pp.step st, px.step st⟩
theorem d_meth0 {pl : Sem Bool} (c : Cls X.K C) (hm : Meth X.K C m f) (F : FnOk X.prog X.w X.K X.mg X.base CX k f fd ps (spD X.K nn φ)) (hr : Room k X.A) (hb : KBd X.K fd ps (0 + 1) ks gD) (hgl : ∀ us ws : List D, us.length = 0 + 1 → ws.length = ks.length → (gD us ws).length = nn) (hx : Passes CX X E)
    (ho : DP X E o τo) (hkw : DPK X E kws ακ) (hall : (backToKw pos (keywordEach kws X.env)).all (·.1.isSome) = true := by rfl) (hks : (backToKw pos (keywordEach kws X.env)).filterMap (·.1) = ks := by rfl)
    (hpl : ((backTo pos (starEach [] X.env)).any (·.1) || (backToKw pos (keywordEach kws X.env)).any (·.1.isNone)) = false := by rfl)
    (ht : eval (.Call (.Attribute o m apos) [] kws pos) X.env = (do
      let ov ← eval o X.env
      standAt apos.atName
      let (f, first) ← holding [ov] (getMethod ov m pl)
      callWith pos f first (backTo pos (starEach [] X.env)) (backToKw pos (keywordEach kws X.env))) := by rfl) :
    DP X E (.Call (.Attribute o m apos) [] kws pos) (dMeth C m 0 ks.length φ gD τo dNil ακ) := by
  refine ⟨fun pins s σ H Q I h => ?_⟩
  obtain ⟨ρ, s0, kk, xx, rfl, er, q, pp, px⟩ := h
  refine PySem.W.methodCall_KW (pl := pl) (thn (ho.run pins s σ s0.H (fun v H1 => ∃ s1 d, s1.H = H1 ∧ Ok X.K s1 ∧ Step s0 s1 ∧ Rep X.K s1.G v d ∧ ∃ fs, insOf d s1.M = some (C, fs) ∧ fs.lookup m = none ∧ ακ ρ s1.M (fun zs M3 => ([] : List D).length = 0 ∧ zs.length = ks.length ∧ φ (gD [d] zs) M3 kk xx) xx) I
    ⟨ρ, s0, _, xx, rfl, er, q, fun d s1 q1 st1 ok1 v1 r1 => ⟨s1, d, rfl, ok1, st1, r1, q1⟩, px⟩) fun u s1 ⟨x, H1, I1, rx, sa, d, e1, oka, sta, ra, fs, hi, hl, q1⟩ => ?_) ht
  subst e1
  obtain ⟨a, dx, fvs, ex, hha, rf⟩ := ins_of oka ra hi
  subst ex
  obtain rfl : u = Value.ref a := rx
  refine getmeth_ok I1 hha c hm (rf.none hl) ?_
  refine PySem.W.callWith_KW0 (first := [.ref a]) (h₀ := X.base) I.ok.mod.kin hm.kp hall ?_ hpl
  refine thn (hkw.run pos pins s1 σ sa.H (fun zs H3 => ∃ sc zd, sc.H = H3 ∧ Ok X.K sc ∧ Step sa sc ∧ Reps X.K sc.G zs zd ∧ zd.length = ks.length ∧ φ (gD [d] zd) sc.M kk xx) I1
    ⟨ρ, sa, _, xx, rfl, er.step sta oka, q1, fun zd sc qc stc okc zs rc => ⟨sc, zd, rfl, okc, stc, rc, qc.2⟩, px.step sta⟩) fun ws s3 ⟨zs, H3, I3, rz, sc, zd, e3, okc, stc, rc, l2, q3⟩ => ⟨I3.kIn, ?_⟩
  subst e3
  rw [hks]
  have st := sta.trans stc
  exact run_D (us := [.ref a]) (vs := [.ref a]) F hr hb hx I3 (.cons rfl .nil) rz ⟨sc, [d], zd, kk, xx, rfl, okc, .cons (ra.same stc.same) .nil, rc, rfl, l2, hgl _ _ rfl l2, q3, pp.step st, px.step st⟩
/-! ### properties (which raise nothing) -/
def dPropR (C : Addr) (φ : Ct) : D1 := fun u M k _ => (∃ fs, insOf u M = some (C, fs)) ∧ φ [u] M k (fun _ _ _ => False)
theorem pass_never : Passes (L2.CX X.prog X.w) X.nox (fun _ _ _ => False) := by
  intro pins σ H s e s' I h
  obtain ⟨_, _, _, _, _, _, _, _, _, _, _, _, z⟩ := h
  exact z.elim
theorem d_prop (he : DP X E e τ) (c : Cls X.K C) (hp : PropOf X.K C m pa f) (F : FnOk X.prog X.w X.K X.mg X.base (L2.CX X.prog X.w) k f fd ps (spD X.K 1 φ)) (hr : Room (k + 1) X.A) (hb : Binds X.K fd ps [])
    (hab : attributeBase e m X.env (eval e X.env) = eval e X.env := by rfl) : DP X E (.Attribute e m pos) (dUn (dPropR C φ) τ) := pe_mono (pe_prop he c hp F hr hb .nil pass_never hab) fun σ H Q h => by
  obtain ⟨ρ, s, k, x, rfl, er, q, p, px⟩ := h
  refine ⟨ρ, s, _, x, rfl, er, q, fun u s1 q1 st1 ok1 v1 r1 => ?_, px⟩
  obtain ⟨⟨fs, hi⟩, q1⟩ := q1
  obtain ⟨a, dx, fvs, rfl, ha, rf⟩ := ins_of ok1 r1 hi
  exact ⟨a, dx, fvs, rfl, ha, s1, [u], k, _, rfl, ok1, .cons r1 .nil, rfl, q1, p.step st1, PostX.never⟩
/-! ### operators of the class -/
def dOwn2 (C : Addr) (φ : Ct) : D2 := fun x y M k xx => (∃ fs, insOf x M = some (C, fs)) ∧ (∃ fs, insOf y M = some (C, fs)) ∧ φ [x, y] M k xx
theorem o_own {op : Operator} (hs : PySem.W.findIn X.K (.ref C) (PySem.dunder op.info.2) = some (some (.ref f))) (hf : PySem.W.isFn X.K (.ref f) = true) (hc : PySem.W.selfFirst X.K C = true) (F : FnOk X.prog X.w X.K X.mg X.base CX k f fd ps (spD X.K 2 φ)) (hb : KBd X.K fd ps 2 [] (fun us _ => us)) (hr : Room k X.A) (hx : Passes CX X E) :
    OpR X (binaryOp op) (r2 X.K E (dOwn2 C φ)) := by
  intro pins s σ H x y u v Q I rx ry h
  obtain ⟨s0, dx, dy, kk, xx, rfl, ok, hdx, hdy, ⟨⟨fs, hi⟩, ⟨fs', hi'⟩, q⟩, p, px⟩ := h
  obtain ⟨a, da, fvs, rfl, ha, rf⟩ := ins_of ok hdx hi
  obtain ⟨b, db, fvs', rfl, hb', rf'⟩ := ins_of ok hdy hi'
  obtain rfl : u = Value.ref a := rx
  obtain rfl : v = Value.ref b := ry
  obtain ⟨_, O, _⟩ := ins_get I.hok ha
  obtain ⟨_, O', _⟩ := ins_get I.hok hb'
  obtain ⟨_, J, _⟩ := O.look
  obtain ⟨_, J', _⟩ := O'.look
  obtain ⟨m, hF⟩ := I.fr
  refine PySem.W.binop_K hF I.ok.mod.kin J J'.type hc hs hf ?_
  refine wpAny_mono (run_D (us := [.ref a, .ref b]) (vs := [.ref a, .ref b]) (ws := []) (zs := []) F hr hb hx I (.cons rfl (.cons rfl .nil)) .nil ⟨s0, [dx, dy], [], kk, xx, rfl, ok, .cons hdx (.cons hdy .nil), .nil, rfl, rfl, rfl, q, p, px⟩) (fun w s' z => ?_) fun _ _ x => x
  obtain ⟨z', H', I', rz, qz⟩ := z
  exact SlX.cmpback rz ⟨z', H', I', rz, qz⟩
def dOwn1 (C : Addr) (φ : Ct) : D1 := fun x M k xx => (∃ fs, insOf x M = some (C, fs)) ∧ φ [x] M k xx
theorem o_ownNeg (hs : PySem.W.findIn X.K (.ref C) "__neg__" = some (some (.ref f))) (hf : PySem.W.isFn X.K (.ref f) = true) (F : FnOk X.prog X.w X.K X.mg X.base CX k f fd ps (spD X.K 1 φ)) (hb : KBd X.K fd ps 1 [] (fun us _ => us)) (hr : Room k X.A) (hx : Passes CX X E) :
    UnR X (unaryOp .USub) (r1 X.K E (dOwn1 C φ)) := by
  intro pins s σ H x u Q I rx h
  obtain ⟨s0, dx, kk, xx, rfl, ok, hdx, ⟨⟨fs, hi⟩, q⟩, p, px⟩ := h
  obtain ⟨a, da, fvs, rfl, ha, rf⟩ := ins_of ok hdx hi
  obtain rfl : u = Value.ref a := rx
  obtain ⟨_, O, _⟩ := ins_get I.hok ha
  obtain ⟨_, J, _⟩ := O.look
  obtain ⟨m, hF⟩ := I.fr
  refine PySem.W.ksp_neg hF I.ok.mod.kin J hs hf ?_
  exact run_D (us := [.ref a]) (vs := [.ref a]) (ws := []) (zs := []) F hr hb hx I (.cons rfl .nil) .nil ⟨s0, [dx], [], kk, xx, rfl, ok, .cons hdx .nil, .nil, rfl, rfl, rfl, q, p, px⟩
/-- the left value's class decides -/
def dSel (own f : D2) : D2 := fun x y M k xx => match insOf x M with
  | some _ => own x y M k xx
  | none => f x y M k xx
def dSel1 (own f : D1) : D1 := fun x M k xx => match insOf x M with
  | some _ => own x M k xx
  | none => f x M k xx
theorem o_sel {g : Value → Value → Sem Value} {own f : D2} (h1 : OpR X g (r2 X.K E own)) (h2 : OpR X g (r2 X.K E f)) : OpR X g (r2 X.K E (dSel own f)) := by
  intro pins s σ H x y u v Q I rx ry h
  obtain ⟨s0, dx, dy, kk, xx, rfl, ok, hdx, hdy, q, p, px⟩ := h
  unfold dSel at q
  split at q
  · exact h1 pins s σ _ x y u v Q I rx ry ⟨s0, dx, dy, kk, xx, rfl, ok, hdx, hdy, q, p, px⟩
  · exact h2 pins s σ _ x y u v Q I rx ry ⟨s0, dx, dy, kk, xx, rfl, ok, hdx, hdy, q, p, px⟩
theorem o_sel1 {g : Value → Sem Value} {own f : D1} (h1 : UnR X g (r1 X.K E own)) (h2 : UnR X g (r1 X.K E f)) : UnR X g (r1 X.K E (dSel1 own f)) := by
  intro pins s σ H x u Q I rx h
  obtain ⟨s0, dx, kk, xx, rfl, ok, hdx, q, p, px⟩ := h
  unfold dSel1 at q
  split at q
  · exact h1 pins s σ _ x u Q I rx ⟨s0, dx, kk, xx, rfl, ok, hdx, q, p, px⟩
  · exact h2 pins s σ _ x u Q I rx ⟨s0, dx, kk, xx, rfl, ok, hdx, q, p, px⟩
/-- x == y by the class's own __eq__ -/
theorem o_ownEq (hs : PySem.W.findIn X.K (.ref C) "__eq__" = some (some (.ref f))) (hf : PySem.W.isFn X.K (.ref f) = true) (F : FnOk X.prog X.w X.K X.mg X.base CX k f fd ps (spD X.K 2 φ)) (hb : KBd X.K fd ps 2 [] (fun us _ => us)) (hr : Room k X.A) (hx : Passes CX X E) :
    OpR X (compareOp .Eq) (r2 X.K E (dOwn2 C φ)) := by
  intro pins s σ H x y u v Q I rx ry h
  obtain ⟨s0, dx, dy, kk, xx, rfl, ok, hdx, hdy, ⟨⟨fs, hi⟩, ⟨fs', hi'⟩, q⟩, p, px⟩ := h
  obtain ⟨a, da, fvs, rfl, ha, rf⟩ := ins_of ok hdx hi
  obtain ⟨b, db, fvs', rfl, hb', rf'⟩ := ins_of ok hdy hi'
  obtain rfl : u = Value.ref a := rx
  obtain rfl : v = Value.ref b := ry
  obtain ⟨_, O, _⟩ := ins_get I.hok ha
  obtain ⟨_, O', _⟩ := ins_get I.hok hb'
  obtain ⟨_, J, _⟩ := O.look
  obtain ⟨_, J', _⟩ := O'.look
  obtain ⟨m, hF⟩ := I.fr
  show wpAny _ _ (richCompare .Eq _ _) _ _ _
  refine PySem.W.cmp_K (op := .Eq) (tb := .ref C) hr.units0 hF I.ok.mod.kin J J'.type (by unfold PySem.W.notFirst; simp) hs hf ?_
  refine wpAny_mono (run_D (us := [.ref a, .ref b]) (vs := [.ref a, .ref b]) (ws := []) (zs := []) F hr hb hx I (.cons rfl (.cons rfl .nil)) .nil ⟨s0, [dx, dy], [], kk, xx, rfl, ok, .cons hdx (.cons hdy .nil), .nil, rfl, rfl, rfl, q, p, px⟩) (fun w s' z => ?_) fun _ _ x => x
  obtain ⟨z', H', I', rz, qz⟩ := z
  exact SlX.cmpback rz ⟨z', H', I', rz, qz⟩
/-! ### the truth of an instance -/
def dTru (C : Addr) (φ : Ct) (τ : DE) : DT := fun ρ M k x => τ ρ M (fun u M1 => (∃ fs, insOf u M1 = some (C, fs)) ∧ φ [u] M1 (fun r M2 => ∃ b, r = .bl b ∧ k b M2) x) x
theorem t_own (hs : PySem.W.findIn X.K (.ref C) "__bool__" = some (some (.ref f))) (hf : PySem.W.isFn X.K (.ref f) = true) (F : FnOk X.prog X.w X.K X.mg X.base CX k f fd ps (spD X.K 1 φ)) (hb : KBd X.K fd ps 1 [] (fun us _ => us)) (hr : Room k X.A) (hx : Passes CX X E)
    (h : DP X E e τ) (he : ∀ whole, isTrue e X.env whole = (do let v ← whole; standAt e.pos; holding [v] (truthy v)) := by intro _; rfl) : DPT X E e (dTru C φ τ) := by
  refine ⟨fun pins s σ H Q I hh => ?_⟩
  obtain ⟨ρ, s0, kk, xx, rfl, er, q, pp, px⟩ := hh
  refine isTrue_plain (thn (h.run pins s σ s0.H (fun v H1 => ∃ s1 d, s1.H = H1 ∧ Ok X.K s1 ∧ Step s0 s1 ∧ Rep X.K s1.G v d ∧ (∃ fs, insOf d s1.M = some (C, fs)) ∧ φ [d] s1.M (fun r M2 => ∃ b, r = .bl b ∧ kk b M2) xx) I
    ⟨ρ, s0, _, xx, rfl, er, q, fun d s1 q1 st1 ok1 v1 r1 => ⟨s1, d, rfl, ok1, st1, r1, q1⟩, px⟩) fun u s1 ⟨x, H1, I1, rx, sa, d, e1, oka, sta, ra, ⟨fs, hi⟩, q1⟩ => ?_) (he _)
  subst e1
  obtain ⟨a, dx, fvs, ex, hha, rf⟩ := ins_of oka ra hi
  subst ex
  obtain rfl : u = Value.ref a := rx
  obtain ⟨_, O, _⟩ := ins_get I1.hok hha
  obtain ⟨_, J, _⟩ := O.look
  obtain ⟨m, hF⟩ := I1.fr
  refine PySem.W.truthy_K hF I1.ok.mod.kin J hs hf ?_
  refine wpAny_mono (run_D (Q := fun v H' => ∃ b, v = .bl b ∧ Q b H') (us := [.ref a]) (vs := [.ref a]) (ws := []) (zs := []) F hr hb hx I1 (.cons rfl .nil) .nil ⟨sa, [d], [], _, xx, rfl, oka, .cons ra .nil, .nil, rfl, rfl, rfl, q1, ?_, px.step sta⟩) (fun w s' z => ?_) fun _ _ x => x
  · rintro r t ⟨b, rfl, qb⟩ st okt v rv
    cases rv
    exact ⟨b, rfl, pp b t qb (sta.trans st) okt⟩
  · obtain ⟨z', H', I', rz, b, rfl, qz⟩ := z
    cases (show w = Value.bool b from rz)
    exact ⟨H', I', qz⟩
/-! ### xs[::-1] -/
def dRev : D1
  | .lst ds, M, k, _ => k (.lst ds.reverse) M
  | .cel a, M, k, _ => ∃ ds, M a = some (.lst ds) ∧ k (.lst ds.reverse) M
  | _, _, _, _ => False
theorem Reps.reverse {K : PySem.W.Frag} {G : Hp} : ∀ {vs : List V} {ds : List D}, Reps K G vs ds → Reps K G vs.reverse ds.reverse
  | _, _, .nil => .nil
  | _, _, .cons h r => by
    rw [List.reverse_cons, List.reverse_cons]
    exact (Reps.reverse r).append (.cons h .nil)
theorem d_rev {kk : Nat} {p1 p2 p3 : Pos} (he : DP X E e τ) : DP X E (.Subscript e (.Slice none none (some (.UnaryOp .USub (.Constant (.int 1) kk p1) p2)) p3) pos) (dUn dRev τ) := pe_mono (pe_revL he) fun σ H Q h => by
  obtain ⟨ρ, s, k, x, rfl, er, q, p, px⟩ := h
  refine ⟨ρ, s, _, x, rfl, er, q, fun u s1 q1 st1 ok1 v1 r1 => ?_, px⟩
  have q1 : dRev u s1.M k x := q1
  unfold dRev at q1
  split at q1
  · obtain ⟨a, vs, rfl, ha, rs⟩ := r1.lst_of
    exact ⟨a, vs, rfl, .of (ok1.sub _ _ ha), fun t ht => (p.step st1).lst q1 ok1 rs.reverse ht⟩
  · obtain ⟨ds, hm, q1⟩ := q1
    obtain ⟨vs, ho, rs⟩ := ok1.cells _ _ hm
    exact ⟨_, vs, r1.cel_of, .of ho, fun t ht => (p.step st1).lst q1 ok1 rs.reverse ht⟩
  · exact q1.elim
end
end DL
set_option Elab.async false
set_option linter.all false
set_option maxRecDepth 100000
set_option maxHeartbeats 2000000
namespace DL
open PySem PySem.Spec PyProof.Rows L2
/-! ### defaults -/
def pickI {α : Type} (xs : List α) : List Nat → List α
  | [] => []
  | i :: r => (match xs[i]? with | some u => [u] | none => []) ++ pickI xs r
theorem pickI_vals {vs : List V} {us : List Value} (r : Vals vs us) : ∀ l, Vals (pickI vs l) (pickI us l)
  | [] => .nil
  | i :: l => by
    refine Vals.append ?_ (pickI_vals r l)
    cases e : vs[i]? with
    | none => rw [r.none_of e]; exact .nil
    | some v => obtain ⟨u, h1, h2⟩ := r.get e; rw [h1]; exact .cons h2 .nil
theorem pickI_reps {K : PySem.W.Frag} {G : Hp} {vs : List V} {us : List D} (r : Reps K G vs us) : ∀ l, Reps K G (pickI vs l) (pickI us l)
  | [] => .nil
  | i :: l => by
    refine Reps.append ?_ (pickI_reps r l)
    cases e : vs[i]? with
    | none => rw [r.noneD e]; exact .nil
    | some v => obtain ⟨u, h1, h2⟩ := r.getV e; rw [h1]; exact .cons h2 .nil
section
variable {K : PySem.W.Frag} {x qual : Str} {params : Arguments} {body : List Stmt} {scope : Scope} {dvs : List V} {kws : List (Str × V)} {f : Addr} {fd : FuncData} {ps : List Str}
/-- positional defaults, no keyword-only ones: places in (positional ++ defaults ++ keywords) -/
theorem kbd_dflt (F : FunD K x qual params body scope dvs kws f fd) (n : Nat) (ks : List Str) (l : List Nat) (dD : List D) (hd : dvs ≠ []) (hD : ∀ G, Reps K G dvs dD)
    (h : ∀ (T : Addr) (kV doc pm : Value) (an : Option Addr) (cdv ct : Value) (us its ws : List Value), us.length = n → its.length = dvs.length → ws.length = ks.length →
      ∃ k, bindArgs (PySem.W.fnOf x qual params body scope (.ref T) kV doc pm an cdv ct) ⟨us, ks.zip ws⟩ = seqItems? (.ref T) >>= k ∧ k (some its.toArray) = pure (ps.zip (pickI (us ++ its ++ ws) l))) :
    KBd K fd ps n ks (fun us ws => pickI (us ++ dD ++ ws) l) := by
  obtain ⟨its, h⟩ := F.kbindsD n ks (fun us ds ws => pickI (us ++ ds ++ ws) l) hd (fun r1 r2 r3 => pickI_vals ((r1.append r2).append r3) l) h
  exact ⟨_, _, h, fun r1 r2 _ _ => pickI_reps ((r1.append (hD _)).append r2) l⟩
/-- keyword-only defaults, no positional ones -/
theorem kbd_kwo (F : FunD K x qual params body scope [] kws f fd) (n : Nat) (ks : List Str) (ms : List (Str × V)) (l : List Nat) (mD : List D) (hk : kws ≠ []) (hms : ∀ q ∈ ms, q ∈ kws) (hD : ∀ G, Reps K G (ms.map (·.2)) mD)
    (h : ∀ (D : Addr) (doc pm : Value) (an : Option Addr) (cdv ct : Value) (us mv ws : List Value), us.length = n → mv.length = ms.length → ws.length = ks.length →
      KwChain D ((ms.map (·.1)).zip mv) (bindArgs (PySem.W.fnOf x qual params body scope .none (.ref D) doc pm an cdv ct) ⟨us, ks.zip ws⟩) (ps.zip (pickI (us ++ mv ++ ws) l))) :
    KBd K fd ps n ks (fun us ws => pickI (us ++ mD ++ ws) l) := by
  obtain ⟨mv, h⟩ := F.kbinds0 n ks ms (fun us mv ws => pickI (us ++ mv ++ ws) l) hk hms (fun r1 r2 r3 => pickI_vals ((r1.append r2).append r3) l) h
  exact ⟨_, _, h, fun r1 r2 _ _ => pickI_reps ((r1.append (hD _)).append r2) l⟩
/-- both -/
theorem kbd_both (F : FunD K x qual params body scope dvs kws f fd) (n : Nat) (ks : List Str) (ms : List (Str × V)) (l : List Nat) (dD mD : List D) (hd : dvs ≠ []) (hk : kws ≠ []) (hms : ∀ q ∈ ms, q ∈ kws) (hdD : ∀ G, Reps K G dvs dD) (hD : ∀ G, Reps K G (ms.map (·.2)) mD)
    (h : ∀ (T D : Addr) (doc pm : Value) (an : Option Addr) (cdv ct : Value) (us its mv ws : List Value), us.length = n → its.length = dvs.length → mv.length = ms.length → ws.length = ks.length →
      ∃ k, bindArgs (PySem.W.fnOf x qual params body scope (.ref T) (.ref D) doc pm an cdv ct) ⟨us, ks.zip ws⟩ = seqItems? (.ref T) >>= k ∧ KwChain D ((ms.map (·.1)).zip mv) (k (some its.toArray)) (ps.zip (pickI (us ++ its ++ mv ++ ws) l))) :
    KBd K fd ps n ks (fun us ws => pickI (us ++ dD ++ mD ++ ws) l) := by
  obtain ⟨its, mv, h⟩ := F.kbinds n ks ms (fun us ds mv ws => pickI (us ++ ds ++ mv ++ ws) l) hd hk hms (fun r1 r2 r3 r4 => pickI_vals (((r1.append r2).append r3).append r4) l) h
  exact ⟨_, _, h, fun r1 r2 _ _ => pickI_reps (((r1.append (hdD _)).append (hD _)).append r2) l⟩
end
theorem fund_mkD {K : PySem.W.Frag} {x qual : Str} {params : Arguments} {body : List Stmt} {scope : Scope} {f T : Addr} {oc oc' : Value} {od od' an : Option Addr} {osl osl' : Array (Option Value)} {kV doc pm cdv ct : Value} {its : Array Value} {n : Nat} {dvs : List V}
    (l : K.lookup f = some ⟨oc, od, .func (PySem.W.fnOf x qual params body scope (.ref T) kV doc pm an cdv ct), osl⟩) (lT : K.lookup T = some ⟨oc', od', .seq its n, osl'⟩)
    (c : PySem.W.codeIn K cdv qual = true) (k : PySem.W.keepIn K (.ref f) = true) (hd : dvs ≠ []) (r : Vals dvs its.toList) : FunD K x qual params body scope dvs [] f (PySem.W.fnOf x qual params body scope (.ref T) kV doc pm an cdv ct) :=
  ⟨⟨oc, od, .ref T, kV, doc, pm, an, cdv, ct, osl, rfl, l, c, .inr ⟨hd, T, _, its.toList, n, rfl, lT, by simp, r⟩, .inl rfl⟩, k⟩
theorem fund_mkK {K : PySem.W.Frag} {x qual : Str} {params : Arguments} {body : List Stmt} {scope : Scope} {f D : Addr} {oc : Value} {od an : Option Addr} {osl : Array (Option Value)} {doc pm cdv ct : Value} {kws : List (Str × V)}
    (l : K.lookup f = some ⟨oc, od, .func (PySem.W.fnOf x qual params body scope .none (.ref D) doc pm an cdv ct), osl⟩)
    (c : PySem.W.codeIn K cdv qual = true) (k : PySem.W.keepIn K (.ref f) = true) (r : ∀ q ∈ kws, ∃ u, PySem.W.nsIn K D q.1 = some (some u) ∧ RelV q.2 u) : FunD K x qual params body scope [] kws f (PySem.W.fnOf x qual params body scope .none (.ref D) doc pm an cdv ct) :=
  ⟨⟨oc, od, .none, .ref D, doc, pm, an, cdv, ct, osl, rfl, l, c, .inl ⟨rfl, rfl⟩, .inr ⟨D, rfl, r⟩⟩, k⟩

def dBoolF : DN
  | [.bl b], M, k, _ => k (.bl b) M
  | [.int i], M, k, _ => k (.bl (i != 0)) M
  | _, _, _, _ => False
section
variable {X : Cx} {E : XK} {C f : Addr} {fd : FuncData} {ps : List Str} {φ : Ct} {k : Nat} {m : Str} {pos : Pos} {e : Expr} {τ : DE}
theorem c_bool : CallR X (.type "bool") (rA X.K E dBoolF) := by
  intro pins s σ H xs us Q I r h
  obtain ⟨s0, ds, k, xx, rfl, ok, hx, q, p, px⟩ := h
  unfold dBoolF at q
  split at q
  · obtain ⟨v, rfl, rv⟩ := hx.one
    cases rv
    exact call_bool1 pins s σ _ _ us Q I r (.inr ⟨_, rfl, p.now q ok .bl⟩)
  · obtain ⟨v, rfl, rv⟩ := hx.one
    cases rv
    exact call_bool1 pins s σ _ _ us Q I r (.inl ⟨_, rfl, p.now q ok .bl⟩)
  · exact q.elim
theorem d_propE (he : DP X E e τ) (c : Cls X.K C) (hp : ∃ pa, PropOf X.K C m pa f) (F : FnOk X.prog X.w X.K X.mg X.base (L2.CX X.prog X.w) k f fd ps (spD X.K 1 φ)) (hr : Room (k + 1) X.A) (hb : Binds X.K fd ps [])
    (hab : attributeBase e m X.env (eval e X.env) = eval e X.env := by rfl) : DP X E (.Attribute e m pos) (dUn (dPropR C φ) τ) := by
  obtain ⟨pa, hp⟩ := hp
  exact d_prop he c hp F hr hb hab
theorem one_cls {K : PySem.W.Frag} (c : Cls K C) (n : NoAttr K C m) : ∀ C' ∈ [C], Cls K C' ∧ NoAttr K C' m := fun C' h => by
  cases List.mem_singleton.mp h
  exact ⟨c, n⟩
end
/-- readings' small steps -/
theorem fldK {C : Addr} {CS : List Addr} {f : Str} {fs : List (Str × D)} {d : D} {M : Mm} {k : DK} {x : DX} (hC : C ∈ CS) (hl : fs.lookup f = some d) (q : k d M) : dFld CS f (.obj C fs) M k x := ⟨C, fs, d, rfl, hC, hl, q⟩

theorem all_cs1 {p : Addr → Prop} {a : Addr} (h1 : p a) : ∀ C ∈ [a], p C := fun C h => by cases List.mem_singleton.mp h; exact h1
theorem all_cons {p : Addr → Prop} {a : Addr} {l : List Addr} (h1 : p a) (h2 : ∀ C ∈ l, p C) : ∀ C ∈ a :: l, p C := fun C h => by
  rcases List.mem_cons.mp h with e | e
  · cases e; exact h1
  · exact h2 C e
theorem all_cs2 {p : Addr → Prop} {a b : Addr} (h1 : p a) (h2 : p b) : ∀ C ∈ [a, b], p C := all_cons h1 (all_cs1 h2)
theorem all_cs3 {p : Addr → Prop} {a b c : Addr} (h1 : p a) (h2 : p b) (h3 : p c) : ∀ C ∈ [a, b, c], p C := all_cons h1 (all_cs2 h2 h3)
theorem all_cs4 {p : Addr → Prop} {a b c d : Addr} (h1 : p a) (h2 : p b) (h3 : p c) (h4 : p d) : ∀ C ∈ [a, b, c, d], p C := all_cons h1 (all_cs3 h2 h3 h4)
/-! ### isinstance, by the classes' orders -/
theorem kit_same {K : PySem.W.Frag} {C : Addr} : PySem.W.kitOne K (.ref C) (.ref C) = some true := by
  unfold PySem.W.kitOne
  rw [if_pos (by simp)]
theorem kit_in {K : PySem.W.Frag} {t : Value} {C : Addr} {b : Bool} (hc : PySem.W.isClsIn K C = true) (ht : PySem.W.typeIn K (.ref C) = some (.type "type")) (hs : PySem.W.subIn K t (.ref C) = some b) (hb : (t == Value.ref C) = false) : PySem.W.kitOne K t (.ref C) = some b := by
  unfold PySem.W.kitOne PySem.W.kitCls
  rw [hb]
  unfold PySem.W.isClsIn at hc
  simp [hc, ht, hs]
theorem kit_ne {C C' : Addr} (h : C ≠ C') : (Value.ref C == Value.ref C') = false := by
  simp [h]
theorem kit_ty' {C : Addr} {n : String} : (Value.type n == Value.ref C) = false := by simp
theorem kit_to {K : PySem.W.Frag} {C : Addr} {T : String} {b : Bool} (hm : PySem.W.kitMeta T = true) (hs : PySem.W.subIn K (.ref C) (.type T) = some b) : PySem.W.kitOne K (.ref C) (.type T) = some b := by
  unfold PySem.W.kitOne PySem.W.kitCls
  rw [if_neg (by simp)]
  simp [hm, hs]
theorem kd_true {C : Addr} : some true = some (decide (C = C)) := by simp
theorem kd_false {C D : Addr} (h : C ≠ D) : some false = some (decide (C = D)) := by simp [h]

/-! ### return, the def's own cells forgotten -/
def mres (M m0 : Mm) : Mm := fun a => if (m0 a).isSome = true then M a else none
theorem mres_mup {M : Mm} {p : Addr} {o : MO} (h : M p = none) : mres (mup M p o) M = M := by
  funext a
  unfold mres mup
  by_cases e : a = p
  · subst e; simp [h]
  · rw [if_neg e]
    cases ea : M a <;> simp
theorem mres_self {M : Mm} : mres M M = M := by
  funext a
  unfold mres
  cases ea : M a <;> simp
theorem Ok.res {K : PySem.W.Frag} {b s : Sta} (k : Ok K s) (st : Step b s) : Ok K ⟨s.H, s.G, mres s.M b.M⟩ ∧ Step b ⟨s.H, s.G, mres s.M b.M⟩ := by
  have up : ∀ a mo, mres s.M b.M a = some mo → s.M a = some mo := fun a mo e => by
    unfold mres at e
    split at e
    · exact e
    · cases e
  refine ⟨⟨k.sub, fun a mo e => k.apart a mo (up a mo e), fun a mo e => k.cells a mo (up a mo e)⟩, ⟨st.same, fun a h => ?_, fun a o h1 h2 h3 => ?_⟩⟩
  · show (mres s.M b.M a).isSome = true
    unfold mres
    rw [if_pos h]
    exact st.dom a h
  · obtain ⟨x1, x2, x3⟩ := st.hid a o h1 h2 h3
    refine ⟨x1, x2, ?_⟩
    show mres s.M b.M a = none
    unfold mres
    split
    · exact x3
    · rfl
def dRetD (τ : DE) : DS := fun k x ρ M => τ ρ M (fun u M1 => k.rt u (mres M1 k.m0)) x
theorem s_retD {X : Cx} {E : XK} {e : Expr} {pos : Pos} {τ : DE} (he : DP X E e τ) : DPS X E (.Return (some e) pos) (dRetD τ) := ps_mono (ps_ret he) fun D σ H h => by
  obtain ⟨ρ, s, k, x, rfl, er, q, p, px⟩ := h
  obtain ⟨b, sb, ob, mb, pb⟩ := p.rt
  refine ⟨ρ, s, _, x, rfl, er, q, fun u s1 q1 st1 ok1 v1 r1 => ?_, px⟩
  have st : Step b s1 := sb.trans st1
  obtain ⟨k2, st2⟩ := ok1.res st
  exact pb u ⟨_, _, _⟩ (by rw [mb]; exact q1) st2 k2 v1 r1
end DL
set_option Elab.async false
set_option linter.all false
set_option maxRecDepth 100000
set_option maxHeartbeats 2000000
namespace DX
open PySem PySem.SeqAt
open AutoSeq1 (wpAny_loadPart')
open MeetsSeq MeetsSeq2 MeetsSeq3 SeqRoads2
section
variable {prog : Program} {w : World} {A : Around} {R : Result → Shared → Prop}
/-- two tuples of two items: the first items' answer decides whether the second ones are asked -/
theorem pair_eq {l b : Addr} {u1 u2 v1 v2 : Value} {n n2 : Nat} {dd dd2 : Option Addr} {sl sl2 : Array (Option Value)} {s : Shared}
    (hl : s.heap.get? l = some { cls := .type "tuple", dict := dd, data := .seq #[u1, u2] n, slots := sl }) (hb : s.heap.get? b = some { cls := .type "tuple", dict := dd2, data := .seq #[v1, v2] n2, slots := sl2 })
    (h : wpAny (model prog w) A.in1 (eqBool u1 v1) (fun r s' => (r = false ∧ R (.ok (.ret (.bool false))) s') ∨ (r = true ∧
      wpAny (model prog w) A.in1 (eqBool u2 v2) (fun r s' => R (.ok (.ret (.bool r))) s') (fun e s' => R (.error e) s') s')) (fun e s' => R (.error e) s') s) :
    wpAny (model prog w) A.in1 (Builtin.«tuple.__eq__» ⟨[.ref l, .ref b], []⟩) (GQ.FinOf prog w A R) (fun e s' => R (.error e) s') s := by
  have f2 := AutoSeq1.sub_tuple_tuple
  have start := h
  obtain ⟨hp, gg, dr, tk, os⟩ := s
  wp_walk using wpAny_loadPart' hl, wpAny_loadPart' hb, wpAny_forIn_list _ (fun rest st s' => st.1 = none ∧
    ((rest = [(u1, v1), (u2, v2)] ∧ wpAny (model prog w) A.in1 (eqBool u1 v1) (fun r s' => (r = false ∧ R (.ok (.ret (.bool false))) s') ∨ (r = true ∧
        wpAny (model prog w) A.in1 (eqBool u2 v2) (fun r s' => R (.ok (.ret (.bool r))) s') (fun e s' => R (.error e) s') s')) (fun e s' => R (.error e) s') s') ∨
      (rest = [(u2, v2)] ∧ wpAny (model prog w) A.in1 (eqBool u2 v2) (fun r s' => R (.ok (.ret (.bool r))) s') (fun e s' => R (.error e) s') s') ∨ (rest = [] ∧ R (.ok (.ret (.bool true))) s'))) _
  case turn =>
    rintro ⟨y, x⟩ rest st s' ⟨hst, ⟨hz, hw⟩ | ⟨hz, hw⟩ | ⟨hz, hw⟩⟩
    · cases hz
      refine wpAny_bind (wpAny_mono hw (fun r s2 q => ?_) fun _ _ x => x)
      rcases q with ⟨rfl, q⟩ | ⟨rfl, q⟩
      · wp_walk
        exact q
      · wp_walk
        exact ⟨rfl, .inr (.inl ⟨rfl, q⟩)⟩
    · cases hz
      refine wpAny_bind (wpAny_mono hw (fun r s2 q => ?_) fun _ _ x => x)
      cases r with
      | false =>
        wp_walk
        exact q
      | true =>
        wp_walk
        exact ⟨rfl, .inr (.inr ⟨rfl, q⟩)⟩
    · cases hz
  case fin =>
    rintro ⟨b1, b2⟩ s' ⟨hst, ⟨hz, hw⟩ | ⟨hz, hw⟩ | ⟨hz, hw⟩⟩
    · cases hz
    · cases hz
    · simp only at hst
      subst hst
      wp_walk
      exact hw
  case h => exact ⟨rfl, .inl ⟨rfl, start⟩⟩
theorem eq_self {a : Addr} {E : Value → Shared → Prop} {s : Shared} {Q : Bool → Shared → Prop} (h : Q true s) : wpAny (model prog w) A (eqBool (.ref a) (.ref a)) Q E s := by
  unfold eqBool
  refine wpAny_holding ?_
  refine wpAny_ite_split (fun _ => ?_) (fun z => absurd (beq_self_eq_true _) z)
  wp_walk
  exact h
theorem rc_pair {l b : Addr} {u1 u2 v1 v2 : Value} {E : Value → Shared → Prop} {s : Shared} {Q : Value → Shared → Prop} (hu : A.units < cLine) (hl : s.heap.IsTuple l #[u1, u2]) (hb : s.heap.IsTuple b #[v1, v2])
    (h : wpAny (model prog w) A.in1 (eqBool u1 v1) (fun r s' => (r = false ∧ Q (.bool false) s') ∨ (r = true ∧ wpAny (model prog w) A.in1 (eqBool u2 v2) (fun r s' => Q (.bool r) s') E s')) E s) :
    wpAny (model prog w) A (richCompare .Eq (.ref l) (.ref b)) Q E s := by
  obtain ⟨⟨c1, x1, y1, z1⟩, g1, e1, m1, d1⟩ := id hl
  obtain ⟨⟨c2, x2, y2, z2⟩, g2, e2, m2, d2⟩ := id hb
  simp only at e1 d1 e2 d2
  subst e1 d1 e2 d2
  refine wpAny_richCompare_same_room (op := .Eq) ⟨_, g1, rfl⟩ ⟨_, g2, rfl⟩ PySem.F.slot_tuple_eq (GQ.call_here PySem.F.slot_tuple_eq ⟨_, g1, rfl⟩ PySem.F.entry_tuple_eq (PySem.F.args_tuple_eq_2 _ _) ?_) hu
  refine pair_eq (R := wants (fun v s' => v ≠ .notImplemented ∧ Q v s') E) g1 g2 (wpAny_mono h (fun r s' q => ?_) fun _ _ x => x)
  rcases q with ⟨rfl, q⟩ | ⟨rfl, q⟩
  · exact .inl ⟨rfl, nofun, q⟩
  · exact .inr ⟨rfl, wpAny_mono q (fun r s2 q => ⟨nofun, q⟩) fun _ _ x => x⟩
end
end DX
namespace DL
open PySem PySem.Spec PyProof.Rows L2
def flatF (fs : List (Str × D)) : Bool := fs.all fun f => flatD f.2
theorem Rep.flat_inj {K : PySem.W.Frag} {G : Hp} {v : V} {d d' : D} (h : Rep K G v d) (h' : Rep K G v d') (f : flatD d = true) (f' : flatD d' = true) : d = d' := by
  cases h <;> cases f <;> cases h' <;> first | rfl | cases f'
theorem FRep.flat_inj {K : PySem.W.Frag} {G : Hp} : ∀ {vs : List (Str × V)} {ds es : List (Str × D)}, FRep K G vs ds → FRep K G vs es → flatF ds = true → flatF es = true → ds = es
  | _, _, _, .nil, .nil, _, _ => rfl
  | _, _, _, .cons h r, .cons h' r', f, f' => by
    unfold flatF at f f'
    rw [List.all_cons, Bool.and_eq_true] at f f'
    rw [h.flat_inj h' f.1 f'.1, FRep.flat_inj r r' f.2 f'.2]
section
variable {X : Cx} {E : XK} {k : Nat} {f C : Addr} {fd : FuncData} {ps : List Str} {φ : Ct}
/-- == of two pairs (instance with an own __eq__, int) -/
def dEqT (C : Addr) (φ : Ct) : D2 := fun x y M k xx => ∃ fs gs i j, x = .tup [.obj C fs, .int i] ∧ y = .tup [.obj C gs, .int j] ∧ flatF fs = true ∧ flatF gs = true ∧ (fs = gs → k (.bl (decide (i = j))) M) ∧
  φ [.obj C fs, .obj C gs] M (fun r M1 => ∃ b, r = .bl b ∧ k (.bl (b && decide (i = j))) M1) (fun _ _ _ => False)
theorem o_eqT (hs : PySem.W.findIn X.K (.ref C) "__eq__" = some (some (.ref f))) (hf : PySem.W.isFn X.K (.ref f) = true) (F : FnOk X.prog X.w X.K X.mg X.base (L2.CX X.prog X.w) k f fd ps (spD X.K 2 φ)) (hb : Binds X.K fd ps []) (hr : Room (k + 1) X.A) :
    OpR X (compareOp .Eq) (r2 X.K E (dEqT C φ)) := by
  intro pins s σ H x y u v Q I rx ry h
  obtain ⟨s0, dx, dy, kk, xx, rfl, ok, hdx, hdy, ⟨fs, gs, i, j, rfl, rfl, f1, f2, qs, q⟩, p, px⟩ := h
  obtain ⟨l, vs, rfl, hl, rl⟩ := hdx.tup_of
  obtain ⟨b, ws, rfl, hb', rb⟩ := hdy.tup_of
  obtain ⟨v1, v2, rfl, r1, r2⟩ := rl.two
  obtain ⟨w1, w2, rfl, r3, r4⟩ := rb.two
  obtain rfl : u = Value.ref l := rx
  obtain rfl : v = Value.ref b := ry
  obtain ⟨a, da, fv, rfl, ha, rfa⟩ := r1.obj_of
  obtain ⟨c, dc, gv, rfl, hc, rfc⟩ := r3.obj_of
  cases r2.int_of
  cases r4.int_of
  have ha' := ok.sub _ _ ha
  have hc' := ok.sub _ _ hc
  obtain ⟨its, rv, pl, hz⟩ := I.tuple (Same.seqT ok.sub hl)
  obtain ⟨jts, rw', pl', hz'⟩ := I.tuple (Same.seqT ok.sub hb')
  obtain ⟨u1, u2, rfl, ru1, ru2⟩ := rv.two
  obtain ⟨z1, z2, rfl, rz1, rz2⟩ := rw'.two
  obtain rfl : u1 = Value.ref a := ru1
  obtain rfl : z1 = Value.ref c := rz1
  obtain ⟨t1, rfl⟩ := ru2
  obtain ⟨t2, rfl⟩ := rz2
  have hr' : Room k X.A.in1 := Room.in1 hr
  show wpAny _ _ (richCompare .Eq _ _) _ _ _
  refine DX.rc_pair hr.units0 (show s.heap.IsTuple l _ from pl) (show s.heap.IsTuple b _ from pl') ?_
  have ij : (i == j) = decide (i = j) := rfl
  by_cases e : a = c
  · subst e
    rw [ha] at hc
    cases hc
    have e2 := rfa.flat_inj rfc f1 f2
    refine DX.eq_self (.inr ⟨rfl, wpAny_eqBool_int ?_⟩)
    rw [ij]
    exact ⟨.bl _, s0.H, I, rfl, p.now (qs e2) ok .bl⟩
  · refine GQ.eqBool_refG e ?_
    obtain ⟨_, O, _⟩ := ins_get I.hok ha'
    obtain ⟨_, O', _⟩ := ins_get I.hok hc'
    obtain ⟨_, J, _⟩ := O.look
    obtain ⟨_, J', _⟩ := O'.look
    obtain ⟨m, hF⟩ := I.fr
    refine PySem.W.cmp_K (op := .Eq) (tb := .ref C) hr'.units0 hF I.ok.mod.kin J J'.type (by unfold PySem.W.notFirst; simp) hs hf ?_
    have FR := F.raw hb .nil
    refine wpAny_mono (wpAny_call (SlX.run_at (Q := fun v H' => ∃ b, v = .bl b ∧ Q (.bl (b && decide (i = j))) H') (us := [.ref a, .ref c]) (ws := [.ref a, .ref c]) FR hr' I.env0.in1 (E := fun _ _ _ => False) (CX := L2.CX X.prog X.w) ?_ I (.cons rfl (.cons rfl .nil)) ⟨s0, [.obj C fs, .obj C gs], _, _, rfl, ok, .cons r1 (.cons r3 .nil), rfl, q, ?_, PostX.never⟩)) (fun w s' z => ?_) fun _ _ x => x
    · intro pins σ H s e s' I h
      obtain ⟨_, _, _, _, _, _, _, _, _, _, _, _, z⟩ := h
      exact z.elim
    · rintro d t ⟨bb, rfl, qb⟩ st okt v rv
      cases rv
      exact ⟨bb, rfl, p _ t qb st okt _ .bl⟩
    · obtain ⟨z', H', I', rz, bb, rfl, qz⟩ := z
      cases (show w = Value.bool bb from rz)
      refine ⟨bb, rfl, ?_⟩
      cases bb with
      | false => exact .inl ⟨rfl, .bl false, H', I', rfl, qz⟩
      | true =>
        refine .inr ⟨rfl, wpAny_eqBool_int ?_⟩
        rw [ij]
        exact ⟨.bl _, H', I', rfl, qz⟩
end
end DL
set_option Elab.async false
set_option linter.all false
set_option maxRecDepth 100000
set_option maxHeartbeats 2000000
namespace DL
open PySem PySem.Spec PyProof.Rows L2
section
variable {X : Cx} {CX : CXT} {E : XK} {k : Nat} {f C : Addr} {fd : FuncData} {ps : List Str} {φ : Ct} {e : Expr} {τ : DE} {pos : Pos}
/-! ### in, by the class's own __contains__ -/
def dOwnIn (neg : Bool) (C : Addr) (φ : Ct) : D2 := fun x y M k xx => (∃ fs, insOf y M = some (C, fs)) ∧ φ [y, x] M (fun r M1 => ∃ b, r = .bl b ∧ k (.bl (if neg then !b else b)) M1) xx
theorem own_in {pins : List (Addr × Obj)} {s : Shared} {σ : L2.St} {x : V} {u : Value} {Q : VK} {s0 : Sta} {dx dy : D} {kk : DK} {xx : DX} {neg : Bool} {a : Addr} (F : FnOk X.prog X.w X.K X.mg X.base CX k f fd ps (spD X.K 2 φ)) (hb : KBd X.K fd ps 2 [] (fun us _ => us)) (hr : Room k X.A) (hx : Passes CX X E)
    (I : Inv X pins σ s0.H s) (rx : RelV x u) (ok : Ok X.K s0) (hdx : Rep X.K s0.G x dx) (hdy : Rep X.K s0.G (.ref a) dy) (q : φ [dy, dx] s0.M (fun r M1 => ∃ b, r = .bl b ∧ kk (.bl (if neg then !b else b)) M1) xx) (p : Post X.K s0 kk Q) (px : PostX X.K E s0 xx) :
    wpAny (model X.prog X.w) X.A (call (.ref f) [.ref a, u]) (fun r s' => wpAny (model X.prog X.w) X.A (truthy r) (fun b => EP X pins σ Q (.bool (if neg then !b else b))) X.xe s') X.xe s := by
  refine wpAny_mono (run_D (Q := fun v H' => ∃ b, v = .bl b ∧ Q (.bl (if neg then !b else b)) H') (us := [.ref a, u]) (vs := [.ref a, x]) (ws := []) (zs := []) F hr hb hx I (.cons rfl (.cons rx .nil)) .nil ⟨s0, [dy, dx], [], _, xx, rfl, ok, .cons hdy (.cons hdx .nil), .nil, rfl, rfl, rfl, q, ?_, px⟩) (fun w s' z => ?_) fun _ _ x => x
  · rintro d t ⟨b, rfl, qb⟩ st okt v rv
    cases rv
    exact ⟨b, rfl, p _ t qb st okt _ .bl⟩
  · obtain ⟨z', H', I', rz, b, rfl, qz⟩ := z
    cases (show w = Value.bool b from rz)
    exact wpAny_truthy_bool ⟨.bl _, H', I', rfl, qz⟩
theorem o_ownIn (hs : PySem.W.findIn X.K (.ref C) "__contains__" = some (some (.ref f))) (hf : PySem.W.isFn X.K (.ref f) = true) (F : FnOk X.prog X.w X.K X.mg X.base CX k f fd ps (spD X.K 2 φ)) (hb : KBd X.K fd ps 2 [] (fun us _ => us)) (hr : Room k X.A) (hx : Passes CX X E) :
    OpR X (compareOp .In) (r2 X.K E (dOwnIn false C φ)) := by
  intro pins s σ H x y u v Q I rx ry h
  obtain ⟨s0, dx, dy, kk, xx, rfl, ok, hdx, hdy, ⟨⟨fs, hi⟩, q⟩, p, px⟩ := h
  obtain ⟨a, da, fvs, rfl, ha, rf⟩ := ins_of ok hdy hi
  obtain rfl : v = Value.ref a := ry
  obtain ⟨_, O, _⟩ := ins_get I.hok ha
  obtain ⟨_, J, _⟩ := O.look
  obtain ⟨m, hF⟩ := I.fr
  exact PySem.W.in_K hF I.ok.mod.kin J hs hf (own_in (neg := false) F hb hr hx I rx ok hdx hdy q p px)
theorem o_ownNotIn (hs : PySem.W.findIn X.K (.ref C) "__contains__" = some (some (.ref f))) (hf : PySem.W.isFn X.K (.ref f) = true) (F : FnOk X.prog X.w X.K X.mg X.base CX k f fd ps (spD X.K 2 φ)) (hb : KBd X.K fd ps 2 [] (fun us _ => us)) (hr : Room k X.A) (hx : Passes CX X E) :
    OpR X (compareOp .NotIn) (r2 X.K E (dOwnIn true C φ)) := by
  intro pins s σ H x y u v Q I rx ry h
  obtain ⟨s0, dx, dy, kk, xx, rfl, ok, hdx, hdy, ⟨⟨fs, hi⟩, q⟩, p, px⟩ := h
  obtain ⟨a, da, fvs, rfl, ha, rf⟩ := ins_of ok hdy hi
  obtain rfl : v = Value.ref a := ry
  obtain ⟨_, O, _⟩ := ins_get I.hok ha
  obtain ⟨_, J, _⟩ := O.look
  obtain ⟨m, hF⟩ := I.fr
  exact PySem.W.notIn_K hF I.ok.mod.kin J hs hf (own_in (neg := true) F hb hr hx I rx ok hdx hdy q p px)
/-- the right value's class decides: own, where it is an instance of C -/
def dSelR (C : Addr) (own g : D2) : D2 := fun x y M k xx => match insOf y M with
  | some (D, _) => if D = C then own x y M k xx else g x y M k xx
  | none => g x y M k xx
theorem o_selR {g : Value → Value → Sem Value} {own h : D2} (h1 : OpR X g (r2 X.K E own)) (h2 : OpR X g (r2 X.K E h)) : OpR X g (r2 X.K E (dSelR C own h)) := by
  intro pins s σ H x y u v Q I rx ry hh
  obtain ⟨s0, dx, dy, kk, xx, rfl, ok, hdx, hdy, q, p, px⟩ := hh
  unfold dSelR at q
  split at q
  · split at q
    · exact h1 pins s σ _ x y u v Q I rx ry ⟨s0, dx, dy, kk, xx, rfl, ok, hdx, hdy, q, p, px⟩
    · exact h2 pins s σ _ x y u v Q I rx ry ⟨s0, dx, dy, kk, xx, rfl, ok, hdx, hdy, q, p, px⟩
  · exact h2 pins s σ _ x y u v Q I rx ry ⟨s0, dx, dy, kk, xx, rfl, ok, hdx, hdy, q, p, px⟩
/-- the left value's class decides: own, where it is an instance of C -/
def dSelC (C : Addr) (own g : D2) : D2 := fun x y M k xx => match insOf x M with
  | some (D, _) => if D = C then own x y M k xx else g x y M k xx
  | none => g x y M k xx
theorem o_selC {g : Value → Value → Sem Value} {own h : D2} (h1 : OpR X g (r2 X.K E own)) (h2 : OpR X g (r2 X.K E h)) : OpR X g (r2 X.K E (dSelC C own h)) := by
  intro pins s σ H x y u v Q I rx ry hh
  obtain ⟨s0, dx, dy, kk, xx, rfl, ok, hdx, hdy, q, p, px⟩ := hh
  unfold dSelC at q
  split at q
  · split at q
    · exact h1 pins s σ _ x y u v Q I rx ry ⟨s0, dx, dy, kk, xx, rfl, ok, hdx, hdy, q, p, px⟩
    · exact h2 pins s σ _ x y u v Q I rx ry ⟨s0, dx, dy, kk, xx, rfl, ok, hdx, hdy, q, p, px⟩
  · exact h2 pins s σ _ x y u v Q I rx ry ⟨s0, dx, dy, kk, xx, rfl, ok, hdx, hdy, q, p, px⟩
/-! ### a changing list and [] -/
def dNeNil : D2 := fun x y M k _ => ∃ a ds, x = .cel a ∧ y = .lst [] ∧ M a = some (.lst ds) ∧ k (.bl (!ds.isEmpty)) M
theorem o_neNil (hu : X.A.units + 64 < cLine) : OpR X (compareOp .NotEq) (r2 X.K E dNeNil) := by
  intro pins s σ H x y u v Q I rx ry h
  obtain ⟨s0, dx, dy, kk, xx, rfl, ok, hdx, hdy, ⟨a, ds, rfl, rfl, hm, q⟩, p, px⟩ := h
  cases hdx
  obtain ⟨b, vs, rfl, hb, rs⟩ := hdy.lst_of
  cases rs
  obtain ⟨ws, ha, rw'⟩ := ok.cells _ _ hm
  obtain rfl : u = Value.ref a := rx
  obtain rfl : v = Value.ref b := ry
  obtain ⟨its, rv, pl, hz⟩ := I.list (SqL.of ha)
  obtain ⟨jts, rj, pl', hz'⟩ := I.list (SqL.of (ok.sub _ _ hb))
  cases rj
  have hl := rv.length
  have hl' := rw'.length
  show wpAny _ _ (richCompare .NotEq _ _) _ _ _
  cases ds with
  | nil =>
    have e : its = [] := List.eq_nil_of_length_eq_zero (by rw [← hl, hl']; rfl)
    subst e
    exact SeqAt.RcNeAt.lists (e := fun _ => true) pl.isList pl'.isList rfl (by omega) (fun j h1 => absurd h1 (by simp)) _ _ _ _ ⟨.bl false, s0.H, I, rfl, p.now q ok .bl⟩
  | cons d ds =>
    refine SeqAt.RcNeAt.lists_lengths pl.isList pl'.isList ?_ (by omega) _ _ _ _ ⟨.bl true, s0.H, I, rfl, p.now q ok .bl⟩
    have : its.length = ds.length + 1 := by rw [← hl, hl']; rfl
    simp [this]
/-! ### x op= e of ints -/
def dAugI (i : Nat) (g : Int → Int → Int) (τ : DE) : DS := fun k x ρ M => ∃ a, ρ[i]? = some (some (.int a)) ∧ τ ρ M (fun u M1 => ∃ b, u = .int b ∧ k.nx (ρ.set i (some (.int (g a b)))) M1) x
theorem s_augI {i : Nat} {y : Str} {op : Operator} {g : Int → Int → Int} {pos' : Pos} (ho : PIp X op (ipI g)) (hN : X.N.Nodup) (hi : X.N[i]? = some y) (hx : Loc X.env.scope y) (he : DP X E e τ) (hf : X.fn y = true ∨ X.env.scope.names.lookup y = some .local := by first | exact .inl rfl | exact .inr rfl | assumption) :
    DPS X E (.AugAssign (.Name y pos') op e pos) (dAugI i g τ) := ps_mono (ps_aug hN hi hx he ho hf) fun D σ H h => by
  obtain ⟨ρ, s, k, x, rfl, er, ⟨a, ha, q⟩, p, px⟩ := h
  obtain ⟨v, hv, rv⟩ := er.at_ _ _ ha
  cases rv.int_of
  refine ⟨.int a, hv, ρ, s, _, x, rfl, er, q, fun u s1 q1 st1 ok1 v1 r1 => ?_, px⟩
  obtain ⟨b, rfl, q1⟩ := q1
  exact ⟨a, b, rfl, r1.int_of, p.nx _ s1 q1 st1 _ ((er.step st1 ok1).set i .int)⟩
/-- xs.extend(ys) -/
def dExtend : D → List D → Mm → DK → DX → Prop
  | .cel a, [.lst es], M, k, _ => ∃ ds, M a = some (.lst ds) ∧ ds.length + es.length ≤ sizeLine ∧ k .non (mup M a (.lst (ds ++ es)))
  | _, _, _, _, _ => False
theorem m_extend : MtR X "list.extend" (rM X.K E dExtend) := by
  intro pins s σ H x xs v us Q I rx rs h
  obtain ⟨s0, dx, ds, k, xx, rfl, ok, hx, hxs, q, p, px⟩ := h
  unfold dExtend at q
  split at q
  · cases hx
    obtain ⟨ds, hm, hz, q⟩ := q
    obtain ⟨y, rfl, ry⟩ := hxs.one
    obtain ⟨b, zs, rfl, hb, rz⟩ := ry.lst_of
    obtain ⟨vs, e, r1⟩ := ok.cells _ _ hm
    obtain ⟨k4, st4⟩ := ok.put (o := .lst (vs ++ zs)) (mo := .lst (ds ++ _)) (by rw [hm]; rfl) ⟨_, rfl, r1.append rz⟩
    exact mt_extend pins s σ _ _ _ v us Q I rx rs ⟨_, b, vs, zs, rfl, rfl, e, ok.sub _ _ hb, by rw [r1.length, rz.length]; exact hz, p _ ⟨_, _, _⟩ q st4 k4 _ .non⟩
  · exact q.elim
/-! ### not e, by the class's own __bool__ -/
def dNotO (C : Addr) (φ : Ct) (τ : DE) : DE := fun ρ M k x => τ ρ M (fun u M1 => (∃ fs, insOf u M1 = some (C, fs)) ∧ φ [u] M1 (fun r M2 => ∃ b, r = .bl b ∧ k (.bl (!b)) M2) x) x
theorem d_notO (hs : PySem.W.findIn X.K (.ref C) "__bool__" = some (some (.ref f))) (hf : PySem.W.isFn X.K (.ref f) = true) (F : FnOk X.prog X.w X.K X.mg X.base CX k f fd ps (spD X.K 1 φ)) (hb : KBd X.K fd ps 1 [] (fun us _ => us)) (hr : Room k X.A) (hx : Passes CX X E)
    (h : DP X E e τ) : DP X E (.UnaryOp .Not e pos) (dNotO C φ τ) := by
  refine ⟨fun pins s σ H Q I hh => ?_⟩
  obtain ⟨ρ, s0, kk, xx, rfl, er, q, pp, px⟩ := hh
  refine UnaryOp_ (thn (h.run pins s σ s0.H (fun v H1 => ∃ s1 d, s1.H = H1 ∧ Ok X.K s1 ∧ Step s0 s1 ∧ Rep X.K s1.G v d ∧ (∃ fs, insOf d s1.M = some (C, fs)) ∧ φ [d] s1.M (fun r M2 => ∃ b, r = .bl b ∧ kk (.bl (!b)) M2) xx) I
    ⟨ρ, s0, _, xx, rfl, er, q, fun d s1 q1 st1 ok1 v1 r1 => ⟨s1, d, rfl, ok1, st1, r1, q1⟩, px⟩) fun u s1 ⟨x, H1, I1, rx, sa, d, e1, oka, sta, ra, ⟨fs, hi⟩, q1⟩ => ?_)
  subst e1
  obtain ⟨a, dx, fvs, ex, hha, rf⟩ := ins_of oka ra hi
  subst ex
  obtain rfl : u = Value.ref a := rx
  obtain ⟨_, O, _⟩ := ins_get I1.hok hha
  obtain ⟨_, J, _⟩ := O.look
  obtain ⟨m, hF⟩ := I1.fr
  refine not_of (PySem.W.truthy_K hF I1.ok.mod.kin J hs hf ?_)
  refine wpAny_mono (run_D (Q := fun v H' => ∃ b, v = .bl b ∧ Q (.bl (!b)) H') (us := [.ref a]) (vs := [.ref a]) (ws := []) (zs := []) F hr hb hx I1 (.cons rfl .nil) .nil ⟨sa, [d], [], _, xx, rfl, oka, .cons ra .nil, .nil, rfl, rfl, rfl, q1, ?_, px.step sta⟩) (fun w s' z => ?_) fun _ _ x => x
  · rintro r t ⟨b, rfl, qb⟩ st okt v rv
    cases rv
    exact ⟨b, rfl, pp _ t qb (sta.trans st) okt _ .bl⟩
  · obtain ⟨z', H', I', rz, b, rfl, qz⟩ := z
    cases (show w = Value.bool b from rz)
    exact ⟨.bl (!b), H', I', rfl, qz⟩
end
/-! ### a comprehension over a changing list -/
inductive LcKC (g : DG) (θ : DT) (ε : DE) (vs : List Nat) (ρ : DEnv) (a : Addr) (ds : List D) (M0 : Mm) (k : DK) : Prop where
  | of (hl : ds.length < sizeLine) (I : Nat → List D → Mm → Prop) (i0 : I 0 [] M0) (keep : ∀ j acc M, I j acc M → M a = some (.lst ds))
      (turn : ∀ (j : Nat) (d : D) (acc : List D) (M : Mm), ds[j]? = some d → I j acc M → g d (wipeD ρ vs) M fun ρ1 M2 => θ ρ1 M2 (fun b M3 => if b = true then ε ρ1 M3 (fun y M4 => I (j + 1) (acc ++ [y]) M4) (fun _ _ _ => False) else I (j + 1) acc M3) (fun _ _ _ => False))
      (fin : ∀ acc M, I ds.length acc M → k (.lst acc) M)
  | no (h : False)
def dLcC (τ : DE) (g : DG) (θ : DT) (ε : DE) (vs : List Nat) : DE := fun ρ M k x => τ ρ M (fun u M1 => ∃ a ds, u = .cel a ∧ M1 a = some (.lst ds) ∧ LcKC g θ ε vs ρ a ds M1 k) x
theorem up_lcC {K : PySem.W.Frag} {E : XK} {τ : DE} {g : TG} {γ : DG} {θ : DT} {ε : DE} {vs : List Nat} {σ : L2.St} {H : Hp} {Q : VK} (gp : GPair K g γ vs) (h : up K E (dLcC τ γ θ ε vs) σ H Q) : tLc (iList K (up K E τ)) g (upT K E0 θ) (up K E0 ε) vs σ H Q := by
  obtain ⟨ρ, s, k, x, rfl, er, q, p, px⟩ := h
  refine ⟨ρ, s, _, x, rfl, er, q, fun u s1 q1 st1 ok1 v1 r1 => ?_, px⟩
  obtain ⟨a, ds, rfl, hm, q1⟩ := q1
  have hv := r1.cel_of
  subst hv
  rcases q1 with ⟨hlen, I, i0, keep, turn, fin⟩ | z
  case no => exact z.elim
  have at_ : ∀ t : Sta, Ok K t → t.M a = some (.lst ds) → ∃ us, SqL K t.H a us ∧ Reps K t.G us ds := fun t ok hm => by
    obtain ⟨us, e, r⟩ := ok.cells _ _ hm
    exact ⟨us, SqL.of e, r⟩
  obtain ⟨us0, hq0, _⟩ := at_ s1 ok1 hm
  refine ⟨a, rfl, ⟨us0, hq0⟩, ?_⟩
  intro L hL
  have inv0 : ∃ (acc : List D) (vs' : List V) (s' : Sta), s'.H = upd s1.H L (.lst []) ∧ Ok K s' ∧ Step s1 s' ∧ s'.G L = none ∧ s'.M L = none ∧ s'.H L = some (.lst vs') ∧ Reps K s'.G vs' acc ∧ acc.length ≤ 0 ∧ I 0 acc s'.M := by
    obtain ⟨k1, st⟩ := ok1.hide (o := .lst []) (Step.refl s1) hL (ok1.freeG hL) (ok1.freeM hL)
    exact ⟨[], [], ⟨_, _, _⟩, rfl, k1, st, ok1.freeG hL, ok1.freeM hL, upd_same, .nil, Nat.le_refl _, i0⟩
  refine ⟨fun j m H' => m = ds.length - j ∧ j ≤ ds.length ∧ ∃ (acc : List D) (vs' : List V) (s' : Sta), s'.H = H' ∧ Ok K s' ∧ Step s1 s' ∧ s'.G L = none ∧ s'.M L = none ∧ s'.H L = some (.lst vs') ∧ Reps K s'.G vs' acc ∧ acc.length ≤ j ∧ I j acc s'.M,
    ⟨ds.length, rfl, Nat.zero_le _, inv0⟩, ?_⟩
  rintro j m H' ⟨rfl, hj, acc, vs', s', rfl, ok', st', gL, mL, hL', rs, hal, ij⟩
  obtain ⟨us, hq, ru⟩ := at_ s' ok' (keep j acc s'.M ij)
  have hul := ru.length
  by_cases hlt : j < ds.length
  · refine .inr ⟨⟨us, us[j]'(by omega), hq, by simp [hul ▸ hlt]⟩, fun H2 => ∃ (acc : List D) (vs' : List V) (s' : Sta), s'.H = H2 ∧ Ok K s' ∧ Step s1 s' ∧ s'.G L = none ∧ s'.M L = none ∧ s'.H L = some (.lst vs') ∧ Reps K s'.G vs' acc ∧ acc.length ≤ j + 1 ∧ I (j + 1) acc s'.M,
      fun H2 z => ⟨ds.length - (j + 1), by omega, rfl, hlt, z⟩, fun v H2 y => ?_⟩
    obtain ⟨d, hd⟩ : ∃ d, ds[j]? = some d := ⟨ds[j], by simp [hlt]⟩
    obtain ⟨eH, y⟩ := y
    subst eH
    obtain ⟨v', hv', rv⟩ := ru.get hd
    have y := y us hq
    rw [hv'] at y
    cases y
    have eru : ER K s' (wipe σ vs) (wipeD ρ vs) := (er.step (st1.trans st') ok').wipe vs
    refine gp.run _ d _ _ s' _ _ eru rv (turn j d acc s'.M hd ij) fun ρ3 σ3 q3 er3 w3 => ⟨w3.trans (wipe_wipe σ vs), ?_⟩
    refine ⟨ρ3, s', _, _, rfl, er3, q3, fun b s4 q4 st4 ok4 => ?_, PostX.never⟩
    obtain ⟨hL4, gL4, mL4⟩ := st4.hid L _ hL' gL mL
    cases b with
    | true =>
      rw [if_pos rfl] at q4 ⊢
      refine ⟨ρ3, s4, _, _, rfl, er3.step st4 ok4, q4, fun yd s5 q5 st5 ok5 yv ry => ?_, PostX.never⟩
      obtain ⟨hL5, gL5, mL5⟩ := st5.hid L _ hL4 gL4 mL4
      have rs5 : Reps K s5.G vs' acc := rs.same (st4.trans st5).same
      refine ⟨vs', hL5, by rw [rs5.length]; omega, ?_⟩
      obtain ⟨k6, st6⟩ := ok5.hide (o := .lst (vs' ++ [yv])) ((st'.trans st4).trans st5) hL gL5 mL5
      exact ⟨acc ++ [yd], vs' ++ [yv], ⟨_, _, _⟩, rfl, k6, st6, gL5, mL5, upd_same, rs5.append (.cons ry .nil), by simp; omega, q5⟩
    | false =>
      rw [if_neg Bool.false_ne_true] at q4 ⊢
      exact ⟨acc, vs', s4, rfl, ok4, st'.trans st4, gL4, mL4, hL4, rs.same st4.same, by omega, q4⟩
  · have ej : j = ds.length := by omega
    subst ej
    refine .inl ⟨⟨us, hq, by omega⟩, ?_⟩
    obtain ⟨k6, st6, sm⟩ := ok'.shown st' hL gL mL hL'
    exact p _ ⟨s'.H, upd s'.G L (.lst vs'), s'.M⟩ (fin acc s'.M ij) (st1.trans st6) k6 _ (.lst upd_same (rs.same sm))
section
variable {X : Cx} {CX : CXT} {E : XK} {k n nn i : Nat} {f C pp : Addr} {mc : Value} {fd : FuncData} {ps ks N : List Str} {φ : Ct} {x m pv : Str} {p pos apos : Pos} {e o : Expr} {es : List Expr} {kws : List Keyword} {αa ακ : DA} {τ : DE} {gD : List D → List D → List D}
theorem d_lcC {tg elt : Expr} {ifs : List Expr} {scope : Scope} {own : List (Str × Nat)} {g : TG} {γ : DG} {θ : DT} {ε : DE} (hc : X.calm = true) (hN : X.N.Nodup) (hi : DP X E e τ) (ok : BlkOk X.N X.env.scope scope own) (gp : GPair X.K g γ (own.map (·.2)))
    (hg : ∀ (s : Shared) (H : Hp) (C : Addr) (cl : List (Str × Addr)) (fp : List Addr), PG (X.blk s H scope (compEnvC scope cl C X.env) fp) tg g) (ht : ∀ (s : Shared) (H : Hp) (C : Addr) (cl : List (Str × Addr)) (fp : List Addr), DPTs (X.blk s H scope (compEnvC scope cl C X.env) fp) E0 ifs θ)
    (he : ∀ (s : Shared) (H : Hp) (C : Addr) (cl : List (Str × Addr)) (fp : List Addr), DP (X.blk s H scope (compEnvC scope cl C X.env) fp) E0 elt ε) (hs : ∀ x, foldedSetIterable e X.env x = pure x := by intro _; rfl) :
    DP X E (.ListComp elt [⟨tg, e, ifs, 0⟩] scope pos) (dLcC τ γ θ ε (own.map (·.2))) := pe_mono (pe_lc (tt := upT X.K E0 θ) (te := up X.K E0 ε) hc hN (pi_list hi) ok hg ht he hs) fun _ _ _ h => up_lcC gp h
/-! ### static methods -/
structure CSta (K : PySem.W.Frag) (C : Addr) (mc : Value) (m : Str) (p f : Addr) : Prop where
  at_ : PySem.W.findCls K (.ref C) mc m = some (.get (.builtin "staticmethod.__get__") (.ref p) .none (.ref C))
  rc : ∃ rest, PySem.W.recIn K p "staticmethod" = some (.ref f :: rest)
  kp : PySem.W.keepIn K (.ref f) = true
theorem d_smeth {pl : Sem Bool} {p1 : Pos} (r : ClX.CRead X.K C mc) (c : ∃ pp, CSta X.K C mc m pp f) (F : FnOk X.prog X.w X.K X.mg X.base CX k f fd ps (spD X.K nn φ)) (hr : Room k X.A) (hg : Gl X x) (hm : X.mg x = some (.ref C)) (hb : KBd X.K fd ps n ks gD) (hgl : ∀ us ws : List D, us.length = n → ws.length = ks.length → (gD us ws).length = nn) (hx : Passes CX X E)
    (ha : DPA X E (e :: es) αa) (hkw : DPK X E kws ακ) (hall : (backToKw pos (keywordEach kws X.env)).all (·.1.isSome) = true := by rfl) (hks : (backToKw pos (keywordEach kws X.env)).filterMap (·.1) = ks := by rfl)
    (hdb : (x == ("__debug__" : Str)) = false := by decide) (he : starEach (e :: es) X.env = (false, eval e X.env) :: starEach es X.env := by rfl)
    (hpl : ((backTo pos (starEach (e :: es) X.env)).any (·.1) || (backToKw pos (keywordEach kws X.env)).any (·.1.isNone)) = false := by rfl)
    (ht : eval (.Call (.Attribute (.Name x p1) m apos) (e :: es) kws pos) X.env = (do
      let ov ← eval (.Name x p1) X.env
      standAt apos.atName
      let (f, first) ← holding [ov] (getMethod ov m pl)
      callWith pos f first (backTo pos (starEach (e :: es) X.env)) (backToKw pos (keywordEach kws X.env))) := by rfl) :
    DP X E (.Call (.Attribute (.Name x p1) m apos) (e :: es) kws pos) (dCallK n ks.length φ gD αa ακ) := by
  refine ⟨fun pins s σ H Q I h => ?_⟩
  obtain ⟨ρ, s0, kk, xx, rfl, er, q, ppp, px⟩ := h
  obtain ⟨pp, c⟩ := c
  refine PySem.W.methodCall_KW (pl := pl) (ld_glob I hg hm ?_ hdb) ht
  obtain ⟨rest, hp⟩ := c.rc
  refine PySem.W.method_cls I.kIn r.ga ?_
  refine PySem.W.cls_bind I.kIn r.rd c.at_ ?_
  refine wpAny_call (PySem.W.sm_get (s := { s with toks := s.toks + 1 }) I.kIn hp (PySem.W.handed_on rfl ?_))
  have I0 : Inv X pins σ s0.H { s with toks := s.toks + 1 } := I.tok _
  refine PySem.W.callWith_KW (first := []) (h₀ := X.base) I.ok.mod.kin c.kp hall (thn (ha.run pos pins _ σ s0.H (fun vs H1 => ∃ s1 ds, s1.H = H1 ∧ Ok X.K s1 ∧ Step s0 s1 ∧ Reps X.K s1.G vs ds ∧ ακ ρ s1.M (fun zs M2 => ds.length = n ∧ zs.length = ks.length ∧ φ (gD ds zs) M2 kk xx) xx) I0 ⟨ρ, s0, _, xx, rfl, er, q, fun ds s1 q1 st1 ok1 vs r1 => ⟨s1, ds, rfl, ok1, st1, r1, q1⟩, px⟩) fun us s1 ⟨vs, H1, I1, r, s2, ds, e2, ok2, st2, r2, q2⟩ => ?_) hpl he
  subst e2
  refine thn (hkw.run pos pins s1 σ s2.H (fun zs H2 => ∃ s3 zd, s3.H = H2 ∧ Ok X.K s3 ∧ Step s2 s3 ∧ Reps X.K s3.G zs zd ∧ ds.length = n ∧ zd.length = ks.length ∧ φ (gD ds zd) s3.M kk xx) I1 ⟨ρ, s2, _, xx, rfl, er.step st2 ok2, q2, fun zd s3 q3 st3 ok3 zs r3 => ⟨s3, zd, rfl, ok3, st3, r3, q3⟩, px.step st2⟩) fun ws s3 ⟨zs, H2, I2, rz, s4, zd, e4, ok4, st4, r4, l4, l5, q4⟩ => ⟨I2.kIn, ?_⟩
  subst e4
  rw [hks]
  exact run_D F hr hb hx I2 r rz ⟨s4, ds, zd, kk, xx, rfl, ok4, r2.same st4.same, r4, l4, l5, hgl _ _ l4 l5, q4, ppp.step (st2.trans st4), px.step (st2.trans st4)⟩
/-! ### defs with a star parameter, as classmethods -/
def spS (K : PySem.W.Frag) (n : Nat) (φ : Ct) : Sp := fun vs H Q E => ∃ s ds k x, s.H = H ∧ Ok K s ∧ Reps K s.G vs ds ∧ n ≤ ds.length ∧ ds.length ≤ sizeLine ∧ φ (ds.take n ++ [.tup (ds.drop n)]) s.M k x ∧ Post K s k Q ∧ PostX K E s x
theorem fn_DS {P : Program} {w : World} {K : PySem.W.Frag} {mg : Str → Option Value} {base : Heap} {y qual : Str} {params : Arguments} {body : List Stmt} {scope : Scope} (F : FunD K y qual params body scope [] [] f fd) (S : FnScope N (ps ++ [pv]) scope) (hn : n = ps.length)
    (hb : ∀ (kV doc pm : Value) (an : Option Addr) (cdv ct : Value) (us rest : List Value), us.length = ps.length → bindArgs (PySem.W.fnOf y qual params body scope .none kV doc pm an cdv ct) ⟨us ++ rest, []⟩ = (newTuple rest >>= fun t => pure (ps.zip us ++ [(pv, t)])))
    (h : ∀ (cdv : Value) (A : Around) (outer : List Env) (s : Shared) (H : Hp) (E : XK), Room k (A.deeper (envOfC qual scope s.heap.objs.size f cdv)) →
      Passes (L2.CX P w) (cxOf (L2.CX P w) P w K mg base N qual scope f cdv A outer s H E) E → PassesOwn (model P w) (cxOf (L2.CX P w) P w K mg base N qual scope f cdv A outer s H E).A (cxOf (L2.CX P w) P w K mg base N qual scope f cdv A outer s H E).env (cxOf (L2.CX P w) P w K mg base N qual scope f cdv A outer s H E).xe →
      ∃ τ, DPB (cxOf (L2.CX P w) P w K mg base N qual scope f cdv A outer s H E) E body τ ∧
        ∀ (ds : List D) (M : Mm) (kk : DK) (x : DX), ds.length = n + 1 → φ ds M kk x → τ { nx := fun _ M => kk .non M, rt := kk, m0 := M } x (startD N ds) M) : FnR P w K mg base (L2.CX P w) (k + 1) f (spS K n φ) := by
  obtain ⟨oc, od, dV, kV, doc, pm, an, cdv, ct, osl, rfl, lk, hcd, hD, hK⟩ := F.ex
  rcases hD with ⟨_, rfl⟩ | ⟨e, _⟩
  case inr => exact absurd rfl e
  have G := StX.fn_star (P := P) (w := w) (mg := mg) (base := base) (CX := L2.CX P w) (k := k) (sp := spD K (n + 1) φ) (ps := ps) (pv := pv) lk hcd S StX.cxUp (hb kV doc pm an cdv ct) fun A outer s H vs Q E hr q => by
    obtain ⟨τ, ht, hq⟩ := h cdv A outer s H E hr (pass_own rfl rfl rfl rfl) (passes_of rfl)
    refine ⟨_, ht, ?_⟩
    obtain ⟨s0, ds, kk, xx, rfl, o, r, hl, f, p, px⟩ := q
    exact ⟨_, s0, _, xx, rfl, er_start o r, hq ds s0.M kk xx hl f, ⟨fun ρ t q st σ er => p _ t q st er.ok _ .non, ⟨s0, Step.refl s0, o, rfl, p⟩, fun _ _ z => z.elim, fun _ _ z => z.elim⟩, px⟩
  intro A outer s H us vs Q E hr e0 r q
  refine G A outer s H us vs Q E hr e0 r ?_
  obtain ⟨s0, ds, kk, xx, rfl, o, r, hl, hz, f, p, px⟩ := q
  have hlen := r.length
  refine ⟨vs.take n, vs.drop n, (List.take_append_drop n vs).symm, by rw [List.length_take, hlen, ← hn]; omega, by rw [List.length_drop, hlen]; omega, fun q hq => ?_⟩
  obtain ⟨k2, st2⟩ := o.new (o := .tup (vs.drop n)) hq
  refine ⟨⟨_, _, _⟩, _, kk, xx, rfl, k2, ?_, ?_, f, p.step st2, px.step st2⟩
  · exact ((r.take n).same st2.same).append (.cons (.tup (SqT.of upd_same) ((r.drop n).same st2.same)) .nil)
  · rw [List.length_append, List.length_take]
    show min n ds.length + 1 = n + 1
    omega
def dCMeth (C : Addr) (φ : Ct) (α : DA) : DE := fun ρ M k x => α ρ M (fun ds M1 => ds.length < sizeLine ∧ φ [.cel C, .tup ds] M1 k x) x
theorem d_cmeth {pl : Sem Bool} {p1 : Pos} (r : ClX.CRead X.K C mc) (c : ∃ pp, ClX.CMet X.K C mc m pp f) (F : FnR X.prog X.w X.K X.mg X.base CX k f (spS X.K 1 φ)) (hr : Room k X.A) (hg : Gl X x) (hm : X.mg x = some (.ref C)) (hx : Passes CX X E) (ha : DPA X E (e :: es) αa)
    (hd : (x == ("__debug__" : Str)) = false := by decide)
    (hst : starEach (e :: es) X.env = (false, eval e X.env) :: starEach es X.env := by rfl) (hpl : (backTo pos (starEach es X.env)).any (·.1) = false := by rfl)
    (ht : eval (.Call (.Attribute (.Name x p1) m apos) (e :: es) [] pos) X.env = (do
      let ov ← eval (.Name x p1) X.env
      standAt apos.atName
      let (f, first) ← holding [ov] (getMethod ov m pl)
      callWith pos f first (backTo pos (starEach (e :: es) X.env)) (backToKw pos (keywordEach [] X.env))) := by rfl) :
    DP X E (.Call (.Attribute (.Name x p1) m apos) (e :: es) [] pos) (dCMeth C φ αa) := by
  obtain ⟨pp, c⟩ := c
  refine pe_mono (ClX.pe_cmeth (pe_glob (v := .ref C) hg hm rfl hd) r c F hr hx ha hst hpl ht) fun σ H Q h => ?_
  obtain ⟨ρ, s, k, xx, rfl, er, q, p, px⟩ := h
  refine ⟨rfl, ρ, s, _, xx, rfl, er, q, fun ds s1 q1 st1 ok1 vs r1 => ?_, px⟩
  exact ⟨s1, .cel C :: ds, k, xx, rfl, ok1, .cons .cel r1, by simp, q1.1, q1.2, p.step st1, px.step st1⟩
/-! ### a class in a local name, called -/
def dMakeV (i : Nat) (C : Addr) (n m : Nat) (φ : Ct) (gD : List D → List D → List D) (α κ : DA) : DE := fun ρ M k x => ρ[i]? = some (some (.cel C)) ∧ dMake C n m φ gD α κ ρ M k x
theorem d_makeV (Mk : Mk X.K C f) (F : FnOk X.prog X.w X.K X.mg X.base CX k f fd ps (spD X.K nn φ)) (hr : Room (k + 1) X.A) (hN : X.N[i]? = some x) (hv : Vis X.env.scope x) (hb : KBd X.K fd ps (n + 1) ks gD) (hgl : ∀ us ws : List D, us.length = n + 1 → ws.length = ks.length → (gD us ws).length = nn) (hx : Passes CX X E)
    (ha : DPA X E (e :: es) αa) (hkw : DPK X E kws ακ) (hall : (backToKw pos (keywordEach kws X.env)).all (·.1.isSome) = true := by rfl) (hks : (backToKw pos (keywordEach kws X.env)).filterMap (·.1) = ks := by rfl)
    (hdb : (x == ("__debug__" : Str)) = false := by decide) (hcd : (x == ("__classdict__" : Str)) = false := by decide) (he : starEach (e :: es) X.env = (false, eval e X.env) :: starEach es X.env := by rfl)
    (hpl : ((backTo pos (starEach (e :: es) X.env)).any (·.1) || (backToKw pos (keywordEach kws X.env)).any (·.1.isNone)) = false := by rfl) :
    DP X E (.Call (.Name x p) (e :: es) kws pos) (dMakeV i C n ks.length φ gD αa ακ) := by
  obtain ⟨g, gV, hb, hrep⟩ := hb.ex
  refine ⟨fun pins s σ H Q I h => ?_⟩
  obtain ⟨ρ, s0, kk, xx, rfl, er, ⟨hv0, q⟩, pp, px⟩ := h
  obtain ⟨v, hv1, rv⟩ := er.at_ _ _ hv0
  cases rv.cel_of
  refine wpAny_Call_Name_kw (thn ((pe_var (pos := p) hN hv hdb hcd).run pins s σ s0.H (fun v H1 => v = .ref C ∧ H1 = s0.H) I ⟨.ref C, hv1, rfl, rfl⟩) fun u s1 ⟨v, H1, I1, r1, q1⟩ => ?_)
  obtain ⟨rfl, rfl⟩ := q1
  obtain rfl : u = Value.ref C := r1
  refine PySem.W.callWith_KW (h₀ := X.base) I.ok.mod.kin Mk.kp hall (thn (ha.run pos pins s1 σ s0.H (fun vs H1 => ∃ sa ds, sa.H = H1 ∧ Ok X.K sa ∧ Step s0 sa ∧ Reps X.K sa.G vs ds ∧ ακ ρ sa.M (fun zs M2 => ds.length = n ∧ zs.length = ks.length ∧ mkC C φ gD ds zs M2 kk xx) xx) I1 ⟨ρ, s0, _, xx, rfl, er, q, fun ds s1 q1 st1 ok1 vs r1 => ⟨s1, ds, rfl, ok1, st1, r1, q1⟩, px⟩) fun us s2 ⟨vs, H2, I2, r, sa, ds, ea, oka, sta, ra, qa⟩ => ?_) hpl he
  subst ea
  refine thn (hkw.run pos pins s2 σ sa.H (fun zs H2 => ∃ sb zd, sb.H = H2 ∧ Ok X.K sb ∧ Step sa sb ∧ Reps X.K sb.G zs zd ∧ ds.length = n ∧ zd.length = ks.length ∧ mkC C φ gD ds zd sb.M kk xx) I2 ⟨ρ, sa, _, xx, rfl, er.step sta oka, qa, fun zd s3 q3 st3 ok3 zs r3 => ⟨s3, zd, rfl, ok3, st3, r3, q3⟩, px.step sta⟩) fun ws s3 ⟨zs, H3, I3, rz, sb, zd, eb, okb, stb, rb, l1, l2, qb⟩ => ⟨I3.kIn, ?_⟩
  subst eb
  rw [hks]
  have st := sta.trans stb
  exact run_makeN Mk F hr hb hx I3 r rz (ra.length.trans l1) (rb.length.trans l2) (mk_sp hrep hgl okb (ra.same stb.same) rb l1 l2 qb (pp.step st) (px.step st))
end
end DL
set_option Elab.async false
set_option linter.all false
set_option maxRecDepth 100000
set_option maxHeartbeats 2000000
namespace DL
open PySem PySem.Spec PyProof.Rows L2
section
variable {X : Cx} {E : XK}
/-- a list, changing or not -/
def lstOf : D → Mm → Option (List D)
  | .lst ds, _ => some ds
  | .cel a, M => match M a with
    | some (.lst ds) => some ds
    | _ => none
  | _, _ => none
theorem lst_at {K : PySem.W.Frag} {s : Sta} {v : V} {d : D} {ds : List D} (ok : Ok K s) (r : Rep K s.G v d) (h : lstOf d s.M = some ds) : ∃ a vs, v = .ref a ∧ s.H a = some (.lst vs) ∧ Reps K s.G vs ds := by
  cases r with
  | lst h1 r1 => cases h; exact ⟨_, _, rfl, ok.sub _ _ h1, r1⟩
  | @cel a =>
    simp only [lstOf] at h
    split at h
    · rename_i ds' hm
      cases h
      obtain ⟨vs, e, r⟩ := ok.cells _ _ hm
      exact ⟨a, vs, rfl, e, r⟩
    · cases h
  | _ => cases h
theorem lstOf_cel {M : Mm} {p : Addr} {ds : List D} (h : M p = some (.lst ds)) : lstOf (.cel p) M = some ds := by
  simp only [lstOf, h]
/-- xs == [], xs != [] -/
def dEqE (neg : Bool) : D2 := fun x y M k _ => y = .lst [] ∧ ∃ ds, lstOf x M = some ds ∧ k (.bl (if neg then !ds.isEmpty else ds.isEmpty)) M
theorem o_neE (hu : X.A.units + 64 < cLine) : OpR X (compareOp .NotEq) (r2 X.K E (dEqE true)) := by
  intro pins s σ H x y u v Q I rx ry h
  obtain ⟨s0, dx, dy, kk, xx, rfl, ok, hdx, hdy, ⟨rfl, ds, hm, q⟩, p, px⟩ := h
  obtain ⟨b, vs, rfl, hb, rs⟩ := hdy.lst_of
  cases rs
  obtain ⟨a, ws, rfl, ha, rw'⟩ := lst_at ok hdx hm
  obtain rfl : u = Value.ref a := rx
  obtain rfl : v = Value.ref b := ry
  obtain ⟨its, rv, pl, hz⟩ := I.list (SqL.of ha)
  obtain ⟨jts, rj, pl', hz'⟩ := I.list (SqL.of (ok.sub _ _ hb))
  cases rj
  have hl := rv.length
  have hl' := rw'.length
  show wpAny _ _ (richCompare .NotEq _ _) _ _ _
  cases ds with
  | nil =>
    have e : its = [] := List.eq_nil_of_length_eq_zero (by rw [← hl, hl']; rfl)
    subst e
    exact SeqAt.RcNeAt.lists (e := fun _ => true) pl.isList pl'.isList rfl (by omega) (fun j h1 => absurd h1 (by simp)) _ _ _ _ ⟨.bl false, s0.H, I, rfl, p.now q ok .bl⟩
  | cons d ds =>
    refine SeqAt.RcNeAt.lists_lengths pl.isList pl'.isList ?_ (by omega) _ _ _ _ ⟨.bl true, s0.H, I, rfl, p.now q ok .bl⟩
    have : its.length = ds.length + 1 := by rw [← hl, hl']; rfl
    simp [this]
theorem o_eqE (hu : X.A.units + 64 < cLine) : OpR X (compareOp .Eq) (r2 X.K E (dEqE false)) := by
  intro pins s σ H x y u v Q I rx ry h
  obtain ⟨s0, dx, dy, kk, xx, rfl, ok, hdx, hdy, ⟨rfl, ds, hm, q⟩, p, px⟩ := h
  obtain ⟨b, vs, rfl, hb, rs⟩ := hdy.lst_of
  cases rs
  obtain ⟨a, ws, rfl, ha, rw'⟩ := lst_at ok hdx hm
  obtain rfl : u = Value.ref a := rx
  obtain rfl : v = Value.ref b := ry
  obtain ⟨its, rv, pl, hz⟩ := I.list (SqL.of ha)
  obtain ⟨jts, rj, pl', hz'⟩ := I.list (SqL.of (ok.sub _ _ hb))
  cases rj
  have hl := rv.length
  have hl' := rw'.length
  show wpAny _ _ (richCompare .Eq _ _) _ _ _
  cases ds with
  | nil =>
    have e : its = [] := List.eq_nil_of_length_eq_zero (by rw [← hl, hl']; rfl)
    subst e
    exact SeqAt.RcAt.lists (e := fun _ => true) pl.isList pl'.isList rfl (by omega) (fun j h1 => absurd h1 (by simp)) _ _ _ _ ⟨.bl true, s0.H, I, rfl, p.now q ok .bl⟩
  | cons d ds =>
    refine SeqAt.RcAt.lists_lengths pl.isList pl'.isList ?_ (by omega) _ _ _ _ ⟨.bl false, s0.H, I, rfl, p.now q ok .bl⟩
    have : its.length = ds.length + 1 := by rw [← hl, hl']; rfl
    simp [this]
end
end DL
set_option Elab.async false
set_option linter.all false
namespace RT
/-- lowest terms, a positive bottom -/
def nrm (a b : Int) : Int × Int := if b < 0 then (a.fdiv (0 - (Int.gcd a b : Int)), b.fdiv (0 - (Int.gcd a b : Int))) else (a.fdiv (Int.gcd a b), b.fdiv (Int.gcd a b))
structure Nf (a b : Int) : Prop where
  pos : 0 < b
  one : Int.gcd a b = 1
theorem gcd_pos {a b : Int} (h : b ≠ 0) : 0 < Int.gcd a b := Int.gcd_pos_of_ne_zero_right a h
/-- the parts of a fraction -/
theorem parts {a b : Int} (h : b ≠ 0) : ∃ a' b' : Int, a = (Int.gcd a b : Int) * a' ∧ b = (Int.gcd a b : Int) * b' ∧ Int.gcd a' b' = 1 := by
  obtain ⟨a', ha⟩ := Int.gcd_dvd_left (a := a) (b := b)
  obtain ⟨b', hb⟩ := Int.gcd_dvd_right (a := a) (b := b)
  refine ⟨a', b', ha, hb, ?_⟩
  have e : Int.gcd ((Int.gcd a b : Int) * a') ((Int.gcd a b : Int) * b') = (Int.gcd a b : Int).natAbs * Int.gcd a' b' := Int.gcd_mul_left _ _ _
  rw [← ha, ← hb, Int.natAbs_natCast] at e
  have g0 := gcd_pos (a := a) h
  exact Nat.eq_of_mul_eq_mul_left g0 (by rw [← e, Nat.mul_one])
theorem nrm_spec {a b : Int} (h : b ≠ 0) : Nf (nrm a b).1 (nrm a b).2 ∧ (nrm a b).1 * b = a * (nrm a b).2 := by
  obtain ⟨a', b', ha, hb, h1⟩ := parts (a := a) h
  have g0 : (0 : Int) < (Int.gcd a b : Int) := Int.natCast_pos.mpr (gcd_pos h)
  generalize hg : (Int.gcd a b : Int) = g at ha hb g0
  have b0 : b' ≠ 0 := fun z => by rw [z, Int.mul_zero] at hb; exact h hb
  unfold nrm
  rw [hg]
  split
  · rename_i hlt
    have e1 : a.fdiv (0 - g) = -a' := by
      rw [ha, show g * a' = (0 - g) * (-a') by rw [Int.zero_sub, Int.neg_mul_neg]]
      exact Int.mul_fdiv_cancel_left _ (by omega)
    have e2 : b.fdiv (0 - g) = -b' := by
      rw [hb, show g * b' = (0 - g) * (-b') by rw [Int.zero_sub, Int.neg_mul_neg]]
      exact Int.mul_fdiv_cancel_left _ (by omega)
    rw [e1, e2]
    have bn : b' < 0 := by
      rcases Int.lt_or_lt_of_ne b0 with z | z
      · exact z
      · have := Int.mul_pos g0 z
        omega
    refine ⟨⟨by show 0 < -b'; omega, by show Int.gcd (-a') (-b') = 1; rw [Int.gcd_neg, Int.neg_gcd]; exact h1⟩, ?_⟩
    show -a' * b = a * -b'
    rw [ha, hb, Int.neg_mul, Int.mul_neg, Int.mul_left_comm, Int.mul_assoc]
  · rename_i hlt
    have e1 : a.fdiv g = a' := by rw [ha]; exact Int.mul_fdiv_cancel_left _ (by omega)
    have e2 : b.fdiv g = b' := by rw [hb]; exact Int.mul_fdiv_cancel_left _ (by omega)
    rw [e1, e2]
    have bp : 0 < b' := by
      rcases Int.lt_or_lt_of_ne b0 with z | z
      · have := Int.mul_neg_of_pos_of_neg g0 z
        omega
      · exact z
    refine ⟨⟨bp, h1⟩, ?_⟩
    show a' * b = a * b'
    rw [ha, hb, Int.mul_left_comm, Int.mul_assoc]
theorem nrm_nf {a b : Int} (h : b ≠ 0) : Nf (nrm a b).1 (nrm a b).2 := (nrm_spec h).1
theorem nrm_val {a b : Int} (h : b ≠ 0) : (nrm a b).1 * b = a * (nrm a b).2 := (nrm_spec h).2
theorem cop_dvd {a b d : Int} (h : b ∣ a * d) (g : Int.gcd a b = 1) : b ∣ d := by
  have h' : b.natAbs ∣ a.natAbs * d.natAbs := by rw [← Int.natAbs_mul]; exact Int.natAbs_dvd_natAbs.mpr h
  have c : Nat.Coprime b.natAbs a.natAbs := by
    show Nat.gcd _ _ = 1
    rw [Nat.gcd_comm]
    exact g
  exact Int.natAbs_dvd_natAbs.mp (c.dvd_of_dvd_mul_left h')
theorem nf_eq {a b c d : Int} (h1 : Nf a b) (h2 : Nf c d) (e : a * d = c * b) : a = c ∧ b = d := by
  have p1 := h1.pos
  have p2 := h2.pos
  have d1 : b ∣ d := cop_dvd (a := a) ⟨c, by rw [e, Int.mul_comm]⟩ h1.one
  have d2 : d ∣ b := cop_dvd (a := c) ⟨a, by rw [← e, Int.mul_comm]⟩ h2.one
  have eb : b = d := by
    have l1 := Int.le_of_dvd p2 d1
    have l2 := Int.le_of_dvd p1 d2
    omega
  subst eb
  refine ⟨?_, rfl⟩
  exact Int.eq_of_mul_eq_mul_right (by omega) e
theorem nrm_of_nf {a b : Int} (h : Nf a b) : nrm a b = (a, b) := by
  have p := h.pos
  obtain ⟨e1, e2⟩ := nf_eq (nrm_nf (a := a) (b := b) (by omega)) h (nrm_val (by omega))
  exact Prod.ext e1 e2
end RT
set_option Elab.async false
set_option linter.all false
namespace RT
/-- a cut: a ratio and 0 (ahead of it) or 1 (behind it) -/
structure Cut where
  a : Int
  b : Int
  k : Int
def Cut.lt (x y : Cut) : Prop := x.a * y.b < y.a * x.b ∨ (x.a * y.b = y.a * x.b ∧ x.k < y.k)
instance (x y : Cut) : Decidable (Cut.lt x y) := inferInstanceAs (Decidable (_ ∨ _ ∧ _))
structure Cut.Ok (x : Cut) : Prop where
  nf : Nf x.a x.b
  k01 : x.k = 0 ∨ x.k = 1
def geC (f : Cut) (p q : Int) : Prop := f.a * q < p * f.b ∨ (f.a * q = p * f.b ∧ f.k = 0)
def leC (c : Cut) (p q : Int) : Prop := p * c.b < c.a * q ∨ (p * c.b = c.a * q ∧ c.k = 1)
def inI (f : Cut) (l : Option Cut) (p q : Int) : Prop := geC f p q ∧ ∀ c, l = some c → leC c p q
theorem fd_spec {a b : Int} (h : 0 < b) : a.fdiv b * b ≤ a ∧ a < a.fdiv b * b + b := by
  rw [Int.fdiv_eq_ediv_of_nonneg _ (by omega)]
  have h1 := Int.ediv_mul_le a (show b ≠ 0 by omega)
  have h2 := Int.lt_ediv_add_one_mul_self a h
  constructor
  · exact h1
  · rw [Int.add_mul, Int.one_mul] at h2; exact h2
theorem lt_of_mul {x y b : Int} (h : x * b < y * b) (hb : 0 < b) : x < y := Int.lt_of_mul_lt_mul_right h (by omega)
theorem le_of_mul {x y b : Int} (h : x * b ≤ y * b) (hb : 0 < b) : x ≤ y := Int.le_of_mul_le_mul_right h hb
def least (f : Cut) : Int := if f.k = 0 then -((-f.a).fdiv f.b) else f.a.fdiv f.b + 1
theorem least_ge {f : Cut} (h : f.Ok) : geC f (least f) 1 := by
  have b0 := h.nf.pos
  unfold geC least
  split
  · rename_i e
    have := fd_spec (a := -f.a) b0
    by_cases z : f.a * 1 = -(-f.a).fdiv f.b * f.b
    · exact .inr ⟨z, e⟩
    · left
      have e2 : -(-f.a).fdiv f.b * f.b = -((-f.a).fdiv f.b * f.b) := Int.neg_mul _ _
      rw [e2] at z ⊢
      omega
  · have := fd_spec (a := f.a) b0
    left
    rw [Int.add_mul]
    omega
theorem least_le {f : Cut} (h : f.Ok) {m : Int} (hm : geC f m 1) : least f ≤ m := by
  have b0 := h.nf.pos
  unfold least
  unfold geC at hm
  split
  · rename_i e
    have := fd_spec (a := -f.a) b0
    have e2 : (-(-f.a).fdiv f.b - 1) * f.b = -((-f.a).fdiv f.b * f.b) - f.b := by rw [Int.sub_mul, Int.neg_mul, Int.one_mul]
    have : (-(-f.a).fdiv f.b - 1) * f.b < m * f.b := by rw [e2]; omega
    have := lt_of_mul this b0
    omega
  · rename_i e
    have := fd_spec (a := f.a) b0
    have : f.a.fdiv f.b * f.b < m * f.b := by omega
    have := lt_of_mul this b0
    omega
theorem least_low {f : Cut} (h : f.Ok) (f0 : 0 ≤ f.a) {p q : Int} (q0 : 0 < q) (hp : geC f p q) : least f ≤ p := by
  refine least_le h ?_
  have b0 := h.nf.pos
  have : f.a * 1 ≤ f.a * q := Int.mul_le_mul_of_nonneg_left (by omega) f0
  unfold geC at hp ⊢
  by_cases z : f.a * 1 < p * f.b
  · exact .inl z
  · right
    rcases hp with hp | ⟨hp, e⟩
    · omega
    · exact ⟨by omega, e⟩
/-- one turn of the search: no whole number lies in the interval -/
structure Turn (f c : Cut) (w : Int) (f' : Cut) (l' : Option Cut) : Prop where
  w_eq : w = f.a.fdiv f.b
  f_eq : f' = ⟨c.b, c.a - w * c.b, 1 - c.k⟩
  l_eq : l' = if f.a - w * f.b = 0 then none else some ⟨f.b, f.a - w * f.b, 1 - f.k⟩
structure IOk (f : Cut) (l : Option Cut) : Prop where
  cf : f.Ok
  f0 : 0 ≤ f.a
  cl : ∀ c, l = some c → c.Ok ∧ Cut.lt f c
theorem gcd_sub {a b w : Int} : Int.gcd (a - w * b) b = Int.gcd a b := by
  have e : a - w * b = a + b * (-w) := by rw [Int.mul_neg, Int.mul_comm]; rfl
  rw [e]
  exact Int.gcd_add_mul_left_left _ _ _
/-- what a turn's numbers are -/
theorem turn_num {f c : Cut} (h : IOk f (some c)) (hn : ¬ Cut.lt ⟨least f, 1, 0⟩ c) : 0 ≤ f.a.fdiv f.b ∧ f.a.fdiv f.b * c.b < c.a ∧ 0 ≤ f.a - f.a.fdiv f.b * f.b ∧ f.a - f.a.fdiv f.b * f.b < f.b ∧ c.a ≤ f.a.fdiv f.b * c.b + c.b ∧ (f.a = f.a.fdiv f.b * f.b → f.k = 1) := by
  obtain ⟨hc, hl⟩ := h.cl c rfl
  have b0 := h.cf.nf.pos
  have d0 := hc.nf.pos
  have fs := fd_spec (a := f.a) b0
  have f0 := h.f0
  have k1 := h.cf.k01
  have k2 := hc.k01
  generalize hw : f.a.fdiv f.b = w at *
  have w0 : 0 ≤ w := by
    have : 0 * f.b < (w + 1) * f.b := by rw [Int.zero_mul, Int.add_mul, Int.one_mul]; omega
    have := lt_of_mul this b0
    omega
  unfold Cut.lt at hn hl
  simp only at hn
  -- where the low end is whole and within, the least whole number is there
  have key : f.a = w * f.b → f.k = 1 := by
    intro e
    rcases k1 with z | z
    · exfalso
      apply hn
      have en : least f = w := by
        unfold least
        rw [if_pos z]
        have g2 := fd_spec (a := -f.a) b0
        have : (-f.a).fdiv f.b = -w := by
          rw [e, show -(w * f.b) = (-w) * f.b by rw [Int.neg_mul]]
          exact Int.mul_fdiv_cancel _ (by omega)
        omega
      rw [en]
      rcases hl with hl | ⟨hl, hk⟩
      · left
        have : (w * c.b) * f.b < (c.a * 1) * f.b := by rw [e] at hl; grind
        exact lt_of_mul this b0
      · right
        refine ⟨?_, by omega⟩
        have : (w * c.b) * f.b = (c.a * 1) * f.b := by rw [e] at hl; grind
        exact Int.eq_of_mul_eq_mul_right (by omega) this
    · exact z
  have en : least f = w + 1 := by
    have l1 := least_ge h.cf
    have l2 := least_le h.cf (m := w + 1) (by unfold geC; left; rw [Int.add_mul]; omega)
    unfold geC at l1
    by_cases z : least f = w + 1
    · exact z
    · exfalso
      have : least f ≤ w := by omega
      have : least f * f.b ≤ w * f.b := Int.mul_le_mul_of_nonneg_right this (by omega)
      have e : f.a = w * f.b := by omega
      have := key e
      omega
  rw [en] at hn
  refine ⟨w0, ?_, by omega, by omega, ?_, key⟩
  · rcases hl with hl | ⟨hl, hk⟩
    · have : (w * c.b) * f.b < c.a * f.b := by
        have : (w * f.b) * c.b ≤ f.a * c.b := Int.mul_le_mul_of_nonneg_right fs.1 (by omega)
        grind
      exact lt_of_mul this b0
    · have ne : f.a ≠ w * f.b := fun e => by have := key e; omega
      have : (w * c.b) * f.b < c.a * f.b := by
        have : (w * f.b) * c.b < f.a * c.b := Int.mul_lt_mul_of_pos_right (by omega) d0
        grind
      exact lt_of_mul this b0
  · have : ¬ ((w + 1) * c.b < c.a * 1) := fun z => hn (.inl z)
    rw [Int.add_mul] at this
    omega
theorem turn_ok {f c f' : Cut} {l' : Option Cut} {w : Int} (h : IOk f (some c)) (hn : ¬ Cut.lt ⟨least f, 1, 0⟩ c) (t : Turn f c w f' l') : IOk f' l' := by
  obtain ⟨w0, h1, h2, h3, h4, h5⟩ := turn_num h hn
  obtain ⟨hc, hl⟩ := h.cl c rfl
  have k1 := h.cf.k01
  have k2 := hc.k01
  obtain ⟨rfl, rfl, rfl⟩ := t
  generalize hw : f.a.fdiv f.b = w at *
  refine ⟨⟨⟨by show 0 < c.a - w * c.b; omega, ?_⟩, by show 1 - c.k = 0 ∨ 1 - c.k = 1; omega⟩, Int.le_of_lt hc.nf.pos, ?_⟩
  · show Int.gcd c.b (c.a - w * c.b) = 1
    rw [Int.gcd_comm, gcd_sub]
    exact hc.nf.one
  · intro c' e
    split at e
    · cases e
    · rename_i z
      cases e
      refine ⟨⟨⟨by show 0 < f.a - w * f.b; omega, ?_⟩, by show 1 - f.k = 0 ∨ 1 - f.k = 1; omega⟩, ?_⟩
      · show Int.gcd f.b (f.a - w * f.b) = 1
        rw [Int.gcd_comm, gcd_sub]
        exact h.cf.nf.one
      · unfold Cut.lt at hl ⊢
        simp only
        rcases hl with hl | ⟨hl, hk⟩
        · left; grind
        · right; exact ⟨by grind, by omega⟩
/-- forth: what lies in the interval lies in the turn's -/
theorem turn_forth {f c f' : Cut} {l' : Option Cut} {w : Int} (h : IOk f (some c)) (hn : ¬ Cut.lt ⟨least f, 1, 0⟩ c) (t : Turn f c w f' l') {p q : Int} (q0 : 0 < q) (hi : inI f (some c) p q) : 0 < p - w * q ∧ inI f' l' q (p - w * q) := by
  obtain ⟨w0, h1, h2, h3, h4, h5⟩ := turn_num h hn
  obtain ⟨hc, hl⟩ := h.cl c rfl
  have b0 := h.cf.nf.pos
  obtain ⟨rfl, rfl, rfl⟩ := t
  generalize hw : f.a.fdiv f.b = w at *
  obtain ⟨g, g2⟩ := hi
  have g2 := g2 c rfl
  unfold geC at g
  unfold leC at g2
  refine ⟨?_, ?_, ?_⟩
  · have : (w * q) * f.b < p * f.b := by
      have z : (w * f.b) * q ≤ f.a * q := Int.mul_le_mul_of_nonneg_right (by omega) (by omega)
      rcases g with g | ⟨g, e⟩
      · grind
      · have ne : f.a ≠ w * f.b := fun x => by have := h5 x; omega
        have : (w * f.b) * q < f.a * q := Int.mul_lt_mul_of_pos_right (by omega) q0
        grind
    have := lt_of_mul this b0
    omega
  · unfold geC
    simp only
    rcases g2 with g2 | ⟨g2, e⟩
    · left; grind
    · right; exact ⟨by grind, by omega⟩
  · intro c' e
    split at e
    · cases e
    · cases e
      unfold leC
      simp only
      rcases g with g | ⟨g, e⟩
      · left; grind
      · right; exact ⟨by grind, by omega⟩
/-- back -/
theorem turn_back {f c f' : Cut} {l' : Option Cut} {w : Int} (h : IOk f (some c)) (hn : ¬ Cut.lt ⟨least f, 1, 0⟩ c) (t : Turn f c w f' l') {s u : Int} (s0 : 0 < s) (u0 : 0 < u) (hi : inI f' l' s u) : inI f (some c) (w * s + u) s := by
  obtain ⟨w0, h1, h2, h3, h4, h5⟩ := turn_num h hn
  have b0 := h.cf.nf.pos
  have k1 := h.cf.k01
  have k2 := (h.cl c rfl).1.k01
  obtain ⟨rfl, rfl, rfl⟩ := t
  generalize hw : f.a.fdiv f.b = w at *
  obtain ⟨g, g2⟩ := hi
  refine ⟨?_, ?_⟩
  · unfold geC
    by_cases z : f.a - w * f.b = 0
    · left
      have : 0 < u * f.b := Int.mul_pos u0 b0
      have e : f.a = w * f.b := by omega
      rw [e]
      grind
    · have g2 := g2 _ (if_neg z)
      unfold leC at g2
      simp only at g2
      rcases g2 with g2 | ⟨g2, e⟩
      · left; grind
      · right; exact ⟨by grind, by omega⟩
  · intro c' e
    cases e
    unfold geC at g
    unfold leC
    simp only at g
    rcases g with g | ⟨g, e⟩
    · left; grind
    · right; exact ⟨by grind, by omega⟩
/-- the simplest ratio -/
structure Best (f : Cut) (l : Option Cut) (p q : Int) : Prop where
  q0 : 0 < q
  p0 : 0 < p
  one : Int.gcd p q = 1
  ins : inI f l p q
  low : ∀ p' q', 0 < q' → 0 < p' → inI f l p' q' → p ≤ p' ∧ q ≤ q'
theorem best_base {f : Cut} {l : Option Cut} (h : IOk f l) (hf : 0 < least f) (hl : ∀ c, l = some c → Cut.lt ⟨least f, 1, 0⟩ c) : Best f l (least f) 1 := by
  refine ⟨by decide, hf, Int.gcd_one_right _, ⟨least_ge h.cf, fun c e => ?_⟩, fun p' q' q0 p0 hi => ⟨least_low h.cf h.f0 q0 hi.1, by omega⟩⟩
  have k := (h.cl c e).1.k01
  have := hl c e
  unfold Cut.lt at this
  unfold leC
  simp only at this
  rcases this with z | ⟨z, z2⟩
  · exact .inl z
  · exact .inr ⟨z, by omega⟩
theorem best_turn {f c f' : Cut} {l' : Option Cut} {w s u : Int} (h : IOk f (some c)) (hn : ¬ Cut.lt ⟨least f, 1, 0⟩ c) (t : Turn f c w f' l') (b : Best f' l' s u) : Best f (some c) (w * s + u) s := by
  have w0 : 0 ≤ w := by rw [t.w_eq]; exact (turn_num h hn).1
  have : 0 ≤ w * s := Int.mul_nonneg w0 (Int.le_of_lt b.p0)
  refine ⟨b.p0, by have := b.q0; omega, ?_, turn_back h hn t b.p0 b.q0 b.ins, fun p' q' q0 p0 hi => ?_⟩
  · rw [show w * s + u = u - (-w) * s by rw [Int.neg_mul]; omega, gcd_sub, Int.gcd_comm]
    exact b.one
  · obtain ⟨h1, h2⟩ := turn_forth h hn t q0 hi
    obtain ⟨l1, l2⟩ := b.low q' (p' - w * q') h1 q0 h2
    refine ⟨?_, l1⟩
    have : w * s ≤ w * q' := Int.mul_le_mul_of_nonneg_left l1 w0
    omega
end RT
set_option Elab.async false
set_option linter.all false
namespace RT
def Pos (f : Cut) : Prop := 0 < f.a ∨ f.k = 1
theorem least_pos {f : Cut} (h : f.Ok) (f0 : 0 ≤ f.a) (p : Pos f) : 0 < least f := by
  have b0 := h.nf.pos
  have g := least_ge h
  unfold geC at g
  have : 0 * f.b < least f * f.b := by
    rw [Int.zero_mul]
    rcases g with g | ⟨g, e⟩
    · omega
    · rcases p with p | p
      · omega
      · omega
  exact lt_of_mul this b0
def Sz (B : Int) (f : Cut) (l : Option Cut) : Prop := f.a ≤ B ∧ f.b ≤ B ∧ ∀ c, l = some c → c.a ≤ B ∧ c.b ≤ B
/-- the turns so far -/
inductive Chain (B : Int) (f0 : Cut) (l0 : Option Cut) : List Int → Cut → Option Cut → Prop
  | nil : Chain B f0 l0 [] f0 l0
  | snoc {ws : List Int} {f c f' : Cut} {l' : Option Cut} {w : Int} (h : Chain B f0 l0 ws f (some c)) (hi : IOk f (some c)) (hp : Pos f) (hn : ¬ Cut.lt ⟨least f, 1, 0⟩ c) (t : Turn f c w f' l') (z : Sz B f (some c)) : Chain B f0 l0 (ws ++ [w]) f' l'
theorem Chain.empty {B : Int} {f0 : Cut} {l0 : Option Cut} {ws : List Int} {f : Cut} {l : Option Cut} (h : Chain B f0 l0 ws f l) (e : ws = []) : f = f0 ∧ l = l0 := by
  cases h with
  | nil => exact ⟨rfl, rfl⟩
  | snoc => simp at e
theorem fdiv_le {a b : Int} (h : 0 < b) (h0 : 0 ≤ a) : a.fdiv b ≤ a := by
  have := fd_spec (a := a) h
  by_cases z : a.fdiv b ≤ 0
  · omega
  · have : a.fdiv b * 1 ≤ a.fdiv b * b := Int.mul_le_mul_of_nonneg_left (by omega) (by omega)
    omega
theorem Sz.turn {B : Int} {f c f' : Cut} {l' : Option Cut} {w : Int} (h : IOk f (some c)) (hn : ¬ Cut.lt ⟨least f, 1, 0⟩ c) (t : Turn f c w f' l') (z : Sz B f (some c)) : Sz B f' l' ∧ 0 ≤ w ∧ w ≤ B := by
  obtain ⟨w0, h1, h2, h3, h4, h5⟩ := turn_num h hn
  have d0 := (h.cl c rfl).1.nf.pos
  have b0 := h.cf.nf.pos
  obtain ⟨z1, z2, z3⟩ := z
  obtain ⟨z3, z4⟩ := z3 c rfl
  have wl := fdiv_le b0 h.f0
  obtain ⟨rfl, rfl, rfl⟩ := t
  generalize hw : f.a.fdiv f.b = w at *
  have : 0 ≤ w * c.b := Int.mul_nonneg w0 (by omega)
  refine ⟨⟨z4, by show c.a - w * c.b ≤ B; omega, fun c' e => ?_⟩, w0, by omega⟩
  split at e
  · cases e
  · cases e
    exact ⟨z2, by show f.a - w * f.b ≤ B; omega⟩
def LenOk (B : Int) (n : Nat) (f : Cut) (l : Option Cut) : Prop := ∀ c, l = some c → 2 ^ (n / 2) * c.b ≤ B ∧ (n = 0 → f.b ≤ B) ∧ (1 ≤ n → f.b ≤ f.a ∧ 2 ^ ((n - 1) / 2) * f.a ≤ B)
theorem LenOk.turn {B : Int} {n : Nat} {f c f' : Cut} {l' : Option Cut} {w : Int} (h : IOk f (some c)) (hn : ¬ Cut.lt ⟨least f, 1, 0⟩ c) (t : Turn f c w f' l') (z : LenOk B n f (some c)) : LenOk B (n + 1) f' l' := by
  obtain ⟨w0, h1, h2, h3, h4, h5⟩ := turn_num h hn
  have d0 := (h.cl c rfl).1.nf.pos
  have b0 := h.cf.nf.pos
  have fs := fd_spec (a := f.a) b0
  obtain ⟨z1, z2, z3⟩ := z c rfl
  obtain ⟨rfl, rfl, rfl⟩ := t
  generalize hw : f.a.fdiv f.b = w at *
  intro c' e
  split at e
  · cases e
  · cases e
    refine ⟨?_, by omega, fun _ => ⟨by show c.a - w * c.b ≤ c.b; omega, by show 2 ^ ((n + 1 - 1) / 2) * c.b ≤ B; rw [Nat.add_sub_cancel]; exact z1⟩⟩
    show 2 ^ ((n + 1) / 2) * (f.a - w * f.b) ≤ B
    by_cases n0 : n = 0
    · subst n0
      have := z2 rfl
      show 2 ^ 0 * (f.a - w * f.b) ≤ B
      rw [Int.pow_zero, Int.one_mul]
      omega
    · obtain ⟨z3, z4⟩ := z3 (by omega)
      have w1 : 1 ≤ w := by
        by_cases q : w = 0
        · rw [q, Int.zero_mul] at fs; omega
        · omega
      have : 1 * f.b ≤ w * f.b := Int.mul_le_mul_of_nonneg_right w1 (by omega)
      have r2 : 2 * (f.a - w * f.b) ≤ f.a := by omega
      have e : (n + 1) / 2 = (n - 1) / 2 + 1 := by omega
      rw [e, Int.pow_succ, Int.mul_assoc]
      exact Int.le_trans (Int.mul_le_mul_of_nonneg_left r2 (Int.le_of_lt (Int.pow_pos (by decide)))) z4
theorem LenOk.few {B : Int} {n m : Nat} {f c : Cut} (z : LenOk B n f (some c)) (c0 : 0 < c.b) (hB : B < 2 ^ m) : n < 2 * m + 1 := by
  obtain ⟨z1, _⟩ := z c rfl
  have : (2 : Int) ^ (n / 2) * 1 ≤ 2 ^ (n / 2) * c.b := Int.mul_le_mul_of_nonneg_left (by omega) (Int.le_of_lt (Int.pow_pos (by decide)))
  have h : (2 : Int) ^ (n / 2) < 2 ^ m := by omega
  have h' : 2 ^ (n / 2) < 2 ^ m := by exact_mod_cast h
  have := (Nat.pow_lt_pow_iff_right (by decide : 1 < 2)).mp h'
  omega
theorem best_sz {B : Int} {f : Cut} {l : Option Cut} {p q : Int} (h : IOk f l) (z : Sz B f l) (b : Best f l p q) : p ≤ 2 * B + 1 ∧ q ≤ 2 * B + 1 := by
  have b0 := h.cf.nf.pos
  have f0 := h.f0
  obtain ⟨z1, z2, z3⟩ := z
  have p0 := b.p0
  have q0 := b.q0
  cases l with
  | none =>
    obtain ⟨l1, l2⟩ := b.low (f.a + 1) 1 (by decide) (by omega) ⟨by
      left
      have : (f.a + 1) * 1 ≤ (f.a + 1) * f.b := Int.mul_le_mul_of_nonneg_left (by omega) (by omega)
      omega, fun c e => by cases e⟩
    omega
  | some c =>
    obtain ⟨hc, hl⟩ := h.cl c rfl
    have d0 := hc.nf.pos
    obtain ⟨z3, z4⟩ := z3 c rfl
    have k1 := h.cf.k01
    have k2 := hc.k01
    unfold Cut.lt at hl
    have c0 : 0 < c.a := by
      have := b.ins.2 c rfl
      unfold leC at this
      have : 0 < p * c.b := Int.mul_pos p0 d0
      have : 0 * q < c.a * q := by omega
      exact lt_of_mul this q0
    rcases hl with hl | ⟨hl, hk⟩
    · obtain ⟨l1, l2⟩ := b.low (f.a + c.a) (f.b + c.b) (by omega) (by omega) ⟨by left; grind, fun c' e => by cases e; left; grind⟩
      omega
    · have a0 : 0 < f.a := by
        have : 0 < c.a * f.b := Int.mul_pos c0 b0
        have : 0 * c.b < f.a * c.b := by omega
        exact lt_of_mul this d0
      obtain ⟨l1, l2⟩ := b.low f.a f.b b0 a0 ⟨by right; exact ⟨rfl, by omega⟩, fun c' e => by cases e; right; exact ⟨hl, by omega⟩⟩
      omega

theorem last_nonneg {f c : Cut} (h : IOk f (some c)) : 0 ≤ c.a := by
  obtain ⟨hc, hl⟩ := h.cl c rfl
  have b0 := h.cf.nf.pos
  have d0 := hc.nf.pos
  have : 0 ≤ f.a * c.b := Int.mul_nonneg h.f0 (by omega)
  unfold Cut.lt at hl
  have : 0 * f.b ≤ c.a * f.b := by omega
  exact le_of_mul this b0
theorem nf_one {n : Int} : Nf n 1 := ⟨by decide, Int.gcd_one_right _⟩
theorem nf_int {n w b : Int} (h : Nf n b) : Nf (n * 1 - w * b) (b * 1) := by
  rw [Int.mul_one, Int.mul_one]
  exact ⟨h.pos, by rw [gcd_sub]; exact h.one⟩
theorem nrm_int {n w b : Int} (h : Nf n b) : nrm (n * 1 - w * b) (b * 1) = (n - w * b, b) := by
  rw [nrm_of_nf (nf_int h), Int.mul_one, Int.mul_one]
end RT
set_option Elab.async false
set_option linter.all false
namespace RT
/-- the simplest ratio between two cuts, whatever its sign -/
structure Best2 (f c : Cut) (p q : Int) : Prop where
  q0 : 0 < q
  one : Int.gcd p q = 1
  ins : inI f (some c) p q
  low : ∀ p' q', 0 < q' → inI f (some c) p' q' → p.natAbs ≤ p'.natAbs ∧ q ≤ q'
def mir (c : Cut) : Cut := ⟨0 - c.a, c.b, 1 - c.k⟩
theorem pos_of_ge {f : Cut} (h : f.Ok) (f0 : 0 ≤ f.a) (hp : Pos f) {p q : Int} (q0 : 0 < q) (g : geC f p q) : 0 < p := by
  have b0 := h.nf.pos
  have : 0 ≤ f.a * q := Int.mul_nonneg f0 (by omega)
  have : 0 * f.b < p * f.b := by
    rw [Int.zero_mul]
    rcases g with g | ⟨g, e⟩
    · omega
    · rcases hp with hp | hp
      · have := Int.mul_pos hp q0
        omega
      · omega
  exact lt_of_mul this b0
theorem two_zero {f c : Cut} (hf : f.Ok) (hc : c.Ok) (h1 : Cut.lt f ⟨0, 1, 1⟩) (h2 : Cut.lt ⟨0, 1, 0⟩ c) : Best2 f c 0 1 := by
  have k1 := hf.k01
  have k2 := hc.k01
  unfold Cut.lt at h1 h2
  simp only at h1 h2
  refine ⟨by decide, rfl, ⟨?_, fun c' e => ?_⟩, fun p' q' h _ => ⟨Nat.zero_le _, by omega⟩⟩
  · unfold geC
    rcases h1 with h | ⟨h, k⟩
    · exact .inl h
    · exact .inr ⟨h, by omega⟩
  · cases e
    unfold leC
    rcases h2 with h | ⟨h, k⟩
    · exact .inl h
    · exact .inr ⟨h, by omega⟩
theorem two_pos {f c : Cut} (hf : f.Ok) (hc : c.Ok) (hl : Cut.lt f c) (h1 : ¬ Cut.lt f ⟨0, 1, 1⟩) : IOk f (some c) ∧ Pos f ∧ ∀ p q, Best f (some c) p q → Best2 f c p q := by
  have k1 := hf.k01
  unfold Cut.lt at h1
  simp only at h1
  have f0 : 0 ≤ f.a := by
    by_cases z : f.a < 0
    · exact absurd (.inl (by omega)) h1
    · omega
  have hp : Pos f := by
    by_cases z : f.a = 0
    · right
      have : ¬ f.k < 1 := fun k => h1 (.inr ⟨by omega, k⟩)
      omega
    · left; omega
  refine ⟨⟨hf, f0, fun c' e => by cases e; exact ⟨hc, hl⟩⟩, hp, fun p q b => ⟨b.q0, b.one, b.ins, fun p' q' q0 hi => ?_⟩⟩
  have p0 := pos_of_ge hf f0 hp q0 hi.1
  obtain ⟨l1, l2⟩ := b.low p' q' q0 p0 hi
  have := b.p0
  exact ⟨by omega, l2⟩
theorem mir_ok {c : Cut} (h : c.Ok) : (mir c).Ok := ⟨⟨h.nf.pos, by show Int.gcd (0 - c.a) c.b = 1; rw [Int.zero_sub, Int.neg_gcd]; exact h.nf.one⟩, by have := h.k01; show 1 - c.k = 0 ∨ 1 - c.k = 1; omega⟩
theorem mir_lt {f c : Cut} (h : Cut.lt f c) : Cut.lt (mir c) (mir f) := by
  unfold Cut.lt mir at *
  simp only
  rcases h with h | ⟨h, k⟩
  · left; grind
  · right; exact ⟨by grind, by omega⟩
theorem mir_ge {c : Cut} (h : c.Ok) {p q : Int} (g : leC c p q) : geC (mir c) (0 - p) q := by
  have k := h.k01
  unfold leC at g
  unfold geC mir
  simp only
  rcases g with g | ⟨g, e⟩
  · left; grind
  · right; exact ⟨by grind, by omega⟩
theorem mir_le {f : Cut} (h : f.Ok) {p q : Int} (g : geC f p q) : leC (mir f) (0 - p) q := by
  have k := h.k01
  unfold geC at g
  unfold leC mir
  simp only
  rcases g with g | ⟨g, e⟩
  · left; grind
  · right; exact ⟨by grind, by omega⟩
theorem mir_mir (c : Cut) : mir (mir c) = c := by
  unfold mir
  simp only
  rw [show (0 : Int) - (0 - c.a) = c.a by omega, show (1 : Int) - (1 - c.k) = c.k by omega]
theorem two_neg {f c : Cut} (hf : f.Ok) (hc : c.Ok) (hl : Cut.lt f c) (h2 : ¬ Cut.lt ⟨0, 1, 0⟩ c) : IOk (mir c) (some (mir f)) ∧ Pos (mir c) ∧ ∀ p q, Best (mir c) (some (mir f)) p q → Best2 f c (0 - p) q := by
  have k1 := hc.k01
  unfold Cut.lt at h2
  simp only at h2
  have f0 : c.a ≤ 0 := by
    by_cases z : 0 < c.a
    · exact absurd (.inl (by omega)) h2
    · omega
  have hp : Pos (mir c) := by
    by_cases z : c.a = 0
    · right
      have : ¬ 0 < c.k := fun k => h2 (.inr ⟨by omega, k⟩)
      show 1 - c.k = 1
      omega
    · left; show 0 < 0 - c.a; omega
  have g0 : 0 ≤ (mir c).a := by show 0 ≤ 0 - c.a; omega
  refine ⟨⟨mir_ok hc, g0, fun c' e => by cases e; exact ⟨mir_ok hf, mir_lt hl⟩⟩, hp, fun p q b => ⟨b.q0, ?_, ⟨?_, fun c' e => ?_⟩, fun p' q' q0 hi => ?_⟩⟩
  · rw [Int.zero_sub, Int.neg_gcd]; exact b.one
  · have := mir_ge (mir_ok hf) (b.ins.2 _ rfl)
    rw [mir_mir] at this
    exact this
  · cases e
    have := mir_le (mir_ok hc) b.ins.1
    rw [mir_mir] at this
    exact this
  · have i1 := mir_ge hc (hi.2 c rfl)
    have i2 := mir_le hf hi.1
    have p0 := pos_of_ge (mir_ok hc) g0 hp q0 i1
    obtain ⟨l1, l2⟩ := b.low (0 - p') q' q0 p0 ⟨i1, fun c' e => by cases e; exact i2⟩
    have := b.p0
    exact ⟨by omega, l2⟩
/-- the numbers of a cut are not too great -/
structure CB (B : Int) (c : Cut) : Prop where
  lo : -B ≤ c.a
  hi : c.a ≤ B
  bb : c.b ≤ B
theorem CB.mir {B : Int} {c : Cut} (h : CB B c) : CB B (mir c) := ⟨by have := h.hi; show -B ≤ 0 - c.a; omega, by have := h.lo; show 0 - c.a ≤ B; omega, h.bb⟩
theorem CB.sz {B : Int} {f c : Cut} (h : CB B f) (h' : CB B c) : Sz B f (some c) := ⟨h.hi, h.bb, fun c' e => by cases e; exact ⟨h'.hi, h'.bb⟩⟩
end RT
set_option Elab.async false
set_option linter.all false
namespace RT
theorem nrm_sz {a b : Int} (h : b ≠ 0) : (nrm a b).1.natAbs ≤ a.natAbs ∧ (nrm a b).2 ≤ b.natAbs := by
  obtain ⟨n, v⟩ := nrm_spec (a := a) h
  have p := n.pos
  generalize (nrm a b).1 = x at *
  generalize (nrm a b).2 = y at *
  constructor
  · by_cases z : a = 0
    · rw [z, Int.zero_mul] at v
      rcases Int.mul_eq_zero.mp v with e | e
      · rw [e, z]; exact Nat.le_refl _
      · exact absurd e h
    · have d : x ∣ a := cop_dvd (a := y) ⟨b, by rw [v, Int.mul_comm]⟩ (by rw [Int.gcd_comm]; exact n.one)
      exact Nat.le_of_dvd (by omega) (Int.natAbs_dvd_natAbs.mpr d)
  · have d : y ∣ b := cop_dvd (a := x) ⟨a, by rw [v, Int.mul_comm]⟩ n.one
    have := Nat.le_of_dvd (by omega) (Int.natAbs_dvd_natAbs.mpr d)
    omega
/-- membership as the law tells it -/
def inB (f c : Cut) (p q : Int) : Bool := !decide (Cut.lt ⟨p, q, 0⟩ f) && !decide (Cut.lt c ⟨p, q, 1⟩)
theorem inB_iff {f c : Cut} (hf : f.Ok) (hc : c.Ok) {p q : Int} : inB f c p q = true ↔ inI f (some c) p q := by
  have k1 := hf.k01
  have k2 := hc.k01
  unfold inB inI geC leC
  simp only [Bool.and_eq_true, Bool.not_eq_true', decide_eq_false_iff_not, Option.some.injEq, forall_eq']
  unfold Cut.lt
  simp only
  constructor
  · rintro ⟨h1, h2⟩
    constructor <;> omega
  · rintro ⟨h1, h2⟩
    constructor <;> omega
theorem best_in {f c : Cut} (hf : f.Ok) (hc : c.Ok) {p q : Int} (b : Best2 f c p q) : inB f c p q = true := (inB_iff hf hc).mpr b.ins
theorem best_out {f c : Cut} (hf : f.Ok) (hc : c.Ok) {p q p' q' : Int} (b : Best2 f c p q) (q0 : 0 < q') (h : q' < q ∨ p'.natAbs < p.natAbs) : inB f c p' q' = false := by
  cases e : inB f c p' q' with
  | false => rfl
  | true =>
    obtain ⟨l1, l2⟩ := b.low p' q' q0 ((inB_iff hf hc).mp e)
    omega
def areaOk (B : Int) (f c : Cut) : Prop := f.Ok ∧ c.Ok ∧ Cut.lt f c ∧ CB B f ∧ CB B c
/-- two ratios, the first not above the second -/
theorem two_lt {a b c d i j : Int} (n1 : Nf a b) (n2 : Nf c d) (h : a * d ≤ c * b) (e : ¬ (a = c ∧ b = d)) : Cut.lt ⟨a, b, i⟩ ⟨c, d, j⟩ := by
  left
  show a * d < c * b
  have : a * d ≠ c * b := fun z => e (nf_eq n1 n2 z)
  omega
theorem add_le {a b c d : Int} (b0 : 0 < b) (c0 : 0 ≤ c) (d0 : 0 < d) : a * (nrm (a * d + c * b) (b * d)).2 ≤ (nrm (a * d + c * b) (b * d)).1 * b := by
  have hbd : 0 < b * d := Int.mul_pos b0 d0
  obtain ⟨n, v⟩ := nrm_spec (a := a * d + c * b) (b := b * d) (by omega)
  have p := n.pos
  generalize (nrm (a * d + c * b) (b * d)).1 = x at *
  generalize (nrm (a * d + c * b) (b * d)).2 = y at *
  refine le_of_mul (b := d) ?_ d0
  have : 0 ≤ c * b * y := Int.mul_nonneg (Int.mul_nonneg c0 (by omega)) (by omega)
  grind
theorem best2_sz {B : Int} {f c : Cut} {p q : Int} (z : areaOk B f c) (b : Best2 f c p q) : p.natAbs ≤ 2 * B ∧ q ≤ 2 * B := by
  obtain ⟨hf, hc, hl, zf, zc⟩ := z
  have b0 := hf.nf.pos
  have d0 := hc.nf.pos
  have k1 := hf.k01
  have k2 := hc.k01
  have u1 := zf.lo
  have u2 := zf.hi
  have u3 := zf.bb
  have v1 := zc.lo
  have v2 := zc.hi
  have v3 := zc.bb
  unfold Cut.lt at hl
  rcases hl with hl | ⟨hl, hk⟩
  · obtain ⟨l1, l2⟩ := b.low (f.a + c.a) (f.b + c.b) (by omega) ⟨by left; grind, fun c' e => by cases e; left; grind⟩
    omega
  · obtain ⟨l1, l2⟩ := b.low f.a f.b b0 ⟨by right; exact ⟨rfl, by omega⟩, fun c' e => by cases e; right; exact ⟨hl, by omega⟩⟩
    omega
end RT
set_option Elab.async false
set_option linter.all false
namespace SP
/-- a line of cuts; some of them stand just ahead of a point, and between two cuts there is one -/
class Lin (C : Type) where
  lt : C → C → Prop
  dec : ∀ a b, Decidable (lt a b)
  irr : ∀ a, ¬ lt a a
  trans : ∀ {a b c}, lt a b → lt b c → lt a c
  tri : ∀ a b, lt a b ∨ a = b ∨ lt b a
  Pt : C → Prop
  dense : ∀ {a b}, lt a b → ∃ x, Pt x ∧ ¬ lt x a ∧ lt x b
section
variable {C : Type} [Lin C]
open Lin
instance (a b : C) : Decidable (lt a b) := dec a b
theorem le_lt {a b c : C} (h1 : ¬ lt b a) (h2 : lt b c) : lt a c := by
  rcases tri a b with h | h | h
  · exact trans h h2
  · rw [h]; exact h2
  · exact absurd h h1
theorem lt_le {a b c : C} (h1 : lt a b) (h2 : ¬ lt c b) : lt a c := by
  rcases tri b c with h | h | h
  · exact trans h1 h
  · rw [← h]; exact h1
  · exact absurd h h2
theorem le_trans {a b c : C} (h1 : ¬ lt b a) (h2 : ¬ lt c b) : ¬ lt c a := fun h => by
  have := lt_le h h1
  exact h2 this
theorem asym {a b : C} (h : lt a b) : ¬ lt b a := fun h2 => irr a (trans h h2)
theorem le_antisymm {a b : C} (h1 : ¬ lt a b) (h2 : ¬ lt b a) : a = b := by
  rcases tri a b with h | h | h
  · exact absurd h h1
  · exact h
  · exact absurd h h2
def mx (a b : C) : C := if lt a b then b else a
def mn (a b : C) : C := if lt b a then b else a
theorem mx_le {a b x : C} : ¬ lt x (mx a b) ↔ ¬ lt x a ∧ ¬ lt x b := by
  unfold mx
  split
  · rename_i h
    exact ⟨fun z => ⟨le_trans (asym h) z, z⟩, fun z => z.2⟩
  · rename_i h
    exact ⟨fun z => ⟨z, le_trans h z⟩, fun z => z.1⟩
theorem lt_mx {a b x : C} : lt x (mx a b) ↔ lt x a ∨ lt x b := by
  unfold mx
  split
  · rename_i h
    exact ⟨.inr, fun z => z.elim (fun z => trans z h) id⟩
  · rename_i h
    exact ⟨.inl, fun z => z.elim id (fun z => lt_le z h)⟩
theorem lt_mn {a b x : C} : lt x (mn a b) ↔ lt x a ∧ lt x b := by
  unfold mn
  split
  · rename_i h
    exact ⟨fun z => ⟨trans z h, z⟩, fun z => z.2⟩
  · rename_i h
    exact ⟨fun z => ⟨z, lt_le z h⟩, fun z => z.1⟩
theorem mx_cases (a b : C) : mx a b = a ∨ mx a b = b := by unfold mx; split <;> simp
theorem mn_cases (a b : C) : mn a b = a ∨ mn a b = b := by unfold mn; split <;> simp
/-- a span: from a cut to a later one -/
def mem1 (s : C × C) (x : C) : Prop := ¬ lt x s.1 ∧ lt x s.2
def mem (S : List (C × C)) (x : C) : Prop := ∃ s ∈ S, mem1 s x
theorem mem_nil {x : C} : ¬ mem ([] : List (C × C)) x := fun ⟨_, h, _⟩ => by cases h
theorem mem_cons {s : C × C} {S : List (C × C)} {x : C} : mem (s :: S) x ↔ mem1 s x ∨ mem S x := by
  constructor
  · rintro ⟨t, h, m⟩
    rcases List.mem_cons.mp h with e | e
    · rw [e] at m; exact .inl m
    · exact .inr ⟨t, e, m⟩
  · rintro (h | ⟨t, h, m⟩)
    · exact ⟨s, List.mem_cons_self, h⟩
    · exact ⟨t, List.mem_cons_of_mem _ h, m⟩
theorem mem_append {S T : List (C × C)} {x : C} : mem (S ++ T) x ↔ mem S x ∨ mem T x := by
  constructor
  · rintro ⟨t, h, m⟩
    rcases List.mem_append.mp h with e | e
    · exact .inl ⟨t, e, m⟩
    · exact .inr ⟨t, e, m⟩
  · rintro (⟨t, h, m⟩ | ⟨t, h, m⟩)
    · exact ⟨t, List.mem_append.mpr (.inl h), m⟩
    · exact ⟨t, List.mem_append.mpr (.inr h), m⟩
/-- ascending spans that do not touch, all behind a cut -/
inductive After : Option C → List (C × C) → Prop
  | nil {a : Option C} : After a []
  | cons {a : Option C} {s : C × C} {S : List (C × C)} (h0 : ∀ c, a = some c → lt c s.1) (h1 : lt s.1 s.2) (h2 : After (some s.2) S) : After a (s :: S)
abbrev Canon (S : List (C × C)) : Prop := After none S
theorem After.behind {c : C} {S : List (C × C)} (h : After (some c) S) : ∀ {x}, mem S x → lt c x ∨ (lt c x) := by
  intro x hx
  induction S generalizing c with
  | nil => exact absurd hx mem_nil
  | cons s S ih =>
    cases h with
    | cons h0 h1 h2 =>
      rcases mem_cons.mp hx with m | m
      · exact .inl (lt_le (h0 c rfl) m.1)
      · rcases ih h2 m with z | z <;> exact .inl (trans (h0 c rfl) (trans h1 z))
theorem After.free {a : Option C} {S : List (C × C)} (h : After a S) : After none S := by
  cases h with
  | nil => exact .nil
  | cons h0 h1 h2 => exact .cons (fun c e => by cases e) h1 h2
/-- a set has one such form -/
theorem canon_eq : ∀ {a : Option C} {S T : List (C × C)}, After a S → After a T → (∀ x, Pt x → (mem S x ↔ mem T x)) → S = T := by
  intro a S
  induction S generalizing a with
  | nil =>
    intro T _ hT h
    cases hT with
    | nil => rfl
    | @cons _ t T h0 h1 h2 =>
      obtain ⟨x, px, x1, x2⟩ := dense h1
      exact absurd ((h x px).mpr (mem_cons.mpr (.inl ⟨x1, x2⟩))) mem_nil
  | cons s S ih =>
    intro T hS hT h
    cases hS with
    | cons h0 h1 h2 =>
    cases hT with
    | nil =>
      obtain ⟨x, px, x1, x2⟩ := dense h1
      exact absurd ((h x px).mp (mem_cons.mpr (.inl ⟨x1, x2⟩))) mem_nil
    | @cons _ t T g0 g1 g2 =>
      -- the first cuts
      have low : ∀ {u : C × C} {U : List (C × C)} {x : C}, lt u.1 u.2 → After (some u.2) U → mem (u :: U) x → ¬ lt x u.1 := by
        intro u U x k1 k2 hm
        rcases mem_cons.mp hm with m | m
        · exact m.1
        · rcases k2.behind m with z | z <;> exact asym (trans k1 z)
      have ef : s.1 = t.1 := by
        refine le_antisymm (fun z => ?_) (fun z => ?_)
        · obtain ⟨x, px, x1, x2⟩ := dense (show lt s.1 (mn s.2 t.1) from lt_mn.mpr ⟨h1, z⟩)
          have x3 := lt_mn.mp x2
          exact low g1 g2 ((h x px).mp (mem_cons.mpr (.inl ⟨x1, x3.1⟩))) x3.2
        · obtain ⟨x, px, x1, x2⟩ := dense (show lt t.1 (mn t.2 s.1) from lt_mn.mpr ⟨g1, z⟩)
          have x3 := lt_mn.mp x2
          exact low h1 h2 ((h x px).mpr (mem_cons.mpr (.inl ⟨x1, x3.1⟩))) x3.2
      -- the last cuts
      have gap : ∀ {u : C × C} {U : List (C × C)} {m : C}, After (some u.2) U → lt u.2 m → ∃ x, Pt x ∧ ¬ lt x u.2 ∧ lt x m ∧ ¬ mem (u :: U) x := by
        intro u U m k2 z
        cases k2 with
        | nil =>
          obtain ⟨x, px, x1, x2⟩ := dense z
          refine ⟨x, px, x1, x2, fun hm => ?_⟩
          rcases mem_cons.mp hm with m | m
          · exact x1 m.2
          · exact mem_nil m
        | @cons _ v V j0 j1 j2 =>
          obtain ⟨x, px, x1, x2⟩ := dense (show lt u.2 (mn m v.1) from lt_mn.mpr ⟨z, j0 _ rfl⟩)
          have x3 := lt_mn.mp x2
          refine ⟨x, px, x1, x3.1, fun hm => ?_⟩
          rcases mem_cons.mp hm with m | m
          · exact x1 m.2
          · exact low j1 j2 m x3.2
      have el : s.2 = t.2 := by
        refine le_antisymm (fun z => ?_) (fun z => ?_)
        · obtain ⟨x, px, x1, x2, x3⟩ := gap h2 z
          exact x3 ((h x px).mpr (mem_cons.mpr (.inl ⟨by rw [← ef]; exact le_trans (asym h1) x1, x2⟩)))
        · obtain ⟨x, px, x1, x2, x3⟩ := gap g2 z
          exact x3 ((h x px).mp (mem_cons.mpr (.inl ⟨by rw [ef]; exact le_trans (asym g1) x1, x2⟩)))
      have e : s = t := Prod.ext ef el
      subst e
      refine congrArg (s :: ·) (ih h2 g2 fun x px => ?_)
      have hx := h x px
      constructor
      · intro m
        rcases mem_cons.mp (hx.mp (mem_cons.mpr (.inr m))) with z | z
        · rcases h2.behind m with y | y <;> exact absurd z.2 (asym y)
        · exact z
      · intro m
        rcases mem_cons.mp (hx.mpr (mem_cons.mpr (.inr m))) with z | z
        · rcases g2.behind m with y | y <;> exact absurd z.2 (asym y)
        · exact z
end
end SP
set_option Elab.async false
set_option linter.all false
namespace SP
section
variable {C : Type} [Lin C]
open Lin
theorem After.snoc : ∀ {a : Option C} {F : List (C × C)} {s : C × C}, After a F → (∀ t, F.getLast? = some t → lt t.2 s.1) → (F = [] → ∀ c, a = some c → lt c s.1) → lt s.1 s.2 → After a (F ++ [s])
  | _, [], s, _, _, h2, h3 => .cons (h2 rfl) h3 .nil
  | _, t :: F, s, .cons h0 h1 h2, hl, _, h3 => by
    refine .cons h0 h1 (After.snoc h2 (fun u hu => ?_) (fun e c hc => ?_) h3)
    · cases F with
      | nil => cases hu
      | cons v V => exact hl u (by rw [List.getLast?_cons_cons]; exact hu)
    · subst e
      cases hc
      exact hl t rfl
theorem After.init : ∀ {a : Option C} {F : List (C × C)} {s : C × C}, After a (F ++ [s]) → After a F ∧ lt s.1 s.2
  | _, [], s, .cons h0 h1 h2 => ⟨.nil, h1⟩
  | _, t :: F, s, .cons h0 h1 h2 => by
    obtain ⟨i, j⟩ := After.init h2
    exact ⟨.cons h0 h1 i, j⟩
theorem After.grow : ∀ {a : Option C} {F : List (C × C)} {l : C × C} {m : C}, After a (F ++ [l]) → ¬ lt m l.2 → After a (F ++ [(l.1, m)])
  | _, [], l, m, .cons h0 h1 h2, hm => .cons h0 (lt_le h1 hm) .nil
  | _, t :: F, l, m, .cons h0 h1 h2, hm => .cons h0 h1 (After.grow h2 hm)
/-- spans by their first cuts -/
def Srt (S : List (C × C)) : Prop := S.Pairwise fun s t => ¬ lt t.1 s.1
def Val (S : List (C × C)) : Prop := ∀ s ∈ S, lt s.1 s.2
/-- what the merging holds so far -/
structure Mrg (done : List (C × C)) (F : List (C × C)) : Prop where
  can : Canon F
  mem : ∀ x, SP.mem F x ↔ SP.mem done x
  fst : ∀ t ∈ F, ∃ s ∈ done, t.1 = s.1
  all : ∀ P : C → Prop, (∀ s ∈ done, P s.1 ∧ P s.2) → ∀ t ∈ F, P t.1 ∧ P t.2
theorem Mrg.nil : Mrg ([] : List (C × C)) [] := ⟨.nil, fun _ => Iff.rfl, nofun, fun _ _ => nofun⟩
theorem mem_one {s : C × C} {x : C} : mem [s] x ↔ mem1 s x := by
  rw [mem_cons]
  exact ⟨fun h => h.elim id fun z => absurd z mem_nil, .inl⟩
theorem Mrg.next {done F : List (C × C)} {s : C × C} (h : Mrg done F) (hs : lt s.1 s.2) (hl : ∀ t, F.getLast? = some t → lt t.2 s.1) : Mrg (done ++ [s]) (F ++ [s]) := by
  refine ⟨h.can.snoc hl (fun _ c e => by cases e) hs, fun x => ?_, fun t ht => ?_, fun P hP t ht => ?_⟩
  · rw [mem_append, mem_append, h.mem x]
  · rcases List.mem_append.mp ht with z | z
    · obtain ⟨u, hu, e⟩ := h.fst t z
      exact ⟨u, List.mem_append.mpr (.inl hu), e⟩
    · exact ⟨t, List.mem_append.mpr (.inr z), rfl⟩
  · rcases List.mem_append.mp ht with z | z
    · exact h.all P (fun u hu => hP u (List.mem_append.mpr (.inl hu))) t z
    · exact hP t (List.mem_append.mpr (.inr z))
theorem Mrg.join {done F : List (C × C)} {l s : C × C} (h : Mrg done (F ++ [l])) (hs : lt s.1 s.2) (hf : ¬ lt s.1 l.1) (hl : ¬ lt l.2 s.1) : Mrg (done ++ [s]) (F ++ [(l.1, mx l.2 s.2)]) := by
  refine ⟨h.can.grow (fun z => (mx_le (x := mx l.2 s.2)).mp (irr _) |>.1 z), fun x => ?_, fun t ht => ?_, fun P hP t ht => ?_⟩
  · rw [mem_append, mem_append, ← h.mem x, mem_append, mem_one, mem_one, mem_one]
    have key : mem1 (l.1, mx l.2 s.2) x ↔ mem1 l x ∨ mem1 s x := by
      unfold mem1
      simp only
      rw [lt_mx]
      constructor
      · rintro ⟨h1, h2 | h2⟩
        · exact .inl ⟨h1, h2⟩
        · by_cases z : lt x l.2
          · exact .inl ⟨h1, z⟩
          · exact .inr ⟨le_trans hl z, h2⟩
      · rintro (⟨h1, h2⟩ | ⟨h1, h2⟩)
        · exact ⟨h1, .inl h2⟩
        · exact ⟨le_trans hf h1, .inr h2⟩
    rw [key, or_assoc]
  · rcases List.mem_append.mp ht with z | z
    · obtain ⟨u, hu, e⟩ := h.fst t (List.mem_append.mpr (.inl z))
      exact ⟨u, List.mem_append.mpr (.inl hu), e⟩
    · cases List.mem_singleton.mp z
      obtain ⟨u, hu, e⟩ := h.fst l (List.mem_append.mpr (.inr (List.mem_singleton.mpr rfl)))
      exact ⟨u, List.mem_append.mpr (.inl hu), e⟩
  · have h1 := h.all P (fun u hu => hP u (List.mem_append.mpr (.inl hu)))
    rcases List.mem_append.mp ht with z | z
    · exact h1 t (List.mem_append.mpr (.inl z))
    · cases List.mem_singleton.mp z
      refine ⟨(h1 l (List.mem_append.mpr (.inr (List.mem_singleton.mpr rfl)))).1, ?_⟩
      rcases mx_cases l.2 s.2 with e | e
      · show P (mx l.2 s.2)
        rw [e]
        exact (h1 l (List.mem_append.mpr (.inr (List.mem_singleton.mpr rfl)))).2
      · show P (mx l.2 s.2)
        rw [e]
        exact (hP s (List.mem_append.mpr (.inr (List.mem_singleton.mpr rfl)))).2
/-- putting a span at its place -/
theorem Srt.put {F G : List (C × C)} {s : C × C} (h : Srt (F ++ G)) (h1 : ∀ t ∈ F, ¬ lt s.1 t.1) (h2 : ∀ t ∈ G, ¬ lt t.1 s.1) : Srt (F ++ s :: G) := by
  unfold Srt at *
  rw [List.pairwise_append] at h ⊢
  refine ⟨h.1, List.pairwise_cons.mpr ⟨h2, h.2.1⟩, fun a ha b hb => ?_⟩
  rcases List.mem_cons.mp hb with e | e
  · subst e; exact h1 a ha
  · exact h.2.2 a ha b e
theorem mem_put {F G : List (C × C)} {s : C × C} {x : C} : mem (F ++ s :: G) x ↔ mem (F ++ G) x ∨ mem1 s x := by
  rw [mem_append, mem_cons, mem_append]
  constructor
  · rintro (h | h | h)
    · exact .inl (.inl h)
    · exact .inr h
    · exact .inl (.inr h)
  · rintro ((h | h) | h)
    · exact .inl h
    · exact .inr (.inr h)
    · exact .inr (.inl h)
/-- two spans' common part, what is left of one -/
def cut2 (f l : C) : List (C × C) := if lt f l then [(f, l)] else []
theorem mem_cut2 {f l x : C} : mem (cut2 f l) x ↔ ¬ lt x f ∧ lt x l := by
  unfold cut2
  split
  · rw [mem_one]; exact Iff.rfl
  · rename_i h
    exact ⟨fun z => absurd z mem_nil, fun z => absurd (le_lt z.1 z.2) h⟩
theorem val_cut2 {f l : C} : Val (cut2 f l) := fun s hs => by
  unfold cut2 at hs
  split at hs
  · rename_i h
    cases List.mem_singleton.mp hs
    exact h
  · cases hs
theorem mem_common {s t : C × C} {x : C} : mem (cut2 (mx s.1 t.1) (mn s.2 t.2)) x ↔ mem1 s x ∧ mem1 t x := by
  rw [mem_cut2, mx_le, lt_mn]
  unfold mem1
  constructor
  · rintro ⟨⟨a, b⟩, c, d⟩; exact ⟨⟨a, c⟩, b, d⟩
  · rintro ⟨⟨a, c⟩, b, d⟩; exact ⟨⟨a, b⟩, c, d⟩
theorem mem_without {s t : C × C} {x : C} : mem (cut2 s.1 (mn s.2 t.1) ++ cut2 (mx s.1 t.2) s.2) x ↔ mem1 s x ∧ ¬ mem1 t x := by
  rw [mem_append, mem_cut2, mem_cut2, lt_mn, mx_le]
  unfold mem1
  constructor
  · rintro (⟨a, b, c⟩ | ⟨⟨a, b⟩, c⟩)
    · exact ⟨⟨a, b⟩, fun z => z.1 c⟩
    · exact ⟨⟨a, c⟩, fun z => b z.2⟩
  · rintro ⟨⟨a, b⟩, c⟩
    by_cases z : lt x t.1
    · exact .inl ⟨a, b, z⟩
    · exact .inr ⟨⟨a, fun y => c ⟨z, y⟩⟩, b⟩
end
end SP
set_option Elab.async false
set_option linter.all false
namespace SP
open RT
/-- cuts in lowest terms -/
abbrev OC : Type := {c : Cut // c.Ok}
theorem cut_trans {x y z : Cut} (hx : x.Ok) (hy : y.Ok) (hz : z.Ok) (h1 : Cut.lt x y) (h2 : Cut.lt y z) : Cut.lt x z := by
  have b0 := hx.nf.pos
  have d0 := hy.nf.pos
  have f0 := hz.nf.pos
  unfold Cut.lt at *
  have e1 : (x.a * z.b) * y.b = (x.a * y.b) * z.b := by grind
  have e2 : (z.a * x.b) * y.b = (z.a * y.b) * x.b := by grind
  have e3 : (y.a * x.b) * z.b = (y.a * z.b) * x.b := by grind
  have m1 : x.a * y.b < y.a * x.b → (x.a * y.b) * z.b < (y.a * x.b) * z.b := fun h => Int.mul_lt_mul_of_pos_right h f0
  have m2 : y.a * z.b < z.a * y.b → (y.a * z.b) * x.b < (z.a * y.b) * x.b := fun h => Int.mul_lt_mul_of_pos_right h b0
  rcases h1 with h1 | ⟨h1, k1⟩
  · have n1 := m1 h1
    left
    refine lt_of_mul (b := y.b) ?_ d0
    rcases h2 with h2 | ⟨h2, k2⟩
    · have n2 := m2 h2
      omega
    · rw [h2] at e3
      omega
  · rcases h2 with h2 | ⟨h2, k2⟩
    · have n2 := m2 h2
      left
      refine lt_of_mul (b := y.b) ?_ d0
      rw [h1] at e1
      omega
    · right
      refine ⟨?_, by omega⟩
      refine Int.eq_of_mul_eq_mul_right (show y.b ≠ 0 by omega) ?_
      rw [e1, e2, h1, e3, h2]
theorem cut_tri {x y : Cut} (hx : x.Ok) (hy : y.Ok) : Cut.lt x y ∨ x = y ∨ Cut.lt y x := by
  unfold Cut.lt
  by_cases h1 : x.a * y.b < y.a * x.b
  · exact .inl (.inl h1)
  · by_cases h2 : y.a * x.b < x.a * y.b
    · exact .inr (.inr (.inl h2))
    · have e : x.a * y.b = y.a * x.b := by omega
      obtain ⟨e1, e2⟩ := nf_eq hx.nf hy.nf e
      by_cases h3 : x.k < y.k
      · exact .inl (.inr ⟨e, h3⟩)
      · by_cases h4 : y.k < x.k
        · exact .inr (.inr (.inr ⟨e.symm, h4⟩))
        · refine .inr (.inl ?_)
          have e3 : x.k = y.k := by omega
          cases x
          cases y
          simp only at e1 e2 e3
          subst e1 e2 e3
          rfl
theorem cut_dense {x y : Cut} (hx : x.Ok) (hy : y.Ok) (h : Cut.lt x y) : ∃ z : Cut, z.Ok ∧ z.k = 0 ∧ ¬ Cut.lt z x ∧ Cut.lt z y := by
  have b0 := hx.nf.pos
  have d0 := hy.nf.pos
  have h' := h
  unfold Cut.lt at h
  rcases h with h | ⟨h, k⟩
  · have hb : x.b + y.b ≠ 0 := by omega
    have n := nrm_nf (a := x.a + y.a) hb
    have v := nrm_val (a := x.a + y.a) hb
    have n0 := n.pos
    generalize (nrm (x.a + y.a) (x.b + y.b)).1 = p at *
    generalize (nrm (x.a + y.a) (x.b + y.b)).2 = q at *
    have s0 : 0 < x.b + y.b := by omega
    refine ⟨⟨p, q, 0⟩, ⟨n, .inl rfl⟩, rfl, ?_, ?_⟩
    · have : x.a * q < p * x.b := by
        refine lt_of_mul (b := x.b + y.b) ?_ s0
        have m : (x.a * y.b) * q < (y.a * x.b) * q := Int.mul_lt_mul_of_pos_right h n0
        have e : p * x.b * (x.b + y.b) = (x.a + y.a) * q * x.b := by rw [← v]; grind
        rw [e]
        grind
      unfold Cut.lt
      simp only
      omega
    · left
      show p * y.b < y.a * q
      refine lt_of_mul (b := x.b + y.b) ?_ s0
      have m : (x.a * y.b) * q < (y.a * x.b) * q := Int.mul_lt_mul_of_pos_right h n0
      have e : p * y.b * (x.b + y.b) = (x.a + y.a) * q * y.b := by rw [← v]; grind
      rw [e]
      grind
  · have k1 := hx.k01
    have k2 := hy.k01
    refine ⟨x, hx, by omega, ?_, h'⟩
    unfold Cut.lt
    omega
instance : Lin OC where
  lt a b := Cut.lt a.1 b.1
  dec a b := inferInstance
  irr a := by unfold Cut.lt; omega
  trans {a b c} h1 h2 := cut_trans a.2 b.2 c.2 h1 h2
  tri a b := by
    rcases cut_tri a.2 b.2 with h | h | h
    · exact .inl h
    · exact .inr (.inl (Subtype.ext h))
    · exact .inr (.inr h)
  Pt a := a.1.k = 0
  dense {a b} h := by
    obtain ⟨z, h1, h2, h3, h4⟩ := cut_dense a.2 b.2 h
    exact ⟨⟨z, h1⟩, h2, h3, h4⟩
end SP
set_option Elab.async false
set_option linter.all false
namespace SP
section
variable {C : Type} [Lin C]
open Lin
def cm (S T : List (C × C)) : List (C × C) := S.flatMap fun s => T.flatMap fun t => cut2 (mx s.1 t.1) (mn s.2 t.2)
def wo1 (s t : C × C) : List (C × C) := cut2 s.1 (mn s.2 t.1) ++ cut2 (mx s.1 t.2) s.2
def wo (S : List (C × C)) (t : C × C) : List (C × C) := S.flatMap fun s => wo1 s t
def woL (S T : List (C × C)) : List (C × C) := T.foldl wo S
theorem mem_flat {α : Type} {f : α → List (C × C)} {S : List α} {x : C} : mem (S.flatMap f) x ↔ ∃ s ∈ S, mem (f s) x := by
  constructor
  · rintro ⟨t, h, m⟩
    obtain ⟨s, hs, ht⟩ := List.mem_flatMap.mp h
    exact ⟨s, hs, t, ht, m⟩
  · rintro ⟨s, hs, t, ht, m⟩
    exact ⟨t, List.mem_flatMap.mpr ⟨s, hs, ht⟩, m⟩
theorem mem_cm {S T : List (C × C)} {x : C} : mem (cm S T) x ↔ mem S x ∧ mem T x := by
  unfold cm
  rw [mem_flat]
  constructor
  · rintro ⟨s, hs, m⟩
    obtain ⟨t, ht, m⟩ := mem_flat.mp m
    obtain ⟨m1, m2⟩ := mem_common.mp m
    exact ⟨⟨s, hs, m1⟩, t, ht, m2⟩
  · rintro ⟨⟨s, hs, m1⟩, t, ht, m2⟩
    exact ⟨s, hs, mem_flat.mpr ⟨t, ht, mem_common.mpr ⟨m1, m2⟩⟩⟩
theorem mem_wo {S : List (C × C)} {t : C × C} {x : C} : mem (wo S t) x ↔ mem S x ∧ ¬ mem1 t x := by
  unfold wo
  rw [mem_flat]
  constructor
  · rintro ⟨s, hs, m⟩
    obtain ⟨m1, m2⟩ := mem_without.mp m
    exact ⟨⟨s, hs, m1⟩, m2⟩
  · rintro ⟨⟨s, hs, m1⟩, m2⟩
    exact ⟨s, hs, mem_without.mpr ⟨m1, m2⟩⟩
theorem mem_woL {S T : List (C × C)} {x : C} : mem (woL S T) x ↔ mem S x ∧ ¬ mem T x := by
  unfold woL
  induction T generalizing S with
  | nil => exact ⟨fun h => ⟨h, mem_nil⟩, fun h => h.1⟩
  | cons t T ih =>
    rw [List.foldl_cons, ih, mem_wo, mem_cons]
    constructor
    · rintro ⟨⟨a, b⟩, c⟩; exact ⟨a, fun z => z.elim b c⟩
    · rintro ⟨a, b⟩; exact ⟨⟨a, fun z => b (.inl z)⟩, fun z => b (.inr z)⟩
theorem all_cut2 {P : C → Prop} {f l : C} (h1 : P f) (h2 : P l) : ∀ u ∈ cut2 f l, lt u.1 u.2 ∧ P u.1 ∧ P u.2 := by
  intro u hu
  unfold cut2 at hu
  split at hu
  · rename_i h
    cases List.mem_singleton.mp hu
    exact ⟨h, h1, h2⟩
  · cases hu
theorem p_mx {P : C → Prop} {a b : C} (h1 : P a) (h2 : P b) : P (mx a b) := by
  rcases mx_cases a b with e | e <;> rw [e] <;> assumption
theorem p_mn {P : C → Prop} {a b : C} (h1 : P a) (h2 : P b) : P (mn a b) := by
  rcases mn_cases a b with e | e <;> rw [e] <;> assumption
theorem all_cm {P : C → Prop} {S T : List (C × C)} (hS : ∀ s ∈ S, P s.1 ∧ P s.2) (hT : ∀ s ∈ T, P s.1 ∧ P s.2) : ∀ u ∈ cm S T, lt u.1 u.2 ∧ P u.1 ∧ P u.2 := by
  intro u hu
  obtain ⟨s, hs, hu⟩ := List.mem_flatMap.mp hu
  obtain ⟨t, ht, hu⟩ := List.mem_flatMap.mp hu
  exact all_cut2 (p_mx (hS s hs).1 (hT t ht).1) (p_mn (hS s hs).2 (hT t ht).2) u hu
theorem all_wo1 {P : C → Prop} {s t : C × C} (h1 : P s.1 ∧ P s.2) (h2 : P t.1 ∧ P t.2) : ∀ u ∈ wo1 s t, lt u.1 u.2 ∧ P u.1 ∧ P u.2 := by
  intro u hu
  rcases List.mem_append.mp hu with hu | hu
  · exact all_cut2 h1.1 (p_mn h1.2 h2.1) u hu
  · exact all_cut2 (p_mx h1.1 h2.2) h1.2 u hu
theorem all_wo {P : C → Prop} {S : List (C × C)} {t : C × C} (hS : ∀ s ∈ S, P s.1 ∧ P s.2) (ht : P t.1 ∧ P t.2) : ∀ u ∈ wo S t, lt u.1 u.2 ∧ P u.1 ∧ P u.2 := by
  intro u hu
  obtain ⟨s, hs, hu⟩ := List.mem_flatMap.mp hu
  exact all_wo1 (hS s hs) ht u hu
theorem len_cut2 {f l : C} : (cut2 f l).length ≤ 1 := by
  unfold cut2
  split <;> simp
theorem len_flat {α β : Type} {f : α → List β} {n : Nat} : ∀ {S : List α}, (∀ s ∈ S, (f s).length ≤ n) → (S.flatMap f).length ≤ S.length * n
  | [], _ => by simp
  | s :: S, h => by
    rw [List.flatMap_cons, List.length_append, List.length_cons, Nat.add_mul, Nat.one_mul]
    have h1 := h s List.mem_cons_self
    have h2 := len_flat (S := S) fun t ht => h t (List.mem_cons_of_mem _ ht)
    omega
theorem len_cm {S T : List (C × C)} : (cm S T).length ≤ S.length * T.length := by
  refine len_flat fun s _ => ?_
  have := len_flat (f := fun t : C × C => cut2 (mx s.1 t.1) (mn s.2 t.2)) (n := 1) (S := T) fun t _ => len_cut2
  omega
theorem After.weak {a : Option C} {c : C} {S : List (C × C)} (h : After (some c) S) (ha : ∀ d, a = some d → ¬ lt c d) : After a S := by
  cases h with
  | nil => exact .nil
  | cons h0 h1 h2 => exact .cons (fun d e => le_lt (ha d e) (h0 c rfl)) h1 h2
theorem wo1_parts {s t : C × C} (ht : lt t.1 t.2) {a : Option C} {R : List (C × C)} (h0 : ∀ c, a = some c → lt c s.1) (h1 : lt s.1 s.2) (hR : After (some s.2) R) : After a (wo1 s t ++ R) := by
  unfold wo1 cut2
  have hm1 : ¬ lt t.1 (mn s.2 t.1) := fun z => irr _ (lt_mn.mp z).2
  have hm2 : ¬ lt s.2 (mn s.2 t.1) := fun z => irr _ (lt_mn.mp z).1
  have hx := mx_le.mp (irr (mx s.1 t.2))
  by_cases A : lt s.1 (mn s.2 t.1)
  · rw [if_pos A]
    by_cases B : lt (mx s.1 t.2) s.2
    · rw [if_pos B]
      exact .cons h0 A (.cons (fun c e => by cases e; exact lt_le (le_lt hm1 ht) hx.2) B hR)
    · rw [if_neg B]
      exact .cons h0 A (hR.weak fun d e => by cases e; exact hm2)
  · rw [if_neg A]
    by_cases B : lt (mx s.1 t.2) s.2
    · rw [if_pos B]
      exact .cons (fun c e => lt_le (h0 c e) hx.1) B hR
    · rw [if_neg B]
      exact hR.weak fun d e => asym (trans (h0 d e) h1)
theorem wo_after {t : C × C} (ht : lt t.1 t.2) : ∀ {a : Option C} {S : List (C × C)}, After a S → After a (wo S t)
  | _, [], _ => .nil
  | _, s :: S, .cons h0 h1 h2 => by
    show After _ (List.flatMap _ (s :: S))
    rw [List.flatMap_cons]
    exact wo1_parts ht h0 h1 (wo_after ht h2)
theorem woL_after {T : List (C × C)} (hT : Val T) {a : Option C} {S : List (C × C)} (h : After a S) : After a (woL S T) := by
  unfold woL
  induction T generalizing S with
  | nil => exact h
  | cons t T ih => exact ih (fun s hs => hT s (List.mem_cons_of_mem _ hs)) (wo_after (hT t List.mem_cons_self) h)
theorem len_wo1 {s t : C × C} (h : ¬ (lt s.1 t.1 ∧ lt t.2 s.2)) : (wo1 s t).length ≤ 1 := by
  unfold wo1 cut2
  by_cases A : lt s.1 (mn s.2 t.1)
  · rw [if_pos A]
    by_cases B : lt (mx s.1 t.2) s.2
    · exact absurd ⟨(lt_mn.mp A).2, le_lt (mx_le.mp (irr (mx s.1 t.2))).2 B⟩ h
    · rw [if_neg B]; simp
  · rw [if_neg A]
    split <;> simp
theorem len_wo0 {t : C × C} (ht : lt t.1 t.2) : ∀ {c : C} {S : List (C × C)}, After (some c) S → ¬ lt c t.1 → (wo S t).length ≤ S.length
  | _, [], _, _ => by simp [wo]
  | c, s :: S, .cons h0 h1 h2, hc => by
    show (List.flatMap _ (s :: S)).length ≤ _
    rw [List.flatMap_cons, List.length_append, List.length_cons]
    have n1 : ¬ lt s.1 t.1 := le_trans hc (asym (h0 c rfl))
    have a := len_wo1 (s := s) (t := t) fun z => n1 z.1
    have b := len_wo0 ht h2 (le_trans n1 (asym h1))
    unfold wo at b
    omega
theorem len_wo {t : C × C} (ht : lt t.1 t.2) : ∀ {a : Option C} {S : List (C × C)}, After a S → (wo S t).length ≤ S.length + 1
  | _, [], _ => by simp [wo]
  | _, s :: S, .cons h0 h1 h2 => by
    show (List.flatMap _ (s :: S)).length ≤ _
    rw [List.flatMap_cons, List.length_append, List.length_cons]
    by_cases z : lt s.1 t.1 ∧ lt t.2 s.2
    · have a : (wo1 s t).length ≤ 2 := by
        unfold wo1
        rw [List.length_append]
        have := len_cut2 (f := s.1) (l := mn s.2 t.1)
        have := len_cut2 (f := mx s.1 t.2) (l := s.2)
        omega
      have b := len_wo0 ht h2 (asym (trans ht z.2))
      unfold wo at b
      omega
    · have a := len_wo1 z
      have b := len_wo ht h2
      unfold wo at b
      omega
theorem len_woL {T : List (C × C)} (hT : Val T) {a : Option C} {S : List (C × C)} (h : After a S) : (woL S T).length ≤ S.length + T.length := by
  unfold woL
  induction T generalizing S with
  | nil => exact Nat.le_refl _
  | cons t T ih =>
    have h1 := len_wo (hT t List.mem_cons_self) h
    have h2 := ih (fun s hs => hT s (List.mem_cons_of_mem _ hs)) (wo_after (hT t List.mem_cons_self) h)
    rw [List.foldl_cons, List.length_cons]
    omega
/-- a span put behind all that are not behind it -/
theorem srt_take {F : List (C × C)} {s : C × C} (h : Srt F) (n : Nat) (h1 : ∀ t ∈ F.take n, ¬ lt s.1 t.1) (h2 : ∀ t ∈ F.drop n, lt s.1 t.1) : Srt (F.take n ++ [s] ++ F.drop n) := by
  rw [List.append_assoc]
  exact Srt.put (F := F.take n) (G := F.drop n) (s := s) (by rw [List.take_append_drop]; exact h) h1 fun t ht => asym (h2 t ht)
theorem srt_le {F : List (C × C)} (h : Srt F) {i j : Nat} {s t : C × C} (hi : F[i]? = some s) (hj : F[j]? = some t) (hij : i ≤ j) : ¬ lt t.1 s.1 := by
  by_cases e : i = j
  · subst e
    rw [hi] at hj
    cases hj
    exact irr _
  · obtain ⟨li, ei⟩ := List.getElem?_eq_some_iff.mp hi
    obtain ⟨lj, ej⟩ := List.getElem?_eq_some_iff.mp hj
    have := (List.pairwise_iff_getElem.mp h) i j li lj (by omega)
    rw [ei, ej] at this
    exact this
theorem srt_here {F : List (C × C)} {s : C × C} (h : Srt F) (n : Nat) (hn : n ≤ F.length) (h2 : ∀ t ∈ F.drop n, lt s.1 t.1) (h1 : n = 0 ∨ ∃ t, F[n - 1]? = some t ∧ ¬ lt s.1 t.1) : Srt (F.take n ++ [s] ++ F.drop n) := by
  refine srt_take h n (fun t ht => ?_) h2
  rcases h1 with rfl | ⟨u, hu, nu⟩
  · simp at ht
  · obtain ⟨i, hi, e⟩ := List.mem_iff_getElem.mp ht
    rw [List.length_take] at hi
    have e2 : F[i]? = some t := by
      rw [← e, List.getElem_take]
      simp
    exact le_trans (srt_le h e2 hu (by omega)) nu
theorem srt_count {s : C × C} : ∀ {F : List (C × C)}, Srt F → (∀ t ∈ F.take (F.filter fun t => !decide (lt s.1 t.1)).length, ¬ lt s.1 t.1) ∧ ∀ t ∈ F.drop (F.filter fun t => !decide (lt s.1 t.1)).length, lt s.1 t.1
  | [], _ => by simp
  | u :: F, h => by
    have h' := List.pairwise_cons.mp h
    by_cases z : lt s.1 u.1
    · have e : (u :: F).filter (fun t => !decide (lt s.1 t.1)) = [] := by
        rw [List.filter_eq_nil_iff]
        intro t ht
        rcases List.mem_cons.mp ht with e | e
        · subst e; simp [z]
        · have := lt_le z (h'.1 t e)
          simp [this]
      rw [e]
      refine ⟨by simp, fun t ht => ?_⟩
      have ht : t ∈ u :: F := by simpa using ht
      rcases List.mem_cons.mp ht with e | e
      · subst e; exact z
      · exact lt_le z (h'.1 t e)
    · have ih := srt_count (s := s) h'.2
      have e : (u :: F).filter (fun t => !decide (lt s.1 t.1)) = u :: F.filter fun t => !decide (lt s.1 t.1) := by
        rw [List.filter_cons, if_pos (by simp [z])]
      rw [e, List.length_cons]
      refine ⟨fun t ht => ?_, fun t ht => ?_⟩
      · rw [List.take_succ_cons] at ht
        rcases List.mem_cons.mp ht with e | e
        · subst e; exact z
        · exact ih.1 t e
      · rw [List.drop_succ_cons] at ht
        exact ih.2 t ht
/-- what merging gives -/
structure Mg (S F : List (C × C)) : Prop where
  can : Canon F
  mem : ∀ x, SP.mem F x ↔ SP.mem S x
  all : ∀ P : C → Prop, (∀ s ∈ S, P s.1 ∧ P s.2) → ∀ t ∈ F, P t.1 ∧ P t.2
  len : F.length ≤ S.length
theorem After.val : ∀ {a : Option C} {S : List (C × C)}, After a S → Val S
  | _, [], _ => fun s hs => by cases hs
  | _, t :: S, .cons h0 h1 h2 => fun s hs => by
    rcases List.mem_cons.mp hs with e | e
    · subst e; exact h1
    · exact After.val h2 s e
theorem Mg.same {S T F G : List (C × C)} (h1 : Mg S F) (h2 : Mg T G) (h : ∀ x, Pt x → (SP.mem S x ↔ SP.mem T x)) : F = G :=
  canon_eq h1.can h2.can fun x px => (h1.mem x).trans ((h x px).trans (h2.mem x).symm)
theorem Mg.self {S F : List (C × C)} (h1 : Mg S F) (h : Canon S) : F = S := canon_eq h1.can h fun x _ => h1.mem x
theorem mem_perm {S T : List (C × C)} (h : S.Perm T) {x : C} : mem S x ↔ mem T x :=
  ⟨fun ⟨s, hs, m⟩ => ⟨s, h.mem_iff.mp hs, m⟩, fun ⟨s, hs, m⟩ => ⟨s, h.mem_iff.mpr hs, m⟩⟩
theorem Mg.of {S T F : List (C × C)} (h : Mrg T F) (p : T.Perm S) (hl : F.length ≤ T.length) : Mg S F :=
  ⟨h.can, fun x => (h.mem x).trans (mem_perm p), fun P hP => h.all P fun s hs => hP s (p.mem_iff.mp hs), by rw [← p.length_eq]; exact hl⟩
end
open RT
/-- the point p / q -/
def pt {p q : Int} (n : Nf p q) : OC := ⟨⟨p, q, 0⟩, ⟨n, .inl rfl⟩⟩
theorem mem1_pt {s : OC × OC} {p q : Int} (n : Nf p q) : mem1 s (pt n) ↔ inB s.1.1 s.2.1 p q = true := by
  unfold mem1 inB
  have k := s.2.2.k01
  simp only [Bool.and_eq_true, Bool.not_eq_true', decide_eq_false_iff_not]
  refine and_congr Iff.rfl ?_
  show Cut.lt ⟨p, q, 0⟩ s.2.1 ↔ ¬ Cut.lt s.2.1 ⟨p, q, 1⟩
  unfold Cut.lt
  simp only
  omega
theorem mem_pt {S : List (OC × OC)} {p q : Int} (n : Nf p q) : mem S (pt n) ↔ S.any (fun s => inB s.1.1 s.2.1 p q) = true := by
  rw [List.any_eq_true]
  exact ⟨fun ⟨s, hs, m⟩ => ⟨s, hs, (mem1_pt n).mp m⟩, fun ⟨s, hs, m⟩ => ⟨s, hs, (mem1_pt n).mpr m⟩⟩
theorem pt_of {x : OC} (h : Lin.Pt x) : ∃ (p q : Int) (n : Nf p q), x = pt n := by
  obtain ⟨⟨p, q, k⟩, ok⟩ := x
  have hk : k = 0 := h
  subst hk
  exact ⟨p, q, ok.nf, rfl⟩
end SP
set_option Elab.async false
set_option linter.all false
set_option maxRecDepth 100000
set_option maxHeartbeats 2000000
namespace XI
open PySem PySem.Spec PyProof.Rows L2 PySem.W
/-- the context of the body of an __init__ that says super() -/
def supCx (P : Program) (w : World) (K : PySem.W.Frag) (mg : Str → Option Value) (base : Heap) (N : List Str) (qual : Str) (scope : Scope) (f cda cc : Addr) (A : Around) (outer : List Env) (s : Shared) (H : Hp) : Cx where
  prog := P
  w := w
  K := K
  mg := mg
  base := base
  A := A.deeper (ksEnv qual scope s.heap.objs.size f (.ref cda) cc)
  N := N
  s_0 := s
  H_0 := H
  env := ksEnv qual scope s.heap.objs.size f (.ref cda) cc
  outer := outer
  stack := ksEnv qual scope s.heap.objs.size f (.ref cda) cc :: outer
  ex := []
  fn := fun _ => false
  calm := true
  pn := []
  xe := fun _ _ => False
theorem look_of {l : List (Str × Value)} {y : Str} {u : Value} (h : (y, u) ∈ l) (hu : ∀ u', (y, u') ∈ l → u' = u) : l.lookup y = some u := by
  induction l with
  | nil => cases h
  | cons p l ih =>
    obtain ⟨z, v⟩ := p
    rw [List.lookup_cons]
    cases e : (y == z) with
    | true =>
      have e' : y = z := eq_of_beq e
      subst e'
      rw [hu v List.mem_cons_self]
    | false =>
      rcases List.mem_cons.mp h with q | q
      · cases q
        simp at e
      · exact ih q fun u' hm => hu u' (List.mem_cons_of_mem _ hm)
theorem rev_look {ps : List Str} {us : List Value} (nd : ps.Nodup) {i : Nat} {y : Str} {u : Value} (h1 : ps[i]? = some y) (h2 : us[i]? = some u) : (ps.zip us).reverse.lookup y = some u := by
  refine look_of (List.mem_reverse.mpr ?_) fun u' hm => ?_
  · refine List.mem_of_getElem? (i := i) ?_
    rw [List.getElem?_zip_eq_some]
    exact ⟨h1, h2⟩
  · obtain ⟨j, hj, e⟩ := List.mem_iff_getElem.mp (List.mem_reverse.mp hm)
    have e' : (ps.zip us)[j]? = some (y, u') := List.getElem?_eq_some_iff.mpr ⟨hj, e⟩
    rw [List.getElem?_zip_eq_some] at e'
    have : j = i := nodup_ix nd e'.1 h1
    subst this
    have := e'.2.symm.trans h2
    exact Option.some.inj this
/-- what is told of such a def -/
structure SupD (K : PySem.W.Frag) (P : Program) (qual : Str) (params : Arguments) (body : List Stmt) (scope : Scope) (ps : List Str) (f D : Addr) (fd : FuncData) (cda cc : Addr) : Prop where
  ex : ∃ (oc dV kV doc pm ct ccl cl : Value) (od an cdd cld : Option Addr) (osl ccs csl : Array (Option Value)) (vs : Array Value) (file : Str) (tf : Tok),
    fd = ksFn "__init__" qual params body scope dV kV doc pm an (.ref cda) ct cc ∧ K.lookup f = some ⟨oc, od, .func (ksFn "__init__" qual params body scope dV kV doc pm an (.ref cda) ct cc), osl⟩ ∧
      K.lookup cda = some ⟨ccl, cdd, .fields vs, ccs⟩ ∧ vs[2]? = some (.str file tf) ∧ ((P.main.file : Str) == file) = true ∧ K.lookup cc = some ⟨cl, cld, .cell (some (.ref D)), csl⟩
  cd : PySem.W.codeIn K (.ref cda) qual = true
  top : (P.main.scope.names.lookup ("super" : Str)).isSome = false
structure SupS (ps : List Str) (params : Arguments) (scope : Scope) : Prop where
  kind : scope.kind = .function
  co : scope.isCoroutine = false
  gen : scope.isGenerator = false
  nd : ps.Nodup
  loc : ∀ y ∈ ps, scope.names.lookup y = some .local
  nocell : ∀ x ∈ scope.names, x.2 ≠ .cell
  fre : ∀ x ∈ scope.names, x.2 = .free → x.1 = "__class__"
  su : scope.names.lookup ("super" : Str) = some .globalImplicit
  cl : scope.names.lookup ("__class__" : Str) = some .free
  self_ : ps[0]? = some ("self" : Str)
  par : ∃ ar : Arg, (params.posonlyargs ++ params.args).head? = some ar ∧ ar.arg = "self"
section
variable {P : Program} {w : World} {K : PySem.W.Frag} {mg : Str → Option Value} {base : Heap} {qual : Str} {params : Arguments} {body rest : List Stmt} {scope : Scope} {ps : List Str} {f D cda cc : Addr} {fd : FuncData} {A : Around} {outer : List Env} {s : Shared} {H : Hp}
theorem inv_sup {us : List Value} {vs : List V} {h₁ : Heap} {tk : Nat} (S : SupS ps params scope) (hd : A.handled = none) (e0 : Env0 P w K mg base A outer s H) (hl : vs.length = ps.length) (r : Vals vs us) {cl : Value} {cld : Option Addr} {csl : Array (Option Value)} (hcc : K.lookup cc = some ⟨cl, cld, .cell (some (.ref D)), csl⟩)
    (hns : h₁.Ns s.heap.objs.size fun y => (ps.zip us).reverse.lookup y) (kp : ∀ b o, s.heap.get? b = some o → h₁.get? b = some o) :
    Inv (supCx P w K mg base ps qual scope f cda cc A outer s H) [] (L2.start ps vs) H { s with heap := h₁, toks := tk } := by
  have noA : ∀ b : Addr, b ∉ (supCx P w K mg base ps qual scope f cda cc A outer s H).ex := fun b z => absurd (show b ∈ ([] : List Addr) from z) (by simp)
  have hcb := e0.mod.kin _ _ hcc
  obtain ⟨hcs, hcH⟩ := e0.bs _ _ hcb
  have cl1 : ∀ {y : Str} {c : Addr}, ([("__class__", cc)] : List (Str × Addr)).lookup y = some c → y = "__class__" ∧ c = cc := fun {y c} h => by
    rw [List.lookup_cons] at h
    cases e : (y == ("__class__" : Str)) with
    | true =>
      rw [e] at h
      cases h
      exact ⟨eq_of_beq e, rfl⟩
    | false =>
      rw [e] at h
      cases h
  refine ⟨⟨e0.mod, S.kind, rfl, rfl, Nat.le_refl _, fun y z c e1 e2 => (cl1 e1).1.trans (cl1 e2).1.symm, fun y hy => ?_, fun y c z _ => ?_, fun _ => hd, Around.frames_deeper e0.frames, .inr ⟨rfl, rfl⟩, fun b z => absurd z (noA b), e0.bs, e0.bsz, fun b _ _ => noA b,
      fun b z => absurd z (noA b), e0.funs, e0.frf⟩,
    rfl, e0.bare, Un.kept kp, ⟨_, hns, fun i y v e1 e2 e3 => ?_⟩, fun y c e => ?_, e0.hok.fresh (Nat.le_refl _), fun y c e => ?_, fun q hq => absurd (show q ∈ ([] : List (Addr × Obj)) ++ [] from hq) (by simp), e0.hok.kept kp, ?_⟩
  · have hy : scope.names.lookup y = some .cell ∨ scope.names.lookup y = some .free := hy
    rcases hy with hy | hy
    · exact absurd rfl (S.nocell _ (PySem.mem_of_lookup hy))
    · have e := S.fre _ (PySem.mem_of_lookup hy) rfl
      have e : y = "__class__" := e
      subst e
      exact ⟨cc, rfl⟩
  · have z : false = true := z
    cases z
  · have hi : i < vs.length := by
      unfold L2.start at e2
      by_cases hi : i < vs.length
      · exact hi
      · rw [List.getElem?_append_right (by simpa using hi)] at e2
        rw [List.getElem?_replicate] at e2
        split at e2 <;> cases e2
    have ha : vs[i]? = some v := by
      unfold L2.start at e2
      rw [List.getElem?_append_left (by simpa using hi), List.getElem?_map] at e2
      cases e : vs[i]? with
      | none => rw [e] at e2; cases e2
      | some a => rw [e] at e2; cases e2; rfl
    obtain ⟨u, hu, rv⟩ := r.get ha
    have e1 : ps[i]? = some y := e1
    exact ⟨u, rv, .inl ⟨S.loc y (List.mem_of_getElem? e1), rev_look S.nd e1 hu⟩⟩
  · obtain ⟨_, rfl⟩ := cl1 e
    exact ⟨_, _, kp _ _ hcs, rfl⟩
  · obtain ⟨_, rfl⟩ := cl1 e
    exact hcH
  · unfold L2.start
    show _ = ps.length
    rw [List.length_append, List.length_map, List.length_replicate]
    omega
/-- super().__init__(a text), at the body's beginning -/
theorem sup_first {C a : Addr} {σ : L2.St} {s1 : Shared} {H1 : Hp} {pl : Sem Bool} {p0 p1 p2 p3 p4 p5 : Pos} {msg : Str} {j : Nat} {Q : Flow → Shared → Prop} (F : SupD K P qual params body scope ps f D fd cda cc) (S : SupS ps params scope) (T : OexC K C)
    (hsu : mg "super" = none) (hop : nsIn K cStatics "thirdparty.any" = some none) (hD : (clsIn K D).isSome = true) (hCD : mroIn K C (.ref D) = some true) (hal : ks_superIn K C D "__init__" = some (some (.builtin "ValueError.__init__"))) (hVE : subIn K (.ref C) (.type "ValueError") = some true)
    (I : Inv (supCx P w K mg base ps qual scope f cda cc A outer s H) [] σ H1 s1) (h0 : σ[0]? = some (some (.ref a))) (e : H1 a = some (exo a C none)) (hq : ∀ s', Inv (supCx P w K mg base ps qual scope f cda cc A outer s H) [] σ H1 s' → Q .next s')
    (he : ∀ L, eval (.Call (.Attribute (.Call (.Name "super" p0) [] [] p1) "__init__" p2) [.Constant (.str msg) j p3] [] p4) (ksEnv qual scope L f (.ref cda) cc) = (do
      let ov ← attributeBase (.Call (.Name "super" p0) [] [] p1) "__init__" (ksEnv qual scope L f (.ref cda) cc) (eval (.Call (.Name "super" p0) [] [] p1) (ksEnv qual scope L f (.ref cda) cc))
      standAt p2.atName
      let (fv, first) ← holding [ov] (getMethod ov "__init__" pl)
      callWith p4 fv first (backTo p4 (starEach [.Constant (.str msg) j p3] (ksEnv qual scope L f (.ref cda) cc))) [])) :
    _root_.PySem.wpAt (model P w) (supCx P w K mg base ps qual scope f cda cc A outer s H).A (.func body (supCx P w K mg base ps qual scope f cda cc A outer s H).env)
      (exec (.Expr (.Call (.Attribute (.Call (.Name "super" p0) [] [] p1) "__init__" p2) [.Constant (.str msg) j p3] [] p4) p5) (supCx P w K mg base ps qual scope f cda cc A outer s H).env) Q (fun _ _ => False) s1 := by
  obtain ⟨oc, dV, kV, doc, pm, ct, ccl, cl, od, an, cdd, cld, osl, ccs, csl, vs, file, tf, rfl, lf, lcd, hvs, hfile, lcc⟩ := F.ex
  have KX : K.In s1.heap := I.kIn
  obtain ⟨ar, hp, har⟩ := S.par
  obtain ⟨nm, q, N, bs, bm, sn, sub, ab, col, dd, k0, k1, k2, k3, k5, hC, hbm⟩ := T.cls
  obtain ⟨cdD, hcD⟩ := Option.isSome_iff_exists.mp hD
  obtain ⟨t1, ho⟩ := exo_at I.hok e
  obtain ⟨m, hn, hlk⟩ := id I.loc
  obtain ⟨u0, ru0, lk0⟩ := hlk 0 "self" (.ref a) S.self_ h0 (.inl (S.loc _ (List.mem_of_getElem? S.self_)))
  obtain rfl : u0 = Value.ref a := ru0
  have lm : m "self" = some (.ref a) := by
    rcases lk0 with ⟨_, z⟩ | ⟨z, _⟩
    · exact z
    · have hl := S.loc _ (List.mem_of_getElem? S.self_)
      rcases z with z | z <;> (rw [show scope.names.lookup ("self" : Str) = _ from z] at hl; cases hl)
  obtain ⟨hh, g, d, t, os⟩ := s1
  obtain ⟨oD, hD1, hD2⟩ : ∃ oD, hh.get? D = some oD ∧ oD.data = .cls cdD := by
    unfold clsIn at hcD
    split at hcD
    · rename_i c d cd' sl ho
      cases hcD
      exact ⟨_, KX _ _ ho, rfl⟩
    · cases hcD
  refine ks_wpAt_Expr_any ?_ (hi := by show (scope.kind == .module && _) = false; rw [S.kind]; rfl)
  refine ks_wpAt_MethodCall (pl := pl) ?_ (he _)
  refine ks_wpAt_super_base (env := ksEnv qual scope s.heap.objs.size f (.ref cda) cc) (f := f) (cc := cda) S.su S.cl (by decide) rfl (KX _ _ lf) rfl hp rfl (KX _ _ lcd) rfl hvs hfile F.top ?_
  obtain ⟨mb, hb1, hb2⟩ := I.mod.blt
  refine ks_loadName_global S.kind S.su (Calls.loadGlobal_builtin (env := ksEnv qual scope s.heap.objs.size f (.ref cda) cc) (v := .type "super") (I.mod.glob.keeps I.bk) hsu (hb1.keeps I.bk) ((hb2 "super" (by decide)).trans (by decide +kernel)) ⟨rfl, ?_⟩)
  refine wpAny_loadName_free S.kind S.cl rfl ⟨_, KX _ _ lcc, rfl⟩ ?_
  rw [har]
  refine wpAny_loadName_local S.kind (S.loc _ (List.mem_of_getElem? S.self_)) hn lm ?_
  refine ks_wpAny_isType_cls hD1 hD2 ⟨rfl, ?_⟩
  refine ks_wpAny_call_super hD1 hD2 ho rfl (fun c e => by cases e) (looks_mroIn KX hCD) (fun h' e1 k1' => ?_)
  have I1 : Inv (supCx P w K mg base ps qual scope f cda cc A outer s H) [] σ H1 ⟨h', g, d, t, os⟩ := I.kept (t' := t) k1'
  have hcl : clsIn K C = some { name := nm, bases := bs, mro := .ref C :: bm, ns := N, qualname := q, hasDict := true, slotNames := sn, subclasses := sub, abstract := ab, collection := col, hasDel := false } := by unfold clsIn; rw [hC] <;> rfl
  have hal' := hal
  unfold ks_superIn at hal'
  rw [hcl] at hal'
  have IA : InstAt hh a ({ cls := .ref C, dict := none, data := .fields #[.ref t1, .none, .none, .none, .bool false, .none] } : Obj) C none := ⟨ho, rfl, rfl, trivial⟩
  have hI : Looks (model P w) h' (isInstance (.ref a) (.type "ValueError")) true := Looks.keeps (IA.type.andThen (looks_subIn KX hVE)) k1'
  refine kxs_getMethod kxs_ValueError e1 (looks_opaque I1.kIn hop) (l₀ := .ref C :: bm) ?_ rfl I1.kIn hal' hI (ks_ne KX IA hcl) (by decide) ?_
  · exact fun A Q E s k q => wpAny_bind ((looks_clsIn I1.kIn hcl) A _ E s k (wpAny_pure q))
  have I2 : Inv (supCx P w K mg base ps qual scope f cda cc A outer s H) [(h'.objs.size, kxs_mw "ValueError.__init__" a)] σ H1 ⟨h'.push (kxs_mw "ValueError.__init__" a), g, d, t + 1, os⟩ :=
    ClX.pin_new I1 (fun b o e => Heap.get?_push_of_some _ e) (Nat.le_refl _) (Heap.get?_push_size _ rfl) (fun v z => nomatch z)
  refine kxs_callWith (i := "ValueError.__init__") (x := a) (u := h'.objs.size) (by rfl) ?_
  refine Calls.evalArgs_plain ?_
  show wpAny _ _ (spliced ((false, eval (.Constant (.str msg) j p3) (supCx P w K mg base ps qual scope f cda cc A outer s H).env) :: backTo p4 (starEach [] (supCx P w K mg base ps qual scope f cda cc A outer s H).env))) _ _ _
  refine Calls.spliced_cons (wpAny_mono ((pe_str (X := supCx P w K mg base ps qual scope f cda cc A outer s H) (x := msg) (j := j) (pos := p3)).run [(h'.objs.size, kxs_mw "ValueError.__init__" a)] _ σ H1 (fun v H' => v = .str msg ∧ H' = H1) I2 ⟨rfl, rfl⟩) (fun u s2 hu => ?_) fun _ _ z => z)
  obtain ⟨v, H', I3, rv, rfl, rfl⟩ := hu
  obtain ⟨tk, rfl⟩ := rv
  refine Calls.spliced_nil ⟨ClX.pin_at I3, ?_⟩
  have hmw := ClX.pin_at I3
  have I4 := ClX.unpin I3
  obtain ⟨t2, ho2⟩ := exo_at I4.hok e
  obtain ⟨h2, g2, d2, tk2, os2⟩ := s2
  refine wpAny_call (codeAny_of_tree ?_)
  show wpAny _ _ (callAny (.ref h'.objs.size) ⟨[.str msg tk], []⟩) _ _ _
  simp only [callAny]
  refine wpAny_bind (wpAny_load hmw ?_)
  simp only [kxs_mw, show (Value.type "method-wrapper" == Value.type "method" || Value.type "method-wrapper" == Value.type "builtin_function_or_method" || Value.type "method-wrapper" == Value.type "method-wrapper") = true by decide, if_true]
  refine KFB.if_so (by decide) ?_
  refine wpAny_bind (check_bound_init PySem.F.excBase_ValueError.toExcCallFacts (I4.kIn _ _ hC) ho2 rfl ?_)
  refine wpAny_bind (wpAny_pure (wpAny_pure ?_))
  refine ⟨plainId_quiet PySem.F.excBase_ValueError.init.plain _, codeAny_builtin PySem.F.excBase_ValueError.initEntry ?_⟩
  refine exc_init_tree (cls := .ref C) (t0 := t2) (dv := none) (c2 := .none) (c3 := .none) (b4 := .bool false) ho2 (by show 1 ≤ sizeLine; decide) fun h5 k5' e5 t5 => ?_
  have J := I4.write (t' := tk2) (x := a) (e := a) (o := exo a C none) (by rw [e]; exact True.intro) (.inl rfl) k5' ⟨_, e5⟩ (exo_ok e5)
  have eu : upd H' a (exo a C none) = H' := by
    funext b
    by_cases hb : b = a
    · rw [hb, upd_same, e]
    · rw [upd_ne hb]
  rw [eu] at J
  exact hq _ J
end
end XI
namespace XI
open PySem PySem.Spec PyProof.Rows L2 PySem.W
/-- what the making of such an exception keeps: fl tells its fields by its arguments -/
def spX (C : Addr) (n : Nat) (fl : List V → List (Str × V)) : Sp := fun vs H Q _ => ∃ (a : Addr) (ws : List V), vs = .ref a :: ws ∧ ws.length = n ∧ H a = some (exo a C none) ∧ ∀ dx, H dx = none → dx ≠ a → Q .non (upd (upd H dx (exd dx (fl ws))) a (exo a C (some dx)))
/-- the facts of the class -/
structure XCls (K : PySem.W.Frag) (mg : Str → Option Value) (C D : Addr) : Prop where
  T : OexC K C
  su : mg "super" = none
  op : nsIn K cStatics "thirdparty.any" = some none
  hD : (clsIn K D).isSome = true
  CD : mroIn K C (.ref D) = some true
  al : ks_superIn K C D "__init__" = some (some (.builtin "ValueError.__init__"))
  VE : subIn K (.ref C) (.type "ValueError") = some true
section
variable {P : Program} {w : World} {K : PySem.W.Frag} {mg : Str → Option Value} {base : Heap} {qual : Str} {params : Arguments} {rest : List Stmt} {scope : Scope} {ps : List Str} {f D cda cc C : Addr} {fd : FuncData} {CX : CXT} {k n : Nat} {fl : List V → List (Str × V)}
  {pl : Sem Bool} {p0 p1 p2 p3 p4 p5 : Pos} {msg : Str} {j : Nat}
theorem fn_exc (F : SupD K P qual params (.Expr (.Call (.Attribute (.Call (.Name "super" p0) [] [] p1) "__init__" p2) [.Constant (.str msg) j p3] [] p4) p5 :: rest) scope ps f D fd cda cc) (S : SupS ps params scope) (X : XCls K mg C D) (hn : ps.length = n + 1)
    (he : ∀ L, eval (.Call (.Attribute (.Call (.Name "super" p0) [] [] p1) "__init__" p2) [.Constant (.str msg) j p3] [] p4) (ksEnv qual scope L f (.ref cda) cc) = (do
      let ov ← attributeBase (.Call (.Name "super" p0) [] [] p1) "__init__" (ksEnv qual scope L f (.ref cda) cc) (eval (.Call (.Name "super" p0) [] [] p1) (ksEnv qual scope L f (.ref cda) cc))
      standAt p2.atName
      let (fv, first) ← holding [ov] (getMethod ov "__init__" pl)
      callWith p4 fv first (backTo p4 (starEach [.Constant (.str msg) j p3] (ksEnv qual scope L f (.ref cda) cc))) []))
    (h : ∀ (A : Around) (outer : List Env) (s : Shared) (H : Hp), ∃ t, PSs (supCx P w K mg base ps qual scope f cda cc A outer s H) rest t ∧
      ∀ (vs : List V) (Q : VK) (H1 : Hp), spX C n fl vs H1 Q (fun _ _ _ => False) → t { nx := fun _ H' => Q .non H', rt := Q } (L2.start ps vs) H1) :
    FnOk P w K mg base CX (k + 1) f fd ps (spX C n fl) := by
  refine ⟨fun vs H Q E q => ?_, fun A outer s H args us vs Q E hr e0 hb r q => ?_⟩
  · obtain ⟨a, ws, rfl, hl, _⟩ := q
    rw [List.length_cons, hl, hn]
  obtain ⟨oc, dV, kV, doc, pm, ct, ccl, cl, od, an, cdd, cld, osl, ccs, csl, vs', file, tf, rfl, lf, lcd, hvs, hfile, lcc⟩ := id F.ex
  have KX : K.In s.heap := e0.mod.kin.keeps fun b o e => (e0.bs b o e).1
  have lim : s.heap.NoLimit := e0.mod.nolimit.keeps fun b o e => (e0.bs b o e).1
  have hl : vs.length = ps.length := by
    obtain ⟨a, ws, rfl, hl, _⟩ := q
    rw [List.length_cons, hl, hn]
  refine ks_codeAny_call_defAt (binds := ps.zip us) hr.depth (KX _ _ lf) rfl lim (codeRec_of KX F.cd) rfl hb S.nocell (fun y hy => S.loc _ (List.of_mem_zip hy).1) (fun h₁ hns kp => ?_) S.co S.gen S.kind
  have I := inv_sup (f := f) (cda := cda) (qual := qual) (tk := s.toks + (ps.zip us).length) S hr.hd e0 hl r lcc hns kp
  obtain ⟨t, ht, hq⟩ := h A outer s H
  have q' := hq vs Q H (by obtain ⟨a, ws, e1, e2, e3, e4⟩ := q; exact ⟨a, ws, e1, e2, e3, e4⟩)
  obtain ⟨a, ws, rfl, hw, ea, _⟩ := q
  have h0 : (L2.start ps (.ref a :: ws))[0]? = some (some (.ref a)) := rfl
  refine ks_wpAt_execs_cons (ks_wpAt_mono (sup_first F S X.T X.su X.op X.hD X.CD X.al X.VE I h0 ea (Q := fun fl' s' => fl' = .next ∧ Inv (supCx P w K mg base ps qual scope f cda cc A outer s H) [] (L2.start ps (.ref a :: ws)) H s') (fun s' I' => ⟨rfl, I'⟩) he) (fun fl' s' hz => ?_) (fun _ _ z => z.elim))
  obtain ⟨rfl, I'⟩ := hz
  refine wpAt_of_wpAny (wpAny_mono (ht.run [] s' _ H _ I' q') (fun fl'' s'' hs => ?_) fun _ _ z => z.elim)
  have fin : ∀ {σ' : L2.St} {H' : Hp} {v : V} {u : Value}, Inv (supCx P w K mg base ps qual scope f cda cc A outer s H) [] σ' H' s'' → RelV v u → Q v H' → CE outer P w H s Q u s'' :=
    fun {σ' H' v u} J rv q => ⟨v, H', J.os, J.bare, J.base, J.hok, rv, q⟩
  cases fl'' with
  | ret u =>
    obtain ⟨v, σ', H', J, rv, q⟩ := hs
    exact fin J rv q
  | next =>
    obtain ⟨σ', H', J, q⟩ := hs
    exact fin (v := V.non) (u := Value.none) J rfl q
  | brk =>
    obtain ⟨_, _, _, q⟩ := hs
    exact False.elim q
  | cont =>
    obtain ⟨_, _, _, q⟩ := hs
    exact False.elim q
end
end XI
namespace XI
open PySem PySem.Spec PyProof.Rows L2 PySem.W
section
variable {P : Program} {w : World} {K : PySem.W.Frag} {mg : Str → Option Value} {base : Heap} {qual : Str} {params : Arguments} {scope : Scope} {f D cda cc C : Addr} {fd : FuncData} {CX : CXT} {k : Nat}
  {pl : Sem Bool} {p0 p1 p2 p3 p4 p5 a1 a2 a3 a4 b1 b2 b3 b4 c1 c2 c3 c4 : Pos} {msg code f1 f2 x1 x2 : Str} {j jj : Nat}
theorem upd2 {H : Hp} {dx a : Addr} {o u v : HO} (h : dx ≠ a) : upd (upd (upd H dx o) a v) dx u = upd (upd H dx u) a v := by
  funext b
  by_cases e1 : b = dx
  · subst e1
    rw [upd_same, upd_ne h, upd_same]
  · rw [upd_ne e1]
    by_cases e2 : b = a
    · subst e2; rw [upd_same, upd_same]
    · rw [upd_ne e2, upd_ne e2, upd_ne e1, upd_ne e1]
def fl0 (code : Str) : List V → List (Str × V) := fun _ => [("code", .str code)]
def fl1 (code f1 : Str) : List V → List (Str × V)
  | [w] => [("code", .str code), (f1, w)]
  | _ => []
def fl2 (code f1 f2 : Str) : List V → List (Str × V)
  | [w, v] => [("code", .str code), (f2, v), (f1, w)]
  | _ => []
theorem fn_exc0 (F : SupD K P qual params (.Expr (.Call (.Attribute (.Call (.Name "super" p0) [] [] p1) "__init__" p2) [.Constant (.str msg) j p3] [] p4) p5 :: [.Assign [.Attribute (.Name "self" c1) "code" c2] (.Constant (.str code) jj c3) c4]) scope ["self"] f D fd cda cc) (S : SupS ["self"] params scope) (X : XCls K mg C D)  (nc : findIn K (.ref C) "code" = some none)
    (hc : ∀ L, swapsWith (.Constant (.str code) jj c3) (some (.Attribute (.Name "self" c1) "code" c2)) c4.line (ksEnv qual scope L f (.ref cda) cc) = pure false)
    (he : ∀ L, eval (.Call (.Attribute (.Call (.Name "super" p0) [] [] p1) "__init__" p2) [.Constant (.str msg) j p3] [] p4) (ksEnv qual scope L f (.ref cda) cc) = (do
      let ov ← attributeBase (.Call (.Name "super" p0) [] [] p1) "__init__" (ksEnv qual scope L f (.ref cda) cc) (eval (.Call (.Name "super" p0) [] [] p1) (ksEnv qual scope L f (.ref cda) cc))
      standAt p2.atName
      let (fv, first) ← holding [ov] (getMethod ov "__init__" pl)
      callWith p4 fv first (backTo p4 (starEach [.Constant (.str msg) j p3] (ksEnv qual scope L f (.ref cda) cc))) [])) :
    FnOk P w K mg base CX (k + 1) f fd ["self"] (spX C 0 (fl0 code)) := by
  refine fn_exc F S X rfl he fun A outer s H => ⟨_, pss_one (ps_ost (pe_var (i := 0) rfl (.inl (S.loc _ (.head _)))) pe_str (hc _)), ?_⟩
  rintro vs Q H1 ⟨a, ws, rfl, hl, ea, q⟩
  have e : ws = [] := List.eq_nil_of_length_eq_zero hl
  subst e
  exact ⟨.ref a, rfl, a, C, rfl, X.T, nc, .inl ⟨ea, fun dx h1 h2 => q dx h1 h2⟩⟩
theorem fn_exc1 (F : SupD K P qual params (.Expr (.Call (.Attribute (.Call (.Name "super" p0) [] [] p1) "__init__" p2) [.Constant (.str msg) j p3] [] p4) p5 :: [.Assign [.Attribute (.Name "self" a1) f1 a2] (.Name x1 a3) a4, .Assign [.Attribute (.Name "self" c1) "code" c2] (.Constant (.str code) jj c3) c4]) scope ["self", x1] f D fd cda cc) (S : SupS ["self", x1] params scope) (X : XCls K mg C D) (n1 : findIn K (.ref C) f1 = some none) (nc : findIn K (.ref C) "code" = some none) (d1 : (x1 == ("__debug__" : Str)) = false) (e1 : (x1 == ("__classdict__" : Str)) = false)
    (ha : ∀ L, swapsWith (.Name x1 a3) (some (.Attribute (.Name "self" a1) f1 a2)) a4.line (ksEnv qual scope L f (.ref cda) cc) = pure false) (hc : ∀ L, swapsWith (.Constant (.str code) jj c3) (some (.Attribute (.Name "self" c1) "code" c2)) c4.line (ksEnv qual scope L f (.ref cda) cc) = pure false)
    (he : ∀ L, eval (.Call (.Attribute (.Call (.Name "super" p0) [] [] p1) "__init__" p2) [.Constant (.str msg) j p3] [] p4) (ksEnv qual scope L f (.ref cda) cc) = (do
      let ov ← attributeBase (.Call (.Name "super" p0) [] [] p1) "__init__" (ksEnv qual scope L f (.ref cda) cc) (eval (.Call (.Name "super" p0) [] [] p1) (ksEnv qual scope L f (.ref cda) cc))
      standAt p2.atName
      let (fv, first) ← holding [ov] (getMethod ov "__init__" pl)
      callWith p4 fv first (backTo p4 (starEach [.Constant (.str msg) j p3] (ksEnv qual scope L f (.ref cda) cc))) [])) :
    FnOk P w K mg base CX (k + 1) f fd ["self", x1] (spX C 1 (fl1 code f1)) := by
  refine fn_exc F S X rfl he fun A outer s H => ⟨_, pss_cons (ps_ost (pe_var (i := 0) rfl (.inl (S.loc _ (.head _)))) (pe_var (i := 1) rfl (.inl (S.loc _ (.tail _ (.head _)))) d1 e1) (ha _)) (pss_one (ps_ost (pe_var (i := 0) rfl (.inl (S.loc _ (.head _)))) pe_str (hc _))), ?_⟩
  rintro vs Q H1 ⟨a, ws, rfl, hl, ea, q⟩
  obtain ⟨w, rfl⟩ : ∃ w, ws = [w] := by
    match ws, hl with
    | [w], _ => exact ⟨w, rfl⟩
  refine ⟨w, rfl, .ref a, rfl, a, C, rfl, X.T, n1, .inl ⟨ea, fun dx h1 h2 => ?_⟩⟩
  refine ⟨.ref a, rfl, a, C, rfl, X.T, nc, .inr ⟨dx, _, upd_same, by rw [upd_ne h2]; exact upd_same, by show 1 ≤ 900; decide, ?_⟩⟩
  have q2 := q dx h1 h2
  rw [← upd2 h2] at q2
  exact q2
theorem fn_exc2 (F : SupD K P qual params (.Expr (.Call (.Attribute (.Call (.Name "super" p0) [] [] p1) "__init__" p2) [.Constant (.str msg) j p3] [] p4) p5 :: [.Assign [.Attribute (.Name "self" a1) f1 a2] (.Name x1 a3) a4, .Assign [.Attribute (.Name "self" b1) f2 b2] (.Name x2 b3) b4, .Assign [.Attribute (.Name "self" c1) "code" c2] (.Constant (.str code) jj c3) c4]) scope ["self", x1, x2] f D fd cda cc) (S : SupS ["self", x1, x2] params scope) (X : XCls K mg C D) (n1 : findIn K (.ref C) f1 = some none) (n2 : findIn K (.ref C) f2 = some none) (nc : findIn K (.ref C) "code" = some none) (d1 : (x1 == ("__debug__" : Str)) = false) (e1 : (x1 == ("__classdict__" : Str)) = false) (d2 : (x2 == ("__debug__" : Str)) = false) (e2 : (x2 == ("__classdict__" : Str)) = false)
    (ha : ∀ L, swapsWith (.Name x1 a3) (some (.Attribute (.Name "self" a1) f1 a2)) a4.line (ksEnv qual scope L f (.ref cda) cc) = pure false) (hb : ∀ L, swapsWith (.Name x2 b3) (some (.Attribute (.Name "self" b1) f2 b2)) b4.line (ksEnv qual scope L f (.ref cda) cc) = pure false) (hc : ∀ L, swapsWith (.Constant (.str code) jj c3) (some (.Attribute (.Name "self" c1) "code" c2)) c4.line (ksEnv qual scope L f (.ref cda) cc) = pure false)
    (he : ∀ L, eval (.Call (.Attribute (.Call (.Name "super" p0) [] [] p1) "__init__" p2) [.Constant (.str msg) j p3] [] p4) (ksEnv qual scope L f (.ref cda) cc) = (do
      let ov ← attributeBase (.Call (.Name "super" p0) [] [] p1) "__init__" (ksEnv qual scope L f (.ref cda) cc) (eval (.Call (.Name "super" p0) [] [] p1) (ksEnv qual scope L f (.ref cda) cc))
      standAt p2.atName
      let (fv, first) ← holding [ov] (getMethod ov "__init__" pl)
      callWith p4 fv first (backTo p4 (starEach [.Constant (.str msg) j p3] (ksEnv qual scope L f (.ref cda) cc))) [])) :
    FnOk P w K mg base CX (k + 1) f fd ["self", x1, x2] (spX C 2 (fl2 code f1 f2)) := by
  refine fn_exc F S X rfl he fun A outer s H => ⟨_, pss_cons (ps_ost (pe_var (i := 0) rfl (.inl (S.loc _ (.head _)))) (pe_var (i := 1) rfl (.inl (S.loc _ (.tail _ (.head _)))) d1 e1) (ha _)) (pss_cons (ps_ost (pe_var (i := 0) rfl (.inl (S.loc _ (.head _)))) (pe_var (i := 2) rfl (.inl (S.loc _ (.tail _ (.tail _ (.head _))))) d2 e2) (hb _)) (pss_one (ps_ost (pe_var (i := 0) rfl (.inl (S.loc _ (.head _)))) pe_str (hc _)))), ?_⟩
  rintro vs Q H1 ⟨a, ws, rfl, hl, ea, q⟩
  obtain ⟨w, v, rfl⟩ : ∃ w v, ws = [w, v] := by
    match ws, hl with
    | [w, v], _ => exact ⟨w, v, rfl⟩
  refine ⟨w, rfl, .ref a, rfl, a, C, rfl, X.T, n1, .inl ⟨ea, fun dx h1 h2 => ?_⟩⟩
  refine ⟨v, rfl, .ref a, rfl, a, C, rfl, X.T, n2, .inr ⟨dx, _, upd_same, by rw [upd_ne h2]; exact upd_same, by show 1 ≤ 900; decide, ?_⟩⟩
  rw [upd2 h2]
  refine ⟨.ref a, rfl, a, C, rfl, X.T, nc, .inr ⟨dx, _, upd_same, by rw [upd_ne h2]; exact upd_same, by show 2 ≤ 900; decide, ?_⟩⟩
  have q2 := q dx h1 h2
  rw [← upd2 h2] at q2
  exact q2
end
end XI
set_option Elab.async false
set_option linter.all false
set_option maxRecDepth 100000
set_option maxHeartbeats 2000000
namespace DL
open PySem PySem.Spec PyProof.Rows L2
theorem Step.free {K : PySem.W.Frag} {s t : Sta} {p : Addr} (st : Step s t) (os : Ok K s) (ot : Ok K t) (h : t.H p = none) : s.H p = none := by
  cases e : s.H p with
  | none => rfl
  | some o =>
    exfalso
    cases eg : s.G p with
    | some u =>
      have := ot.sub p u (st.same p u eg)
      rw [h] at this
      cases this
    | none =>
      cases em : s.M p with
      | none =>
        have := (st.hid p o e eg em).1
        rw [h] at this
        cases this
      | some mo =>
        obtain ⟨m2, e2⟩ := Option.isSome_iff_exists.mp (st.dom p (by rw [em]; rfl))
        obtain ⟨u, e3⟩ := (ot.cells p m2 e2).some
        rw [h] at e3
        cases e3
/-- nothing leaves: every context lets it pass -/
theorem passes_no {P : Program} {w : World} {X : Cx} : Passes (L2.CX P w) X (fun _ _ _ => False) := fun _ _ _ _ _ _ _ h => by
  obtain ⟨_, _, _, _, _, _, _, _, _, _, _, _, z⟩ := h
  exact z.elim
/-- raise C(e, ..) -/
def dRaise (C : Addr) (n : Nat) (flD : List D → List (Str × D)) (α : DA) : DS := fun _ x ρ M => α ρ M (fun ds M1 => ds.length = n ∧ x C (flD ds) M1) x
theorem post_exc {K : PySem.W.Frag} {E : XK} {s s1 : Sta} {x : DX} {C dx : Addr} {fs : List (Str × D)} {fvs : List (Str × V)} (px : PostX K E s x) (os : Ok K s) (st : Step s s1) (ok : Ok K s1) (hx : x C fs s1.M) (hd : s1.H dx = none) (r : FRep K s1.G fvs fs) : E (.ref C) (some dx) (upd s1.H dx (.xd fvs)) := by
  obtain ⟨o2, st2⟩ := ok.hide (o := .xd fvs) st (st.free os ok hd) (ok.freeG hd) (ok.freeM hd)
  exact px C fs ⟨upd s1.H dx (.xd fvs), s1.G, s1.M⟩ hx st2 o2 dx fvs upd_same (ok.freeG hd) (ok.freeM hd) (fun ⟨o, z, _⟩ => by rw [st.free os ok hd] at z; cases z) r
section
variable {X : Cx} {E : XK} {e o : Expr} {es : List Expr} {αa : DA} {τo : DE} {x : Str} {C fI : Addr} {k n : Nat} {fd : FuncData} {ps : List Str} {fl : List V → List (Str × V)} {flD : List D → List (Str × D)} {p pos pos' : Pos}
theorem heap_exc {H : Hp} {a dx : Addr} {u v w : HO} {z : HO} (ha : H a = none) (hne : dx ≠ a) : upd (del (upd (upd (upd H a u) dx v) a w) a) dx z = upd H dx z := by
  funext b
  by_cases e1 : b = dx
  · rw [e1, upd_same, upd_same]
  · rw [upd_ne e1, upd_ne e1]
    by_cases e2 : b = a
    · rw [e2, del_same, ha]
    · rw [del_ne e2, upd_ne e2, upd_ne e1, upd_ne e2]
theorem s_raise (hc : X.calm = true) (tk : Takes X (fun cls d _ H' => E cls d H')) (T : OexC X.K C) (iC : PySem.W.findIn X.K (.ref C) "__init__" = some (some (.ref fI))) (tI : PySem.W.typeIn X.K (.ref fI) = some (.type "function"))
    (F1 : FnOk X.prog X.w X.K X.mg X.base (L2.CX X.prog X.w) k fI fd ps (XI.spX C n fl)) (hfl : ∀ {G : Hp} {vs : List V} {ds : List D}, Reps X.K G vs ds → ds.length = n → FRep X.K G (fl vs) (flD ds)) (hr : Room (k + 1) X.A) (hb : Binds X.K fd ps []) (hn : n ≤ 1000)
    (hg : Gl X x) (hm : X.mg x = some (.ref C)) (ha : DPA X E (e :: es) αa) (hdb : (x == ("__debug__" : Str)) = false := by decide) (he : starEach (e :: es) X.env = (false, eval e X.env) :: starEach es X.env := by rfl) (hpl : (backTo pos (starEach es X.env)).any (·.1) = false := by rfl) :
    DPS X E (.Raise (some (.Call (.Name x p) (e :: es) [] pos)) none pos') (dRaise C n flD αa) :=
  ps_mono (ps_raise hc tk (pmk_oex T iC tI F1 hr hb .nil passes_no hg hm ha hdb he hpl)) fun D σ H h => by
    obtain ⟨ρ, s, kk, xx, rfl, er, q, pp, px⟩ := h
    refine ⟨ρ, s, _, xx, rfl, er, q, fun ds s1 q1 st1 ok1 vs r1 => ?_, px⟩
    obtain ⟨hl, q1⟩ := q1
    refine ⟨by rw [r1.length, hl]; exact hn, fun a ha => ?_⟩
    refine ⟨a, vs ++ [], rfl, by rw [List.append_nil, r1.length, hl], upd_same, fun dx hdx hne => ?_⟩
    rw [upd_ne hne] at hdx
    refine ⟨rfl, dx, fl (vs ++ []), upd_same, by rw [upd_ne hne, upd_same], hdx, ?_⟩
    rw [heap_exc ha hne, List.append_nil]
    exact post_exc px er.ok st1 ok1 q1 hdx (hfl r1 hl)
end
def fd1 (code f1 : Str) : List D → List (Str × D)
  | [d] => [("code", .str code), (f1, d)]
  | _ => []
def fd2 (code f1 f2 : Str) : List D → List (Str × D)
  | [d, u] => [("code", .str code), (f2, u), (f1, d)]
  | _ => []
def fd0 (code : Str) : List D → List (Str × D) := fun _ => [("code", .str code)]
theorem fr0 {K : PySem.W.Frag} {code : Str} {G : Hp} {vs : List V} {ds : List D} (_ : Reps K G vs ds) (_ : ds.length = 0) : FRep K G (XI.fl0 code vs) (fd0 code ds) := .cons .str .nil
theorem fr1 {K : PySem.W.Frag} {code f1 : Str} {G : Hp} {vs : List V} {ds : List D} (h : Reps K G vs ds) (hl : ds.length = 1) : FRep K G (XI.fl1 code f1 vs) (fd1 code f1 ds) := by
  obtain ⟨d, rfl⟩ := List.length_eq_one_iff.mp hl
  obtain ⟨x, rfl, r⟩ := h.one
  exact .cons .str (.cons r .nil)
theorem fr2 {K : PySem.W.Frag} {code f1 f2 : Str} {G : Hp} {vs : List V} {ds : List D} (h : Reps K G vs ds) (hl : ds.length = 2) : FRep K G (XI.fl2 code f1 f2 vs) (fd2 code f1 f2 ds) := by
  match ds, hl with
  | [d, u], _ =>
    obtain ⟨x, y, rfl, r1, r2⟩ := h.two
    exact .cons .str (.cons r2 (.cons r1 .nil))
end DL
set_option Elab.async false
set_option linter.all false
set_option maxRecDepth 100000
set_option maxHeartbeats 2000000
namespace DL
open PySem PySem.Spec PyProof.Rows L2
/-! ### an attribute of the caught exception -/
section
variable {X : Cx} {E : XK} {e o : Expr} {τo : DE} {pos : Pos}
def dXf (a dd : Addr) (n : Str) (τ : DE) : DE := fun ρ M k x => τ ρ M (fun u M1 => ∃ fs v, u = .exc a dd fs ∧ fs.lookup n = some v ∧ k v M1) x
theorem d_xf {a C dd : Addr} {oe : Obj} {n : Str} (T : XfC X.K C) (hno : PySem.W.findIn X.K (.ref C) n = some none) (hp : (a, oe) ∈ X.pn) (hz : Zc (.ref C) (some dd) oe) (hf : ∃ vs, oe.data = .fields vs) (he : DP X E e τo)
    (hb : attributeBase e n X.env (eval e X.env) = eval e X.env := by rfl) : DP X E (.Attribute e n pos) (dXf a dd n τo) := by
  refine ⟨fun pins s σ H Q I h => ?_⟩
  obtain ⟨ρ, s0, kk, xx, rfl, er, q, pp, px⟩ := h
  refine attr_of hb (thn (he.run pins s σ s0.H (fun v H1 => ∃ s1 d, s1.H = H1 ∧ Ok X.K s1 ∧ Step s0 s1 ∧ Rep X.K s1.G v d ∧ ∃ fs w, d = .exc a dd fs ∧ fs.lookup n = some w ∧ kk w s1.M) I
    ⟨ρ, s0, _, xx, rfl, er, q, fun d s1 q1 st1 ok1 v1 r1 => ⟨s1, d, rfl, ok1, st1, r1, q1⟩, px⟩) fun u s1 ⟨v, H1, I1, rv, sa, d, e1, oka, sta, ra, fs, w, ed, hl, q1⟩ => ?_)
  subst e1
  subst ed
  cases ra with
  | @exc _ _ fvs _ h r =>
  obtain rfl : u = Value.ref a := rv
  obtain ⟨wv, hl2, rw2⟩ := r.get hl
  have hobj : ObjOk X.prog X.w sa.H s1.heap dd (.xd fvs) := I1.hok dd _ (oka.sub _ _ h)
  obtain ⟨mA, hns, hrel⟩ := hobj
  obtain ⟨od, hod, hlk⟩ := lookIn_ns hns
  obtain ⟨uv, hu, ru⟩ := RelO.some_of (v := wv) (o := mA n) (by have := hrel n; rw [hl2] at this; exact this)
  obtain ⟨vs, hvs⟩ := hf
  have at_ : PySem.W.InstAt s1.heap a oe C (some od) := ⟨(I1.pin (a, oe) (List.mem_append_left _ hp)).1, hz.1, by unfold PySem.W.notCls; rw [hvs] <;> rfl, by rw [hz.2]; exact hod⟩
  exact HandSPX.exc_get I1.kIn at_ T.ga T.gg T.exC (PySem.W.findObj_own T.hdC hno rfl (by rw [hlk, hu])) (handed_of ru) ⟨wv, sa.H, I1.tok _, ru, (pp.step sta).now q1 oka rw2⟩
end
/-! ### a def called while an exception is handled -/
/-- its promise; p: the exception -/
structure FnP (P : Program) (w : World) (K : PySem.W.Frag) (mg : Str → Option Value) (base : Heap) (f : Addr) (fd : FuncData) (ps : List Str) (sp : Addr × Obj → Sp) : Prop where
  len : ∀ p vs H Q E, sp p vs H Q E → vs.length = ps.length
  run : ∀ (A : Around) (outer : List Env) (s : Shared) (H : Hp) (args : Args) (us : List Value) (vs : List V) (Q : VK) (E : XK) (p : Addr × Obj), L2H.RoomH 1 A → L2H.PinOk outer H s p → Env0 P w K mg base A outer s H → BindsTo s fd args (ps.zip us) → Vals vs us → sp p vs H Q E →
    codeAny (model P w) A (.call (.ref f) args) (CR (L2.CX P w) outer P w H s Q E) s
/-- the exception's class and dict, its fields by data -/
def spE (K : PySem.W.Frag) (Good : Addr → Prop) (φ : Addr → Addr → Ct) : Addr × Obj → Sp := fun p vs H Q E => ∃ C dd, Good C ∧ Zc (.ref C) (some dd) p.2 ∧ (∃ ws, p.2.data = .fields ws) ∧ spD K 1 (φ p.1 dd) vs H Q E
section
variable {P : Program} {w : World} {K : PySem.W.Frag} {mg : Str → Option Value} {base : Heap}
theorem fn_P {x qual : Str} {params : Arguments} {body : List Stmt} {scope : Scope} {f : Addr} {fd : FuncData} {N : List Str} {y : Str} {Good : Addr → Prop} {φ : Addr → Addr → Ct} (F : FunD K x qual params body scope [] [] f fd) (S : FnScope N [y] scope)
    (h : ∀ (cdv : Value) (A : Around) (outer : List Env) (s : Shared) (H : Hp) (E : XK) (a : Addr) (oe : Obj) (C dd : Addr), Good C → Zc (.ref C) (some dd) oe → (∃ ws, oe.data = .fields ws) → (A.deeper (envOfC qual scope s.heap.objs.size f cdv)).units + 64 < cLine →
      ∃ τ, DPB (L2H.cxH (L2.CX P w) P w K mg base N qual scope f cdv A outer s H E (a, oe)) E body τ ∧
        ∀ (ds : List D) (M : Mm) (kk : DK) (x : DX), ds.length = 1 → φ a dd ds M kk x → τ { nx := fun _ M => kk .non M, rt := kk, m0 := M } x (startD N ds) M) : FnP P w K mg base f fd [y] (spE K Good φ) := by
  obtain ⟨oc, od, dV, kV, doc, pm, an, cdv, ct, osl, rfl, lk, hcd, _, _⟩ := F.ex
  refine ⟨fun p vs H Q E ⟨C, dd, _, _, _, q⟩ => spD_len q, fun A outer s H args us vs Q E p hr hpin e0 hb r hsp => ?_⟩
  obtain ⟨C, dd, hgood, hz, hws, hq⟩ := hsp
  have KX : K.In s.heap := e0.mod.kin.keeps fun b o e => (e0.bs b o e).1
  have hkind : ∀ z ∈ [y].zip us, scope.names.lookup z.1 = some .local ∨ (scope.names.lookup z.1 = some .cell ∧ ((cellsFrom (s.heap.objs.size + 1) scope.names []).lookup z.1).isSome = true) := by
    rintro ⟨n, v⟩ hz
    have hm := (List.of_mem_zip hz).1
    rcases S.par n hm with q | q
    · exact Or.inl q
    · exact Or.inr ⟨q, PySem.W.cellsFrom_some _ _ _ (Or.inl q)⟩
  refine codeAny_call_function hr.depth (KX _ _ lk) rfl S.co S.gen rfl (PySem.W.codeRec_of KX hcd) (hb _ _ _ _ ?_)
  refine wpAny_newFunctionEnv_cells S.kind hkind fun env henv s1 hin => ?_
  subst henv
  have nolim : s.heap.NoLimit := e0.mod.nolimit.keeps fun b o e => (e0.bs b o e).1
  refine ⟨nolim.keeps hin.toInCall.keep, codeAny_func ?_⟩
  obtain ⟨τ, ht, hτ⟩ := h cdv A outer s H E p.1 p.2 C dd hgood hz hws (by have := hr.un; show A.units + 3 + 64 < _; omega)
  have J : Inv (L2H.cxH (L2.CX P w) P w K mg base N qual scope f cdv A outer s H E p) [] (L2.start N vs) H s1 := L2H.inv_startH S hpin e0 (spD_len hq) r hin
  obtain ⟨s0, ds, kk, xx, rfl, o, rr, hl, hf, pp, px⟩ := hq
  have up0 : upS K E τ { nx := fun _ H' => Q .non H', rt := Q } (L2.start N vs) s0.H :=
    ⟨_, s0, _, xx, rfl, er_start o rr, hτ ds s0.M kk xx hl hf, ⟨fun ρ t q st σ er => pp _ t q st er.ok _ .non, ⟨s0, Step.refl s0, o, rfl, pp⟩, fun _ _ z => z.elim, fun _ _ z => z.elim⟩, px⟩
  refine wpAny_mono (ht.run [] s1 _ _ _ J up0) (fun fl s2 hs => ?_) fun e s2 hs => hs
  match fl, hs with
  | .ret u, hs =>
    obtain ⟨v, σ', H', J', rv, q⟩ := hs
    exact ⟨v, H', J'.os, J'.bare, J'.base, J'.hok, rv, q⟩
  | .next, hs =>
    obtain ⟨σ', H', J', q⟩ := hs
    exact ⟨V.non, H', J'.os, J'.bare, J'.base, J'.hok, rfl, q⟩
  | .brk, hs => exact hs.elim fun _ h => h.elim fun _ h => h.2.elim
  | .cont, hs => exact hs.elim fun _ h => h.elim fun _ h => h.2.elim
end
/-- x(e), e the handled exception -/
def dCallP (φ : Ct) (τ : DE) : DE := fun ρ M k x => dCons τ dNil ρ M (fun ds M1 => ds.length = 1 ∧ φ ds M1 k x) x
section
variable {X : Cx} {E : XK} {e : Expr} {τo : DE} {pos q : Pos} {f : Addr} {fd : FuncData} {y x : Str} {Good : Addr → Prop} {φ : Addr → Addr → Ct}
theorem d_callP {a C dd : Addr} {oe : Obj} (F : FnP X.prog X.w X.K X.mg X.base f fd [y] (spE X.K Good φ)) (hr : L2H.RoomH 1 X.A) (hp : (a, oe) ∈ X.pn) (hG : Good C) (hz : Zc (.ref C) (some dd) oe) (hf : ∃ vs, oe.data = .fields vs) (hg : Gl X x) (hm : X.mg x = some (.ref f)) (hk : PySem.W.keepIn X.K (.ref f) = true) (hb : Binds X.K fd [y] [])
    (hx : Passes (L2.CX X.prog X.w) X E) (he : DP X E e τo) (hdb : (x == ("__debug__" : Str)) = false := by decide) (hs : starEach [e] X.env = (false, eval e X.env) :: starEach [] X.env := by rfl) (hpl : (backTo pos (starEach [] X.env)).any (·.1) = false := by rfl) :
    DP X E (.Call (.Name x q) [e] [] pos) (dCallP (φ a dd) τo) := by
  refine ⟨fun pins s σ H Q I h => ?_⟩
  obtain ⟨ρ, s0, kk, xx, rfl, er, q, pp, px⟩ := h
  have ha : DPA X E [e] (dCons τo dNil) := a_cons he a_nil hs
  refine wpAny_Call_Name_kw (ld_glob I hg hm ?_ hdb)
  refine PySem.W.callWith_K (h₀ := X.base) I.ok.mod.kin hk (thn (ha.run pos pins s σ s0.H (fun vs H1 => ∃ s1 ds, s1.H = H1 ∧ Ok X.K s1 ∧ Step s0 s1 ∧ Reps X.K s1.G vs ds ∧ ds.length = 1 ∧ φ a dd ds s1.M kk xx) I
    ⟨ρ, s0, _, xx, rfl, er, q, fun ds s1 q1 st1 ok1 vs r1 => ⟨s1, ds, rfl, ok1, st1, r1, q1⟩, px⟩) fun us s1 ⟨vs, H1, I1, r, s2, ds, e2, ok2, st2, r2, l2, q2⟩ => ⟨I1.kIn, ?_⟩) hs hpl
  subst e2
  have hl : us.length = 1 := by rw [← r.length, r2.length, l2]
  have bb := hb s1 us I1.kIn (by rw [List.append_nil]; exact hl)
  rw [List.append_nil] at bb
  obtain ⟨p1, p2, p3, p4, p5⟩ := I1.pin (a, oe) (List.mem_append_left _ hp)
  have pin : L2H.PinOk X.stack s2.H s1 (a, oe) := ⟨p1, p2, fun hm => (List.mem_cons.mp (I1.stkSub a hm)).elim p3 p4, p5⟩
  have sp : spE X.K Good φ (a, oe) vs s2.H Q E := ⟨C, dd, hG, hz, hf, s2, ds, kk, xx, rfl, ok2, r2, l2, q2, pp.step st2, px.step st2⟩
  refine wpAny_call (codeAny_mono (F.run X.A X.stack s1 s2.H ⟨us, []⟩ us vs Q E (a, oe) hr pin I1.env0 bb r sp) fun res s' hq => ?_)
  match res, hq with
  | .error e, hq => exact hx pins σ s2.H s1 e s' I1 hq
  | .ok (.ret u), hq => exact I1.after hq
  | .ok .next, hq => exact hq.elim
  | .ok .brk, hq => exact hq.elim
  | .ok .cont, hq => exact hq.elim
end
end DL
set_option Elab.async false
set_option linter.all false
set_option maxRecDepth 100000
set_option maxHeartbeats 2000000
namespace DL
open PySem PySem.Spec PyProof.Rows L2
theorem fly_keeps {B h h' : Heap} {l : List Env} {a : Addr} {Z : Obj → Prop} (x : HandSPX.FlyingZ B l a Z h) (k : ∀ b o, h.get? b = some o → h'.get? b = some o) : HandSPX.FlyingZ B l a Z h' := by
  obtain ⟨f1, f2, f3, oe, vs, T, oT, ts, he, hz, hd, h1, h2, h3, hT, hdT, h4⟩ := x
  exact ⟨fun b o q => k b o (f1 b o q), f2, f3.of_keeps fun b o q _ => ⟨o, k b o q, rfl⟩, ⟨oe, vs, T, oT, ts, k _ _ he, hz, hd, h1, h2, h3, k _ _ hT, hdT, h4⟩⟩
/-- what the clause 'except (x, y, z) as n' wishes of an exception of the body; it takes it -/
def wT (K : PySem.W.Frag) (cs : List Value) (i nn : Nat) (ts : Addr → Value → Option Addr → TS) (D : Ends) : WX := fun cls d σ H =>
  PySem.W.exmAny K cls cs = some true ∧ (σ.length = nn → ∀ a, H a = none → ts a cls d { nx := fun σ' H' => D.nx (σ'.set i none) H', rt := D.rt, bk := fun σ' H' => D.bk (σ'.set i none) H', ct := fun σ' H' => D.ct (σ'.set i none) H' } (σ.set i (some (.ref a))) H)
section
variable {X : Cx} {x1 x2 x3 n : Str} {c1 c2 c3 : Value} {i kk : Nat} {body suite : List Stmt} {b₀ : Stmt} {q1 q2 q3 tp pos pos' : Pos} {tb : WX → TS} {ts : Addr → Value → Option Addr → TS}
theorem ps_try3 (hs : X.stack = X.env :: X.outer) (hf : X.env.frame = some X.env.locals) (hN : X.N.Nodup) (hi : X.N[i]? = some n) (hln : X.env.kindOf n = some .local) (g1 : Gl X x1) (m1 : X.mg x1 = some c1) (g2 : Gl X x2) (m2 : X.mg x2 = some c2) (g3 : Gl X x3) (m3 : X.mg x3 = some c3)
    (hb : ∀ (W : WX) (pn : List (Addr × Obj)) (xe : Value → Shared → Prop), Takes (X.tr pn xe) W → PSs (X.tr pn xe) body (tb W))
    (hsu : ∀ (a : Addr) (oe : Obj) (cls : Value) (d : Option Addr) (pn : List (Addr × Obj)), Zc cls d oe → (∃ vs, oe.data = .fields vs) → PSs (X.suite a ((a, oe) :: pn)) (b₀ :: suite) (ts a cls d))
    (d1 : (x1 == ("__debug__" : Str)) = false := by decide) (d2 : (x2 == ("__debug__" : Str)) = false := by decide) (d3 : (x3 == ("__debug__" : Str)) = false := by decide) :
    PS X (.Try body [.ExceptHandler (some (.Tuple [.Name x1 q1, .Name x2 q2, .Name x3 q3] kk tp)) (some n) (b₀ :: suite) pos'] [] [] pos) (fun D σ H => tb (wT X.K [c1, c2, c3] i X.N.length ts D) D σ H) := by
  refine ⟨fun pins s σ H D I h => ?_⟩
  have okX := I.ok
  have frames : X.A.frames = some (X.env :: X.outer) := by rw [okX.frames, hs]
  let caught : Value → Shared → Prop := fun e s₁ => wpAny (model X.prog X.w) X.A (noteFrame e X.env) (fun _ s₂ => wpAny (model X.prog X.w) X.A (setFlight e none) (fun _ s₃ =>
    wpAny (model X.prog X.w) X.A (handleBy e X.env [.ExceptHandler (some (.Tuple [.Name x1 q1, .Name x2 q2, .Name x3 q3] kk tp)) (some n) (b₀ :: suite) pos']) (SP X pins D) X.xe s₃) X.xe s₂) X.xe s₁
  have tk : Takes (X.tr (X.pn ++ pins) caught) (wT X.K [c1, c2, c3] i X.N.length ts D) := by
    intro u s' xx
    obtain ⟨a, B, sI, pins', σ1, H1, cls, d, rfl, J', nb, up, sky, na, os, ag, hm, hw⟩ := xx
    have J : Inv X pins σ1 H1 sI := J'.ofTry okX
    have hw := hw J.len
    have sky' : Sky B (X.env :: X.outer) a (Zc cls d) X.env.locals s'.heap := by rw [← hs]; exact sky
    show wpAny (model X.prog X.w) X.A (noteFrame (.ref a) X.env) _ _ _
    refine Sky.land Zc.steady frames hf sky' fun h3 fl up3 => ?_
    have outside : ∀ {h : Heap} {o : Obj} {vs : Array Value}, h.FunFrames B (X.env :: X.outer) → h.get? a = some o → o.data = .fields vs → a ∉ frs (X.env :: X.outer) := by
      intro h o vs ff e dd hm
      obtain ⟨_, o2, e2, nf⟩ := ff.mem hm
      rw [e] at e2
      cases e2
      exact nf _ dd
    obtain ⟨oe, vs, he, hz, hd⟩ := fl.there
    have out := outside fl.2.2.1 he hd
    have noL : a ≠ X.env.locals := fun z => out (List.mem_filterMap.mpr ⟨X.env, List.mem_cons_self, by rw [hf, z]⟩)
    have noF : a ∉ X.fs := by
      intro hm
      obtain ⟨e2, he2, q⟩ := List.mem_filterMap.mp hm
      exact out (List.mem_filterMap.mpr ⟨e2, List.mem_cons_of_mem _ he2, q⟩)
    have J3 : Inv X pins σ1 H1 { s' with heap := h3 } := J.landed nb fl.1 (up.trans up3) os ag
    have S3 := J3.suite he hd na noL noF
    refine wpAny_handleBy_cons (codeAny_handlers_test ?_) (by intro q; cases q)
    refine wpAny_Tuple ?_
    refine wpAny_items_cons (ld_glob (X := X.suite a ((a, oe) :: (X.pn ++ pins))) S3 g1 m1 ?_ d1)
    refine wpAny_items_cons (ld_glob (X := X.suite a ((a, oe) :: (X.pn ++ pins))) S3 g2 m2 ?_ d2)
    refine wpAny_items_cons (ld_glob (X := X.suite a ((a, oe) :: (X.pn ++ pins))) S3 g3 m3 ?_ d3)
    refine wpAny_items_nil ⟨by size_fits, ?_⟩
    have grow : ∀ b o, h3.get? b = some o → (h3.push { cls := .type "tuple", data := .seq [c1, c2, c3].toArray }).get? b = some o := fun _ _ z => Heap.get?_push_of_some _ z
    have ty : PySem.W.Looks (model X.prog X.w) h3 (typeOf (.ref a)) cls := fun A Q E s k q => wpAny_typeOf_ref (k _ _ he) (by rw [hz.1]; exact q)
    refine (PySem.W.exm_tup3 (J3.kIn.keeps grow) (ty.keeps grow) (Heap.get?_push_size h3 rfl) hm).here ?_
    refine codeAny_handlers_suite_as ?_
    refine HandSPX.lands_againZ (fly_keeps fl grow) fun h4 fl4 up4 => ?_
    have J4 : Inv X pins σ1 H1 { s' with heap := h4 } := J.landed nb fl4.1 (((up.trans up3).trans (Heap.UpToSlots.of_keeps grow)).trans up4) os ag
    obtain ⟨oe4, vs4, he4, hz4, hd4⟩ := fl4.there
    have S4 := J4.suite he4 hd4 na noL noF
    refine store_ok (X := X.suite a ((a, oe4) :: (X.pn ++ pins))) (v := .ref a) S4 hN hi (.inl hln) rfl (fun s5 S5 => ?_) (.inr hln)
    refine wpAny_mono ((hsu a oe4 cls d (X.pn ++ pins) hz4 ⟨_, hd4⟩).run [] s5 _ H1 _ S5 (hw a na)) (fun fl s6 hsp => ?_) (fun _ _ z => False.elim z)
    have gone : ∀ {σ6 : L2.St} {H6 : Hp} {Q : Shared → Prop}, Inv (X.suite a ((a, oe4) :: (X.pn ++ pins))) [] σ6 H6 s6 → (∀ s7, Inv X pins (σ6.set i none) H6 s7 → Q s7) →
        wpAny (model X.prog X.w) X.A (do bindName X.env n .none; unbindBehindTheSuite X.env n pos') (fun _ s7 => Q s7) X.xe s6 := fun S6 hq => gone_ok (S6.unsuite okX) hN hi hln hq
    match fl, hsp with
    | .next, ⟨_, _, S6, q6⟩ => exact gone S6 fun s7 J7 => ⟨_, _, J7, q6⟩
    | .brk, ⟨_, _, S6, q6⟩ => exact gone S6 fun s7 J7 => ⟨_, _, J7, q6⟩
    | .cont, ⟨_, _, S6, q6⟩ => exact gone S6 fun s7 J7 => ⟨_, _, J7, q6⟩
    | .ret u, ⟨_, _, _, S6, r6, q6⟩ => exact gone S6 fun s7 J7 => ⟨_, _, _, J7, r6, q6⟩
  refine wpAny_Try_except (wpAny_mono ((hb _ (X.pn ++ pins) caught tk).run [] s σ H D (I.toTry _) h) (fun fl s1 hsp => ?_) fun e s1 he => he)
  match fl, hsp with
  | .next, ⟨σ', H', J', q⟩ => exact wpAny_execs_nil ⟨σ', H', J'.ofTry okX, q⟩
  | .brk, ⟨σ', H', J', q⟩ => exact ⟨σ', H', J'.ofTry okX, q⟩
  | .cont, ⟨σ', H', J', q⟩ => exact ⟨σ', H', J'.ofTry okX, q⟩
  | .ret u, ⟨v, σ', H', J', r, q⟩ => exact ⟨v, σ', H', J'.ofTry okX, r, q⟩
end
end DL
set_option Elab.async false
set_option linter.all false
set_option maxRecDepth 100000
set_option maxHeartbeats 2000000
namespace DL
open PySem PySem.Spec PyProof.Rows L2
/-- a table of code objects grows by one -/
theorem Ok.table {K : PySem.W.Frag} {s : Sta} {P c : Addr} {q : Str} {ps' : Array Value} (k : Ok K s) (hM : s.M P = some (.tbl q)) (hc : s.H c = none) (ht : TriplesOk ps'.toList)
    (ha : ∀ (pos : Pos) (cv : Value), codeAmong pos ps'.toList = some cv → cv = .ref c ∨ ∃ c0, cv = .ref c0 ∧ s.G c0 = some (LamX.CodeO c0 q)) :
    Ok K ⟨upd (upd s.H P (.tbl ps')) c (LamX.CodeO c q), upd s.G c (LamX.CodeO c q), s.M⟩ ∧ Step s ⟨upd (upd s.H P (.tbl ps')) c (LamX.CodeO c q), upd s.G c (LamX.CodeO c q), s.M⟩ := by
  obtain ⟨ps, eP, _, _⟩ := k.cells P _ hM
  have nPc : P ≠ c := ne_of_none eP hc
  have gP : s.G P = none := k.apart P _ hM
  have gc : s.G c = none := k.freeG hc
  have mc : s.M c = none := k.freeM hc
  refine ⟨⟨fun b u e => ?_, fun a mo e => ?_, fun a mo e => ?_⟩, ⟨same_new gc, fun _ x => x, fun a u h1 h2 h3 => ?_⟩⟩
  · have e' : upd s.G c (LamX.CodeO c q) b = some u := e
    show upd (upd s.H P (.tbl ps')) c (LamX.CodeO c q) b = some u
    by_cases eb : b = c
    · subst eb
      rw [upd_same] at e' ⊢
      exact e'
    · rw [upd_ne eb] at e' ⊢
      rw [upd_ne (ne_of_none e' gP)]
      exact k.sub b u e'
  · have ne : a ≠ c := fun z => by rw [z, mc] at e; cases e
    show upd s.G c _ a = none
    rw [upd_ne ne]
    exact k.apart a mo e
  · have ne : a ≠ c := fun z => by rw [z, mc] at e; cases e
    show MRep K (upd s.G c _) (upd (upd s.H P (.tbl ps')) c _ a) mo
    rw [upd_ne ne]
    by_cases eP2 : a = P
    · subst eP2
      have e2 : s.M a = some mo := e
      rw [hM] at e2
      cases e2
      rw [upd_same]
      refine ⟨ps', rfl, ht, fun pos cv hcv => ?_⟩
      rcases ha pos cv hcv with z | ⟨c0, z1, z2⟩
      · exact ⟨c, z, upd_same⟩
      · exact ⟨c0, z1, same_new gc _ _ z2⟩
    · rw [upd_ne eP2]
      exact (k.cells a mo e).same (same_new gc)
  · have ne : a ≠ c := ne_of_none h1 hc
    have nP : a ≠ P := fun z => by rw [z, hM] at h3; cases h3
    exact ⟨by show upd (upd s.H P _) c _ a = _; rw [upd_ne ne, upd_ne nP]; exact h1, by show upd s.G c _ a = _; rw [upd_ne ne]; exact h2, h3⟩
section
variable {X : Cx} {pins : List (Addr × Obj)} {σ : L2.St} {H : Hp} {s : Shared}
/-- a lambda is made: what is new in the tracked heap -/
theorem lam_made {c P : Addr} {ps : Array Value} {params : Arguments} {body : Expr} {scope : Scope} {pos : Pos} {E : Value → Shared → Prop} {Q : Value → Shared → Prop} (I : Inv X pins σ H s) (TB : LamX.TabB X.base X.mg c P) (hcode : X.env.code = .ref c)
    (hP : H P = some (.tbl ps)) (ht : TriplesOk ps.toList) (ha : ∀ (pos : Pos) (cv : Value), codeAmong pos ps.toList = some cv → ∃ c, cv = .ref c ∧ H c = some (LamX.CodeO c (X.env.qual ++ "<lambda>")))
    (hdef : defaultsOf params X.env = ([], [])) (hfree : ∀ y ∈ scope.names, y.2 = .free → ∃ c, X.env.cells.lookup y.1 = some c)
    (h : ∀ (f c' : Addr) (pm ctv : Value) (H1 : Hp) (s' : Shared), Inv X pins σ H1 s' → ((H1 = H ∧ ∃ p : Pos, codeAmong p ps.toList = some (.ref c')) ∨ ∃ ps' : Array Value, H c' = none ∧ H1 = upd (upd H P (.tbl ps')) c' (LamX.CodeO c' (X.env.qual ++ "<lambda>")) ∧ TriplesOk ps'.toList ∧
        ∀ (p : Pos) (cv : Value), codeAmong p ps'.toList = some cv → cv = .ref c' ∨ codeAmong p ps.toList = some cv) →
      s'.heap.get? f = some (PySem.W.kla_obj "<lambda>" (X.env.qual ++ "<lambda>") params body scope (cloFrom X.env.cells scope.names []) pm c' ctv) → H1 f = none → f ∉ frs X.stack → s.heap.objs.size ≤ f → Q (.ref f) s') :
    wpAny (model X.prog X.w) X.A (eval (.Lambda params body scope pos) X.env) Q E s := by
  refine PySem.W.kla_eval hdef ?_
  have atP : s.heap.get? P = some { cls := .none, data := .fields ps } := I.hok P _ hP
  have young : ∀ f, s.heap.objs.size ≤ f → f ∉ frs X.stack := by
    intro f hf z
    rcases List.mem_cons.mp (I.stkSub _ z) with e | e
    · have h1 := I.lt
      rw [← e] at h1
      exact absurd (Nat.lt_of_lt_of_le h1 hf) (Nat.lt_irrefl _)
    · exact I.nofs hf e
  match hc : codeAmong pos ps.toList with
  | some cv =>
    obtain ⟨c', rfl, hco⟩ := ha pos cv hc
    refine PySem.W.kla_makeFunctionHit (mg := X.mg) (c := c) (P := P) (ps := ps) (closure_ok hfree) I.ok.glob (I.mod.glob.keeps I.bk) hcode (TB.code.keeps I.bk) atP ht hc (TB.bm.keeps I.bk) fun ctv h' tk hx hsz => ?_
    refine h h'.objs.size c' ((X.mg "__name__").getD .none) ctv H _ (I.kept (t' := tk) fun b o e => Heap.get?_push_of_some _ (hx b o e)) (.inl ⟨rfl, pos, hc⟩) (Heap.get?_push_size _ rfl) (I.hok.fresh hsz) (young _ hsz) hsz
  | none =>
    refine PySem.W.kla_makeFunction (mg := X.mg) (c := c) (P := P) (ps := ps) (closure_ok hfree) I.ok.glob (I.mod.glob.keeps I.bk) hcode (TB.code.keeps I.bk) atP ht hc TB.gP (TB.bm.keeps I.bk) fun c' ctv h' tk hx hge hlt hrec htb => ?_
    obtain ⟨c2, oc, vs, t, e2, hoc, hd, hv⟩ := hrec
    cases e2
    have big : s.heap.objs.size ≤ h'.objs.size := Nat.le_trans hge (Nat.le_of_lt hlt)
    have nC : H c' = none := I.hok.fresh hge
    have eL : (ps ++ #[rawInt pos.line, rawInt pos.col, .ref c']).toList = ps.toList ++ [rawInt pos.line, rawInt pos.col, .ref c'] := by simp
    have J := LamX.inv_table (t' := tk) (more := #[rawInt pos.line, rawInt pos.col, .ref c']) (h' := h'.push (PySem.W.kla_obj "<lambda>" (X.env.qual ++ "<lambda>") params body scope (cloFrom X.env.cells scope.names []) ((X.mg "__name__").getD .none) c' ctv)) I hP
      (fun b o hb e => Heap.get?_push_of_some _ (hx b o hb e)) (Heap.get?_push_of_some _ htb) hge ⟨oc, vs, t, Heap.get?_push_of_some _ hoc, hd, hv⟩
    refine h h'.objs.size c' ((X.mg "__name__").getD .none) ctv _ _ J (.inr ⟨_, nC, rfl, by rw [eL]; exact PySem.TriplesOk_snoc _ _ _ _ ht, fun p cv z => ?_⟩) (Heap.get?_push_size _ rfl) ?_ (young _ big) big
    · rw [eL] at z
      exact (LamX.among_app _ ht z).elim .inr .inl
    · have n1 : h'.objs.size ≠ c' := Nat.ne_of_gt hlt
      have n2 : h'.objs.size ≠ P := Nat.ne_of_gt (Nat.lt_of_lt_of_le (Heap.lt_size atP) big)
      rw [upd_ne n1, upd_ne n2]
      exact I.hok.fresh big
/-- .. over data: nothing changes but what is hidden -/
theorem lam_data {c' P : Addr} {s0 : Sta} {q : Str} {H1 : Hp} {ps : Array Value} (ok : Ok X.K s0) (hM : s0.M P = some (.tbl q)) (hps : s0.H P = some (.tbl ps)) (ha : ∀ (pos : Pos) (cv : Value), codeAmong pos ps.toList = some cv → ∃ c, cv = .ref c ∧ s0.G c = some (LamX.CodeO c q))
    (hH : (H1 = s0.H ∧ ∃ p : Pos, codeAmong p ps.toList = some (.ref c')) ∨ ∃ ps' : Array Value, s0.H c' = none ∧ H1 = upd (upd s0.H P (.tbl ps')) c' (LamX.CodeO c' q) ∧ TriplesOk ps'.toList ∧ ∀ (p : Pos) (cv : Value), codeAmong p ps'.toList = some cv → cv = .ref c' ∨ codeAmong p ps.toList = some cv) :
    ∃ s1 : Sta, s1.H = H1 ∧ Step s0 s1 ∧ Ok X.K s1 ∧ s1.M = s0.M ∧ s1.G c' = some (LamX.CodeO c' q) := by
  rcases hH with ⟨rfl, p, h⟩ | ⟨ps', hn, rfl, ht, hall⟩
  · obtain ⟨c2, e1, e2⟩ := ha p _ h
    cases e1
    exact ⟨s0, rfl, Step.refl _, ok, rfl, e2⟩
  · obtain ⟨o, st⟩ := ok.table hM hn ht (fun p cv z => (hall p cv z).imp id fun w => ha p cv w)
    exact ⟨_, rfl, st, o, rfl, upd_same⟩
end
end DL
set_option Elab.async false
set_option linter.all false
set_option maxRecDepth 100000
set_option maxHeartbeats 2000000
namespace DL
open PySem PySem.Spec PyProof.Rows L2
/-! ### the attributes of an error by its code -/
def inC (c : Str) (xs : List Str) : Bool := inD (.str c) (xs.map .str)
def eqC (c x : Str) : Bool := decide (toV (.str c) = toV (.str x))
def oneF (fs : List (Str × D)) (n : Str) : Option (List D) := (fs.lookup n).map fun d => [d]
def twoF (fs : List (Str × D)) (n m : Str) : Option (List D) := (fs.lookup n).bind fun d => (fs.lookup m).map fun u => [d, u]
def fieldsOf (c : Str) (fs : List (Str × D)) : Option (List D) :=
  if inC c ["InvalidRatio", "InvalidSpan", "InvalidCount", "InvalidLimit"] = true then oneF fs "given"
  else if inC c ["InvalidText", "InvalidCorners", "InvalidTiles", "InvalidDeed"] = true then
    (if eqC c "InvalidText" = true then oneF fs "line" else if eqC c "InvalidDeed" = true then oneF fs "index" else oneF fs "at")
  else if inC c ["InvalidName", "DuplicateName", "UnknownTile", "UnknownMark"] = true then oneF fs "name"
  else if inC c ["SplitSide", "InvalidWall", "MarkedSide", "UnknownSide"] = true then oneF fs "side"
  else if inC c ["TooMany", "TooFar"] = true then oneF fs "most"
  else if inC c ["Overlap", "InvalidChord", "NotJoined"] = true then twoF fs "one" "other"
  else if inC c ["InvalidPlace", "InvalidRound"] = true then oneF fs "value"
  else if eqC c "LooseCorner" = true then oneF fs "corner" else some []
/-- what _law_fields(e) keeps -/
def phF (a dd : Addr) : Ct := fun ds M k _ => ∃ fs code vals, ds = [.exc a dd fs] ∧ List.lookup ("code" : Str) fs = some (.str code) ∧ fieldsOf code fs = some vals ∧ vals.length ≤ 2 ∧ k (.tup vals) M
/-- what is known of the classes of the errors -/
structure GoodX (K : PySem.W.Frag) (cs : List Value) (C : Addr) : Prop where
  xf : XfC K C
  ex : PySem.W.exmAny K (.ref C) cs = some true
  no : ∀ n ∈ (["code", "given", "line", "index", "at", "name", "side", "most", "one", "other", "value", "corner"] : List Str), PySem.W.findIn K (.ref C) n = some none
/-- _law_try(lambda: e) -/
def dTry (P : Addr) (q : Str) (Good : Addr → Prop) (τ : DE) : DE := fun ρ M k _ => M P = some (.tbl q) ∧ τ ρ M (fun d M1 => k (.tup [.str "told", d]) M1)
  (fun C fs M1 => Good C ∧ ∃ code vals, List.lookup ("code" : Str) fs = some (.str code) ∧ fieldsOf code fs = some vals ∧ vals.length ≤ 2 ∧ k (.tup (.str "no" :: .str code :: vals)) M1)
section
variable {P : Program} {w : World} {K : PySem.W.Frag} {mg : Str → Option Value} {base : Heap}
/-- the suite, over data -/
def τSuite (a dd : Addr) : DS := dRet (dOp dAdd (dTup (dCons (dC (.str "no")) (dCons (dXf a dd "code" (dVar 1)) dNil))) (dCallP (phF a dd) (dVar 1)))
theorem suite_D {X : Cx} {a C dd : Addr} {oe : Obj} {cs : List Value} {fF : Addr} {fdF : FuncData} {j1 kk : Nat} {p1 p2 p3 p4 p5 p6 p7 p8 p9 : Pos} (hN : X.N[1]? = some ("_law_e" : Str)) (hv : Vis X.env.scope "_law_e") (hp : (a, oe) ∈ X.pn) (G : GoodX X.K cs C) (hz : Zc (.ref C) (some dd) oe) (hf : ∃ vs, oe.data = .fields vs)
    (hr : L2H.RoomH 1 X.A) (F : FnP X.prog X.w X.K X.mg X.base fF fdF ["_law_e"] (spE X.K (GoodX X.K cs) phF)) (hg : Gl X "_law_fields") (hm : X.mg "_law_fields" = some (.ref fF)) (hk : PySem.W.keepIn X.K (.ref fF) = true) (hb : Binds X.K fdF ["_law_e"] [])
    (hat : attributeBase (.Name "_law_e" p3) "code" X.env (eval (.Name "_law_e" p3) X.env) = eval (.Name "_law_e" p3) X.env)
    (hs1 : starEach [.Constant (.str "no") j1 p2, .Attribute (.Name "_law_e" p3) "code" p4] X.env = (false, eval (.Constant (.str "no") j1 p2) X.env) :: starEach [.Attribute (.Name "_law_e" p3) "code" p4] X.env)
    (hs2 : starEach [.Attribute (.Name "_law_e" p3) "code" p4] X.env = (false, eval (.Attribute (.Name "_law_e" p3) "code" p4) X.env) :: starEach [] X.env)
    (hs3 : starEach [.Name "_law_e" p6] X.env = (false, eval (.Name "_law_e" p6) X.env) :: starEach [] X.env) (hpl : (backTo p8 (starEach [] X.env)).any (·.1) = false) :
    DPB X (fun _ _ _ => False) [.Return (some (.BinOp (.Tuple [.Constant (.str "no") j1 p2, .Attribute (.Name "_law_e" p3) "code" p4] kk p5) .Add (.Call (.Name "_law_fields" p7) [.Name "_law_e" p6] [] p8) p9)) p1] (τSuite a dd) := by
  have v : ∀ {q : Pos}, DP X (fun _ _ _ => False) (.Name "_law_e" q) (dVar 1) := fun {q} => dv 1 hN hv
  exact b_one (s_ret (d_op o_add (d_tup (a_cons d_str (a_cons (d_xf G.xf (G.no _ (by simp)) hp hz hf v hat) a_nil hs2) hs1)) (d_callP F hr hp G hz hf hg hm hk hb passes_no v (by decide) hs3 hpl)))
end
/-- the body of _law_try -/
abbrev tryBody (j1 j2 k1 k2 k3 : Nat) (p1 p2 p3 p4 p5 p6 p7 p8 p9 q1 q2 q3 q4 q5 q6 q7 q8 q9 r1 r2 : Pos) : List Stmt :=
  [.Try [.Return (some (.Tuple [.Constant (.str "told") j1 p1, .Call (.Name "_law_ask" p2) [] [] p3] k1 p4)) p5]
    [.ExceptHandler (some (.Tuple [.Name "GustError" p6, .Name "Missing" p7, .Name "NothingLeft" p8] k2 p9)) (some "_law_e")
      [.Return (some (.BinOp (.Tuple [.Constant (.str "no") j2 q2, .Attribute (.Name "_law_e" q3) "code" q4] k3 q5) .Add (.Call (.Name "_law_fields" q7) [.Name "_law_e" q6] [] q8) q9)) q1] r1] [] [] r2]
end DL
set_option Elab.async false
set_option linter.all false
set_option maxRecDepth 100000
set_option maxHeartbeats 2000000
namespace DL
open PySem PySem.Spec PyProof.Rows L2
theorem roomH1 {k : Nat} {A : Around} {e : Option Value} (r : Room (k + 1) A) : L2H.RoomH 1 (A.mark e) := ⟨by have := r.dp; show A.depth + 3 * 1 + 5 < _; omega, by have := r.un; show A.units + 16 * 1 + 200 < _; omega⟩
/-- what a law's _law_try must have -/
structure TryF (P : Program) (w : World) (K : PySem.W.Frag) (mg : Str → Option Value) (base : Heap) (cs : List Value) (g fF : Addr) (fdF : FuncData) : Prop where
  m : mg "_law_try" = some (.ref g)
  k : PySem.W.keepIn K (.ref g) = true
  f : ∃ (pg : Arguments) (sg : Scope) (dV kV doc pm cdv ct oc : Value) (an od : Option Addr) (osl : Array (Option Value)) (j1 j2 k1 k2 k3 : Nat) (p1 p2 p3 p4 p5 p6 p7 p8 p9 q1 q2 q3 q4 q5 q6 q7 q8 q9 r1 r2 : Pos),
    K.lookup g = some ⟨oc, od, .func (PySem.W.fnOf "_law_try" "_law_try" pg (tryBody j1 j2 k1 k2 k3 p1 p2 p3 p4 p5 p6 p7 p8 p9 q1 q2 q3 q4 q5 q6 q7 q8 q9 r1 r2) sg dV kV doc pm an cdv ct), osl⟩ ∧ PySem.W.codeIn K cdv "_law_try" = true ∧
      Binds K (PySem.W.fnOf "_law_try" "_law_try" pg (tryBody j1 j2 k1 k2 k3 p1 p2 p3 p4 p5 p6 p7 p8 p9 q1 q2 q3 q4 q5 q6 q7 q8 q9 r1 r2) sg dV kV doc pm an cdv ct) ["_law_ask"] [] ∧ FnScope ["_law_ask", "_law_e"] ["_law_ask"] sg ∧
      (sg.names.lookup ("_law_ask" : Str) = some .local ∧ sg.names.lookup ("_law_e" : Str) = some .local ∧ sg.names.lookup ("GustError" : Str) = some .globalImplicit ∧ sg.names.lookup ("Missing" : Str) = some .globalImplicit ∧ sg.names.lookup ("NothingLeft" : Str) = some .globalImplicit ∧ sg.names.lookup ("_law_fields" : Str) = some .globalImplicit)
  cls : ∃ c1 c2 c3, cs = [c1, c2, c3] ∧ mg "GustError" = some c1 ∧ mg "Missing" = some c2 ∧ mg "NothingLeft" = some c3
  mF : mg "_law_fields" = some (.ref fF)
  kF : PySem.W.keepIn K (.ref fF) = true
  bF : Binds K fdF ["_law_e"] []
  F : FnP P w K mg base fF fdF ["_law_e"] (spE K (GoodX K cs) phF)
section
variable {X : Cx} {E : XK} {cs : List Value} {g fF c P : Addr} {fdF : FuncData} {k : Nat} {params : Arguments} {body : Expr} {scope : Scope} {τ : DE} {p lpos pos : Pos}
theorem d_trylam (TF : TryF X.prog X.w X.K X.mg X.base cs g fF fdF) (hg : Gl X "_law_try") (TB : LamX.TabB X.base X.mg c P) (hcode : X.env.code = .ref c) (hr : Room (k + 2) X.A) (L : LamX.LamS X.env.scope scope) (hdef : defaultsOf params X.env = ([], []))
    (hbind : ∀ (q : Str) (cl : List (Str × Addr)) (pm cv ctv : Value), bindArgs (PySem.W.kla_fn "<lambda>" q params body scope cl pm cv ctv) ⟨[], []⟩ = pure [])
    (hbody : ∀ (A : Around) (outer : List Env) (s : Shared) (H : Hp) (E : XK) (f c' : Addr), Room k (A.deeper (LamX.lamEnv X scope s.heap.objs.size f c')) → Passes (L2.CX X.prog X.w) (LamX.lamCx X A outer s H E scope f c') E → DP (LamX.lamCx X A outer s H E scope f c') E body τ) :
    DP X E (.Call (.Name "_law_try" p) [.Lambda params body scope lpos] [] pos) (dTry P (X.env.qual ++ "<lambda>") (GoodX X.K cs) τ) := by
  refine ⟨fun pins s σ H Q I h => ?_⟩
  obtain ⟨ρ, s0, kk, xx, rfl, er, ⟨hM, q⟩, pp, px⟩ := h
  obtain ⟨ps, eP, ht, ha⟩ := er.ok.cells P _ hM
  obtain ⟨pg, sg, dV, kV, doc, pm, cdv, ct, oc, an, od, osl, j1, j2, k1, k2, k3, p1, p2, p3, p4, p5, p6, p7, p8, p9, q1, q2, q3, q4, q5, q6, q7, q8, q9, r1, r2, lk, hcg, hb, Sg, n1, n2, n3, n4, n5, n6⟩ := TF.f
  obtain ⟨c1, c2, c3, rfl, m1, m2, m3⟩ := TF.cls
  refine wpAny_Call_Name_kw (ld_glob I hg TF.m ?_ (by decide))
  refine PySem.W.callWith_K (h₀ := X.base) I.ok.mod.kin TF.k ?_ (by rfl) (by rfl)
  show wpAny _ _ (spliced ((false, eval (.Lambda params body scope lpos) X.env) :: backTo pos (starEach [] X.env))) _ _ s
  refine Calls.spliced_cons (lam_made I TB hcode eP ht (fun p cv z => let ⟨c, e1, e2⟩ := ha p cv z; ⟨c, e1, er.ok.sub _ _ e2⟩) hdef (L.has I.ok) fun f c' pm' ctv H1 s' I1 hH hf hfn hfr _ => ?_)
  refine Calls.spliced_nil ⟨I1.kIn, ?_⟩
  obtain ⟨s1, rfl, st1, ok1, eM, hc1⟩ := lam_data (X := X) er.ok hM eP ha hH
  have er1 := er.step st1 ok1
  have rc : codeAny (model X.prog X.w) X.A (.call (.ref g) ⟨[.ref f], []⟩) (CR (L2.CX X.prog X.w) X.stack X.prog X.w s1.H s' Q (fun _ _ _ => False)) s' := by
    refine LamX.run_ofS (N := ["_law_ask", "_law_e"]) (ps := ["_law_ask"]) (us := [.ref f]) (vs := [.ref f]) (k := k + 1) lk hcg Sg hr I1.env0 (hb s' [.ref f] I1.kIn rfl) (.cons rfl .nil) rfl fun hr' => ?_
    -- what an exception of the lambda must bring
    let Ech : XK := fun cls d H' => ∃ C dd, cls = .ref C ∧ d = some dd ∧ GoodX X.K [c1, c2, c3] C ∧ ∀ (σ' : L2.St), σ'.length = 2 → ∀ a, H' a = none → upS X.K (fun _ _ _ => False) (τSuite a dd) { nx := fun _ H' => Q .non H', rt := Q } (σ'.set 1 (some (.ref a))) H'
    let ts : Addr → Value → Option Addr → TS := fun a cls d D σ' H' => ∃ C dd, cls = .ref C ∧ d = some dd ∧ GoodX X.K [c1, c2, c3] C ∧ upS X.K (fun _ _ _ => False) (τSuite a dd) D σ' H'
    have hsu : ∀ (a : Addr) (oe : Obj) (cls : Value) (d : Option Addr) (pn : List (Addr × Obj)), Zc cls d oe → (∃ vs, oe.data = .fields vs) →
        PSs ((cxOf (L2.CX X.prog X.w) X.prog X.w X.K X.mg X.base ["_law_ask", "_law_e"] "_law_try" sg g cdv X.A X.stack s' s1.H (fun _ _ _ => False)).suite a ((a, oe) :: pn))
          [.Return (some (.BinOp (.Tuple [.Constant (.str "no") j2 q2, .Attribute (.Name "_law_e" q3) "code" q4] k3 q5) .Add (.Call (.Name "_law_fields" q7) [.Name "_law_e" q6] [] q8) q9)) q1] (ts a cls d) := by
      intro a oe cls d pn hz hfl
      refine ⟨fun pins2 s2 σ2 H2 D2 I2 h2 => ?_⟩
      obtain ⟨C, dd, rfl, rfl, hG, hu⟩ := h2
      exact (suite_D (X := (cxOf (L2.CX X.prog X.w) X.prog X.w X.K X.mg X.base ["_law_ask", "_law_e"] "_law_try" sg g cdv X.A X.stack s' s1.H (fun _ _ _ => False)).suite a ((a, oe) :: pn)) rfl (.inl n2) List.mem_cons_self hG hz hfl (roomH1 hr') TF.F n6 TF.mF TF.kF TF.bF rfl rfl rfl rfl rfl).run pins2 s2 σ2 H2 D2 I2 hu
    refine ⟨_, pss_one (ps_try3 (X := cxOf (L2.CX X.prog X.w) X.prog X.w X.K X.mg X.base ["_law_ask", "_law_e"] "_law_try" sg g cdv X.A X.stack s' s1.H (fun _ _ _ => False)) (i := 1) (n := "_law_e")
      (tb := fun W D σ' H' => (∀ cls d σ'' H'', Ech cls d H'' → W cls d σ'' H'') ∧ σ'[0]? = some (some (.ref f)) ∧ H' c' = some (LamX.CodeO c' (X.env.qual ++ "<lambda>")) ∧ up X.K Ech τ σ H' fun v H'' => ∀ p, H'' p = none → D.rt (.ref p) (upd H'' p (.tup [.str "told", v]))) (ts := ts)
      rfl rfl Sg.nd rfl n2 n3 m1 n4 m2 n5 m3 (fun W pn xe tk => ?_) hsu), ?_⟩
    · refine ⟨fun pins2 s2 σ2 H2 D2 I2 h2 => ?_⟩
      obtain ⟨hW, e1, e2, e3⟩ := h2
      have act := LamX.pe_act (CXg := L2.CX X.prog X.w) (Eg := fun _ _ _ => False) (Ng := ["_law_ask", "_law_e"]) (qg := "_law_try") (sg := sg) (g := g) (cdg := cdv) (k := k) (i := 0) (a := "_law_ask") (pn := pn) (xe := xe) (W := W) (E := Ech) (tb := up X.K Ech τ) (p1 := p2) (p2 := p3)
        I1 L hf hfn hfr (hbind _ _ _ _ _) tk hW hr' (fun A outer s H hr2 => hbody A outer s H Ech f c' hr2 (pass_own rfl rfl rfl rfl)) rfl (.inl n1)
      refine (pss_one (ps_ret (pos := p5) (pe_tup (x1 := k1) (pos := p4) (pa_cons (pe_str (x := "told") (j := j1) (pos := p1)) (pa_cons act pa_nil rfl) rfl)))).run pins2 s2 σ2 H2 D2 I2 ?_
      refine ⟨e1, e2, ?_⟩
      obtain ⟨ρ', t0, kk', xx', e4, er', q', pp', px'⟩ := e3
      exact ⟨ρ', t0, kk', xx', e4, er', q', fun d t hk st ok v r => ⟨by show 2 ≤ sizeLine; decide, fun p hp => pp' d t hk st ok v r p hp⟩, px'⟩
    · refine ⟨fun cls d σ'' H'' hE => ?_, rfl, ok1.sub _ _ hc1, ?_⟩
      · obtain ⟨C, dd, rfl, rfl, hG, hs⟩ := hE
        exact ⟨hG.ex, fun hl a hn => ⟨C, dd, rfl, rfl, hG, hs σ'' hl a hn⟩⟩
      · rw [← eM] at q
        refine ⟨ρ, s1, _, _, rfl, er1, q, fun d t hk st ok v r p hp => ?_, fun C fs t hx st ok dx fvs e1 e2 e3 e4 r => ?_⟩
        · refine (pp.step (st1.trans st)).tup hk ok ?_ hp
          exact .cons .str (.cons r .nil)
        · obtain ⟨hG, code, vals, l1, l2, l3, hk⟩ := hx
          refine ⟨C, dx, rfl, rfl, hG, fun σ' hl a hn => ?_⟩
          have new : ¬ s0.hidden dx := fun ⟨o, z1, z2, z3⟩ => e4 ⟨o, st1.hid dx o z1 z2 z3⟩
          obtain ⟨oku, stu, sau⟩ := ok.shown2 (st1.trans st) new e2 e3 e1
          obtain ⟨v0, v1, rfl⟩ : ∃ v0 v1, σ' = [v0, v1] := by
            match σ', hl with
            | [v0, v1], _ => exact ⟨v0, v1, rfl⟩
          refine ⟨[none, some (.exc a dx fs)], ⟨t.H, upd t.G dx (.xd fvs), t.M⟩, { nx := fun _ _ => False, rt := kk, m0 := t.M }, fun _ _ _ => False, rfl, ⟨oku, rfl, fun i d hd => ?_⟩, ?_, ⟨fun _ _ z => z.elim, ⟨_, Step.refl _, oku, rfl, pp.step stu⟩, fun _ _ z => z.elim, fun _ _ z => z.elim⟩, PostX.never⟩
          · match i, hd with
            | 1, hd =>
              cases hd
              exact ⟨.ref a, rfl, .exc upd_same (r.same sau)⟩
          · refine ⟨_, rfl, fs, .str code, rfl, l1, ⟨by show 2 ≤ sizeLine; decide, _, rfl, rfl, fs, code, vals, rfl, l1, l2, l3, ?_⟩⟩
            exact ⟨by have : (4 : Nat) ≤ sizeLine := by decide
                      show 2 + vals.length ≤ sizeLine; omega, hk⟩
  refine wpAny_call (codeAny_mono rc fun r s2 hq => ?_)
  match r, hq with
  | .error e, hq =>
    obtain ⟨_, _, _, _, _, _, _, _, _, _, _, _, z⟩ := hq
    exact z.elim
  | .ok (.ret u), hq => exact I1.after hq
  | .ok .next, hq => exact hq.elim
  | .ok .brk, hq => exact hq.elim
  | .ok .cont, hq => exact hq.elim
end
end DL
set_option Elab.async false
set_option linter.all false
set_option maxRecDepth 100000
set_option maxHeartbeats 2000000
namespace DL
open PySem PySem.Spec PyProof.Rows L2
section
variable {P : Program} {w : World} {K : PySem.W.Frag} {mg : Str → Option Value} {base : Heap}
/-- a def whose code object stands at c: it may make lambdas -/
theorem fn_DL {x qual : Str} {params : Arguments} {body : List Stmt} {scope : Scope} {dV kV doc pm ct oc : Value} {an od : Option Addr} {osl : Array (Option Value)} {f c : Addr} {N ps : List Str} {k n : Nat} {φ : Ct}
    (lk : K.lookup f = some ⟨oc, od, .func (PySem.W.fnOf x qual params body scope dV kV doc pm an (.ref c) ct), osl⟩) (hcd : PySem.W.codeIn K (.ref c) qual = true) (S : FnScope N ps scope) (hn : n = ps.length)
    (h : ∀ (A : Around) (outer : List Env) (s : Shared) (H : Hp) (E : XK), Room k (A.deeper (envOfC qual scope s.heap.objs.size f (.ref c))) →
      Passes (L2.CX P w) (cxOf (L2.CX P w) P w K mg base N qual scope f (.ref c) A outer s H E) E → PassesOwn (model P w) (cxOf (L2.CX P w) P w K mg base N qual scope f (.ref c) A outer s H E).A (cxOf (L2.CX P w) P w K mg base N qual scope f (.ref c) A outer s H E).env (cxOf (L2.CX P w) P w K mg base N qual scope f (.ref c) A outer s H E).xe →
      ∃ τ, DPB (cxOf (L2.CX P w) P w K mg base N qual scope f (.ref c) A outer s H E) E body τ ∧
        ∀ (ds : List D) (M : Mm) (kk : DK) (x : DX), ds.length = n → φ ds M kk x → τ { nx := fun _ M => kk .non M, rt := kk, m0 := M } x (startD N ds) M) :
    FnOk P w K mg base (L2.CX P w) (k + 1) f (PySem.W.fnOf x qual params body scope dV kV doc pm an (.ref c) ct) ps (spD K n φ) := by
  refine fn_of lk hcd S (fun vs H Q E q => by rw [spD_len q, hn]) fun A outer s H vs Q E hr q => ?_
  obtain ⟨τ, ht, hq⟩ := h A outer s H E hr (pass_own rfl rfl rfl rfl) (passes_of rfl)
  refine ⟨_, ht, ?_⟩
  obtain ⟨s0, ds, kk, xx, rfl, o, r, hl, f, p, px⟩ := q
  exact ⟨_, s0, _, xx, rfl, er_start o r, hq ds s0.M kk xx hl f, ⟨fun ρ t q st σ er => p _ t q st er.ok _ .non, ⟨s0, Step.refl s0, o, rfl, p⟩, fun _ _ z => z.elim, fun _ _ z => z.elim⟩, px⟩
end
/-- the end of a law that makes lambdas itself -/
theorem walk_DT {l : PySem.W.OpenLaw} {k : Nat} {q : Program} {loose : List Str} {XP : (Str → Option Value) → Heap → Prop} {YP : World → Heap → Prop} {d : DefRec} {K : Params → PySem.W.Frag} {φ : Addr → Ct} {x q0 : Str}
    (hn : l.most = some 63) (hdf : d.params.defaults = []) (hr : Room k callerA) (hrec : ((recsOf q).any fun e => e.name == d.name) = true)
    (hφ : ∀ (P : Addr) (ns : List Int) (M : Mm) (kk : DK) (xx : DX), ns.length ≤ 63 → (∀ z ∈ ns, Builtin.Int.intBits z ≤ 1048576) → M P = some (.tbl q0) → (∀ a, a ≠ P → M a = none) → (∀ M', kk (.bl true) M') → φ P [.scr ns] M kk xx)
    (hY : ∀ (w : World) (h : Heap), YP w h → (K w.params).In h)
    (F : ∀ (w : World) (mg : Str → Option Value) (fa : Addr) (h : Heap), (K w.params).In h → h.Ns mainGlobals mg → mg d.name = some (.ref fa) →
      ∃ (fd : FuncData) (c P : Addr) (o : Obj) (e : Value) (dd : Option Addr) (vs : Array Value) (sl : Array (Option Value)), (K w.params).lookup fa = some o ∧ o.data = .func fd ∧ fd.code = .ref c ∧ (K w.params).lookup c = some ⟨e, dd, .fields vs, sl⟩ ∧ vs[11]? = some (.ref P) ∧ (K w.params).lookup P = none ∧ PySem.W.codeHdIn (K w.params) c P = true ∧
        (∀ (s : Shared) (u : Value), BindsTo s fd ⟨[u], []⟩ [(x, u)]) ∧
        ∀ base : Heap, (K w.params).In base → base.Ns mainGlobals mg → LamX.TabB base mg c P → FnOk l.prog w (K w.params) mg base (L2.CX l.prog w) k fa fd [x] (spD (K w.params) 1 (φ P))) :
    PySem.W.WalkO q loose XP YP l.row.toRowW d [] (fun f vs => PySem.call f vs) := by
  refine LamX.walk_ofOwn (n := 63) (k := k) (x := x) (CX := fun w => L2.CX l.prog w) hn (by decide) hdf hr hrec hY (fun w mg fa h Y KX G hmg own => ?_) fun w H s e s' h => by
    obtain ⟨_, _, _, _, _, _, _, _, _, _, _, _, z⟩ := h
    exact z
  obtain ⟨fd, c, P, o, e, dd, vs, sl, k1, k2, k3, k4, k5, k6, k7, hb, hF⟩ := F w mg fa h KX G hmg
  have hP := own c P o fd e dd vs sl k1 k2 k3 k4 k5
  refine ⟨fd, [(c, P)], spD (K w.params) 1 (φ P), fun p hp => ?_, fun p hp => ?_, fun p hp => ?_, hb, fun H a ns hl hbits hT hS => ?_, fun base kb nb hT => hF base kb nb (hT (c, P) (List.mem_singleton.mpr rfl))⟩
  · rw [List.mem_singleton.mp hp]; exact hP
  · rw [List.mem_singleton.mp hp]; exact k6
  · rw [List.mem_singleton.mp hp]; exact PySem.W.codeHd_of_K KX k7
  · have eP : H P = some (.tbl #[]) := hT (c, P) (List.mem_singleton.mpr rfl)
    have ne : ∀ u, H a = some u → (∀ ps, u ≠ .tbl ps) → a ≠ P := fun u e1 e2 z => by
      rw [z, eP] at e1
      exact e2 _ (Option.some.inj e1).symm
    have hG : ∀ u, H a = some u → (∀ ps, u ≠ .tbl ps) → (fun b => if b = P then none else H b : Hp) a = some u := fun u e1 e2 => by
      show (if a = P then none else H a) = some u
      rw [if_neg (ne u e1 e2)]
      exact e1
    have hS2 : SqL (K w.params) (fun b => if b = P then none else H b) a (ns.map V.int) := by
      rcases hS with (z | ⟨o2, z⟩) | z
      · exact .inl (.inl (hG _ z fun ps y => by cases y))
      · exact .inl (.inr ⟨o2, hG _ z fun ps y => by cases y⟩)
      · exact .inr z
    refine ⟨⟨H, fun b => if b = P then none else H b, fun b => if b = P then some (.tbl q0) else none⟩, [.scr ns], fun d _ => d = .bl true, fun _ _ _ => False, rfl, ⟨fun b u z => ?_, fun b mo z => ?_, fun b mo z => ?_⟩, .cons (.scr hS2) .nil, rfl,
      hφ P ns _ _ _ hl hbits (if_pos rfl) (fun b hb => if_neg hb) (fun _ => rfl), fun d t e _ _ v r => by subst e; cases r; rfl, fun C fs t h => h.elim⟩
    · have z' : (if b = P then none else H b) = some u := z
      split at z'
      · cases z'
      · exact z'
    · have z' : (if b = P then some (MO.tbl q0) else none) = some mo := z
      show (if b = P then none else H b) = none
      split at z'
      · rename_i hb; rw [if_pos hb]
      · cases z'
    · have z' : (if b = P then some (MO.tbl q0) else none) = some mo := z
      split at z'
      · rename_i hb
        cases z'
        show MRep _ _ (H b) _
        rw [hb, eP]
        exact ⟨#[], rfl, True.intro, fun pos cv hc => by simp [codeAmong] at hc⟩
      · cases z'
end DL
set_option Elab.async false
set_option linter.all false
set_option maxRecDepth 100000
set_option maxHeartbeats 2000000
namespace DL
open PySem PySem.Spec PyProof.Rows L2
/-- what is known of an own exception class: its name, its address, its making -/
structure RaiseF (P : Program) (w : World) (K : PySem.W.Frag) (mg : Str → Option Value) (base : Heap) (x : Str) (C : Addr) (n : Nat) (fl : List V → List (Str × V)) : Prop where
  m : mg x = some (.ref C)
  T : OexC K C
  ex : ∃ (fI : Addr) (fd : FuncData) (ps : List Str), PySem.W.findIn K (.ref C) "__init__" = some (some (.ref fI)) ∧ PySem.W.typeIn K (.ref fI) = some (.type "function") ∧ Binds K fd ps [] ∧ FnOk P w K mg base (L2.CX P w) 1 fI fd ps (XI.spX C n fl)
section
variable {X : Cx} {E : XK} {e : Expr} {es : List Expr} {αa : DA} {x : Str} {C : Addr} {n : Nat} {fl : List V → List (Str × V)} {flD : List D → List (Str × D)} {p pos pos' : Pos}
theorem s_raiseF (R : RaiseF X.prog X.w X.K X.mg X.base x C n fl) (hfl : ∀ {G : Hp} {vs : List V} {ds : List D}, Reps X.K G vs ds → ds.length = n → FRep X.K G (fl vs) (flD ds)) (hc : X.calm = true) (tk : Takes X (fun cls d _ H' => E cls d H')) (hr : Room 2 X.A) (hn : n ≤ 1000)
    (hg : Gl X x) (ha : DPA X E (e :: es) αa) (hdb : (x == ("__debug__" : Str)) = false := by decide) (he : starEach (e :: es) X.env = (false, eval e X.env) :: starEach es X.env := by rfl) (hpl : (backTo pos (starEach es X.env)).any (·.1) = false := by rfl) :
    DPS X E (.Raise (some (.Call (.Name x p) (e :: es) [] pos)) none pos') (dRaise C n flD αa) := by
  obtain ⟨fI, fd, ps, h1, h2, h3, h4⟩ := R.ex
  exact s_raise hc tk R.T h1 h2 h4 hfl hr h3 hn hg R.m ha hdb he hpl
end
/-- a def whose code object stands at c -/
structure DefL (K : PySem.W.Frag) (x qual : Str) (params : Arguments) (body : List Stmt) (scope : Scope) (f c : Addr) (fd : FuncData) : Prop where
  ex : ∃ (dV kV doc pm ct oc : Value) (an od : Option Addr) (osl : Array (Option Value)), fd = PySem.W.fnOf x qual params body scope dV kV doc pm an (.ref c) ct ∧ K.lookup f = some ⟨oc, od, .func (PySem.W.fnOf x qual params body scope dV kV doc pm an (.ref c) ct), osl⟩
  cd : PySem.W.codeIn K (.ref c) qual = true
section
variable {P : Program} {w : World} {K : PySem.W.Frag} {mg : Str → Option Value} {base : Heap}
theorem fn_DL2 {x qual : Str} {params : Arguments} {body : List Stmt} {scope : Scope} {f c : Addr} {fd : FuncData} {N ps : List Str} {k n : Nat} {φ : Ct}
    (F : DefL K x qual params body scope f c fd) (S : FnScope N ps scope) (hn : n = ps.length)
    (h : ∀ (A : Around) (outer : List Env) (s : Shared) (H : Hp) (E : XK), Room k (A.deeper (envOfC qual scope s.heap.objs.size f (.ref c))) →
      Passes (L2.CX P w) (cxOf (L2.CX P w) P w K mg base N qual scope f (.ref c) A outer s H E) E → PassesOwn (model P w) (cxOf (L2.CX P w) P w K mg base N qual scope f (.ref c) A outer s H E).A (cxOf (L2.CX P w) P w K mg base N qual scope f (.ref c) A outer s H E).env (cxOf (L2.CX P w) P w K mg base N qual scope f (.ref c) A outer s H E).xe →
      ∃ τ, DPB (cxOf (L2.CX P w) P w K mg base N qual scope f (.ref c) A outer s H E) E body τ ∧
        ∀ (ds : List D) (M : Mm) (kk : DK) (x : DX), ds.length = n → φ ds M kk x → τ { nx := fun _ M => kk .non M, rt := kk, m0 := M } x (startD N ds) M) :
    FnOk P w K mg base (L2.CX P w) (k + 1) f fd ps (spD K n φ) := by
  obtain ⟨dV, kV, doc, pm, ct, oc, an, od, osl, rfl, lk⟩ := F.ex
  exact fn_DL lk F.cd S hn h
end
end DL
set_option Elab.async false
set_option linter.all false
set_option maxRecDepth 100000
set_option maxHeartbeats 2000000
namespace DL
open PySem PySem.Spec PyProof.Rows L2
section
variable {X : Cx}
/-- a comprehension whose element may use that the def around it holds, too (its cells) -/
theorem lc_in {pins : List (Addr × Obj)} {s : Shared} {σ : L2.St} {H : Hp} {Q : VK} {elt tg iter : Expr} {ifs : List Expr} {scope : Scope} {own : List (Str × Nat)} {pos pos' : Pos} {wi : TI} {g : TG} {tt : TT} {te : TE} {use : Option (Value → Sem Unit)} {Qf : Value → Shared → Prop}
    (hc : X.calm = true) (hN : X.N.Nodup) (I : Inv X pins σ H s) (hi : PI X tg iter wi) (ok : BlkOk X.N X.env.scope scope own)
    (hg : ∀ (s : Shared) (H : Hp) (C : Addr) (cl : List (Str × Addr)) (fp : List Addr), PG (X.blk s H scope (compEnvC scope cl C X.env) fp) tg g) (ht : ∀ (s : Shared) (H : Hp) (C : Addr) (cl : List (Str × Addr)) (fp : List Addr), PTs (X.blk s H scope (compEnvC scope cl C X.env) fp) ifs tt)
    (he : ∀ (s : Shared) (H : Hp) (C : Addr) (cl : List (Str × Addr)) (fp : List Addr), (∀ (pins' : List (Addr × Obj)) (σ' : L2.St) (H' : Hp) (s' : Shared), Inv (X.blk s H scope (compEnvC scope cl C X.env) fp) pins' σ' H' s' → Inv X pins σ H' s') → PE (X.blk s H scope (compEnvC scope cl C X.env) fp) elt te) (hs : ∀ x, foldedSetIterable iter X.env x = pure x)
    (h : tLc wi g tt te (own.map (·.2)) σ H Q)
    (hRR : ∀ D C s' m H', Inv X pins σ H' s' → Q (.ref D) H' → s'.heap.Ns C m → FpOk X pins H' C → compPost (model X.prog X.w) X.A X.xe use Qf (.ref D) C (.ok .next) s') :
    wpAny (model X.prog X.w) X.A (comprehension (.ListComp elt [⟨tg, iter, ifs, 0⟩] scope pos) scope X.env pos' (newList []) false (eval iter X.env) use) Qf X.xe s := by
  have cells : ∀ y ∈ scope.names, y.2 = .free → ∃ c, X.env.cells.lookup y.1 = some c := by
    intro y hy e
    exact (ok.free y hy e).elim (fun z => I.ok.has _ (.inl z)) (fun z => I.ok.has _ (.inr z))
  refine wpAny_comprehension_free (use := use) rfl hs (closure_ok cells) ok.kind (fun y hy e => by rw [ok.uniq y hy, e]) (thn (hi.run pins s σ H _ I h) fun xv sa ha => thn ha fun itv sb hb => ?_)
  obtain ⟨it, fp, tn, J, Hb, rfl, Ib, T, stb, fb, q⟩ := hb
  refine wpAny_newObj_type (newEnv_comp ?_) (by show 0 ≤ sizeLine; decide)
  have freshD : Hb sb.heap.objs.size = none := Ib.hok.fresh (Nat.le_refl _)
  obtain ⟨W, ⟨n0, w0⟩, turn⟩ := q sb.heap.objs.size freshD
  generalize eD : sb.heap.objs.size = D at *
  obtain ⟨sc, esc, esh⟩ : ∃ sc : Shared, sc = ({ sb with heap := sb.heap.push { cls := .type "list", data := .seq ([] : List Value).toArray } } : Shared) ∧ sc.heap = sb.heap.push { cls := .type "list", data := .seq ([] : List Value).toArray } := ⟨_, rfl, rfl⟩
  rw [← esc]
  have kept : ∀ b o, sb.heap.get? b = some o → sc.heap.get? b = some o := fun b o e => by rw [esh]; exact Heap.get?_push_of_some _ e
  have Ic : Inv X pins σ (upd Hb D (.lst [])) sc := by
    have atD : sc.heap.get? D = some { cls := .type "list", data := .seq ([] : List Value).toArray } := by
      rw [esh, ← eD]
      exact Heap.get?_push_size _ rfl
    have K1 := Ib.laid (t' := sb.toks) (a := D) (o := .lst []) (h' := sc.heap) kept (Nat.le_of_eq eD) ⟨Nat.zero_le _, [], 0, .nil, atD⟩
    rw [esc] at K1 ⊢
    exact K1
  have small : ∀ b ∈ fp, b < sb.heap.objs.size := by
    intro b hb
    obtain ⟨o, e, _⟩ := T.obj _ _ stb b hb
    exact Heap.lt_size e
  have notD : ∀ b ∈ fp, b ≠ D := fun b hb => by rw [← eD]; exact Nat.ne_of_lt (small b hb)
  have fc : ∀ b ∈ fp, FpOk X pins (upd Hb D (.lst [])) b ∧ b < sc.heap.objs.size := by
    intro b hb
    obtain ⟨z1, z2⟩ := fb b hb
    refine ⟨⟨by rw [upd_ne (notD b hb)]; exact z1, z2⟩, ?_⟩
    rw [esh, Heap.size_push]
    exact Nat.lt_succ_of_lt (small b hb)
  have stc : tn 0 sc.heap := T.keep _ _ _ stb fun b _ o e => kept b o e
  have Id := block_start Ic ok hN fc
  have rg := hg sc (upd Hb D (.lst [])) sc.heap.objs.size (cellsFrom (sc.heap.objs.size + 1) scope.names (cloFrom X.env.cells scope.names [])) fp
  have rt := ht sc (upd Hb D (.lst [])) sc.heap.objs.size (cellsFrom (sc.heap.objs.size + 1) scope.names (cloFrom X.env.cells scope.names [])) fp
  have re := he sc (upd Hb D (.lst [])) sc.heap.objs.size (cellsFrom (sc.heap.objs.size + 1) scope.names (cloFrom X.env.cells scope.names [])) fp fun pins' σ' H' s' I' => Ic.call' (ch := fp) I'.os I'.base I'.hok I'.bare fun b hb => ⟨(fc b hb).1.2.2.2.1, (fc b hb).1.2.1, (fc b hb).1.2.2.2.2.1, (fc b hb).1.2.2.2.2.2⟩
  show codeAny _ _ (.compStart (.ListComp elt [⟨tg, iter, ifs, 0⟩] scope pos) 0 (.ref it) (.ref D) (compEnvC scope (cellsFrom (sc.heap.objs.size + 1) scope.names (cloFrom X.env.cells scope.names [])) sc.heap.objs.size X.env)) (compPost (model X.prog X.w) X.A X.xe use Qf (.ref D) sc.heap.objs.size) { sc with heap := pushCells (sc.heap.push { cls := .type "dict", data := .dict #[] }) scope.names }
  have none_fp : ∀ b ∈ fp, (upd Hb D (.lst [])) b = none := fun b hb => (fc b hb).1.1
  generalize ece : compEnvC scope (cellsFrom (sc.heap.objs.size + 1) scope.names (cloFrom X.env.cells scope.names [])) sc.heap.objs.size X.env = ce at Id rg rt re ⊢
  have locals_ce : ce.locals = sc.heap.objs.size := by rw [← ece]; rfl
  generalize eHc : upd Hb D (.lst []) = Hc at Ic Id rg rt re w0 none_fp fc
  generalize esd : ({ sc with heap := pushCells (sc.heap.push { cls := .type "dict", data := .dict #[] }) scope.names } : Shared) = sd at Id ⊢
  have std : tn 0 sd.heap := T.keep _ _ _ stc fun b _ o e => by rw [← esd]; exact pushCells_keeps _ _ _ _ (Heap.get?_push_of_some _ e)
  have still : ∀ {σ' : L2.St} {H' : Hp} {s' : Shared}, Inv (X.blk sc Hc scope ce fp) [] σ' H' s' → (∀ b ∈ fp, H' b = none) → ∀ b ∈ fp, FpOk (X.blk sc Hc scope ce fp) [] H' b := by
    intro σ' H' s' I' hn b hb
    refine ⟨hn b hb, (I'.ok.exf b hb).1, I'.ok.exfs b hb, .inl hb, fun x c e => (I'.ok.exf b hb).2 x c e, fun p hp => ?_⟩
    exact absurd (show p ∈ ([] : List (Addr × Obj)) ++ [] from hp) (by simp)
  have loop : codeAny (model X.prog X.w) X.A (.compLoop (.ListComp elt [⟨tg, iter, ifs, 0⟩] scope pos) 0 (.ref it) (.ref D) ce) (compPost (model X.prog X.w) X.A X.xe use Qf (.ref D) sc.heap.objs.size) sd := by
    refine compLoop_any (fun n s' => ∃ i H', Inv (X.blk sc Hc scope ce fp) [] (wipe σ (own.map (·.2))) H' s' ∧ tn i s'.heap ∧ (∀ b ∈ fp, H' b = none) ∧ W i n H') ?_ n0 ⟨0, Hc, Id, std, none_fp, w0⟩
    rintro n s5 ⟨i, H5, I5, st5, n5, w5⟩
    rcases turn i n H5 w5 with ⟨stop, last⟩ | ⟨go, Nx, hNx, step⟩
    · refine thnF (T.done (X.blk sc Hc scope ce fp) rfl rfl rfl hc i [] s5 _ H5 (fun _ _ => False) I5 (still I5 n5) st5 stop) fun r s6 ⟨hr, I6⟩ => ?_
      subst hr
      have back : Inv X pins σ H5 s6 := Ic.call' (ch := fp) I6.os I6.base I6.hok I6.bare fun b hb => ⟨(fc b hb).1.2.2.2.1, (fc b hb).1.2.1, (fc b hb).1.2.2.2.2.1, (fc b hb).1.2.2.2.2.2⟩
      have free5 : H5 sc.heap.objs.size = none := by
        rw [← locals_ce]
        exact I6.free
      obtain ⟨m, hm, _⟩ := I6.loc
      have hm : s6.heap.Ns ce.locals m := hm
      rw [locals_ce] at hm
      exact hRR D sc.heap.objs.size s6 m H5 back last hm (Ic.fpOk (Nat.le_refl _) free5)
    · refine thnF (T.item (X.blk sc Hc scope ce fp) rfl rfl rfl hc i [] s5 _ H5 (fun _ _ => False) I5 (still I5 n5) st5 go) fun r s6 ⟨u, hr, h6⟩ => ?_
      subst hr
      refine thnF h6 fun _ s7 ⟨x, H7, I7, r7, y7, st7, n7⟩ => ?_
      refine thnF (rg.run _ s7 _ H7 x u _ (I7.pinned (still I7 n7) (T.obj _ _ st7)) r7 (step x H7 y7)) fun _ s8 ⟨σ8, H8, I8, hw8, q8⟩ => ?_
      refine thnF (rt.run _ s8 σ8 H8 _ I8 q8) fun b s9 ⟨H9, I9, q9⟩ => ?_
      have over : ∀ {s' : Shared} {H' : Hp}, Inv (X.blk sc Hc scope ce fp) ([] ++ pinsAt fp s7.heap) σ8 H' s' → Nx H' → ∃ m, m < n ∧ ∃ i H', Inv (X.blk sc Hc scope ce fp) [] (wipe σ (own.map (·.2))) H' s' ∧ tn i s'.heap ∧ (∀ b ∈ fp, H' b = none) ∧ W i m H' := by
        intro s' H' I' nx
        obtain ⟨m', hm, w'⟩ := hNx H' nx
        have pinned : ∀ b ∈ fp, ∀ o, s7.heap.get? b = some o → s'.heap.get? b = some o ∧ H' b = none := by
          intro b hb o e
          have z := I'.pin (b, o) (List.mem_append_right _ (List.mem_append_right _ (mem_pinsAt hb e)))
          exact ⟨z.1, z.2.1⟩
        refine ⟨m', hm, i + 1, H', (I'.unpinned (pins := [])).weak (by rw [← hw8, wipe_length]) (fun j v e => ?_), T.keep _ _ _ st7 fun b hb o e => (pinned b hb o e).1, fun b hb => ?_, w'⟩
        · rw [← hw8] at e
          exact (wipe_some e).1
        · obtain ⟨o, e, _⟩ := T.obj _ _ st7 b hb
          exact (pinned b hb o e).2
      match b, q9 with
      | false, q9 =>
        simp only [Bool.false_eq_true, if_false] at q9 ⊢
        exact over I9 q9
      | true, q9 =>
        simp only [if_true] at q9 ⊢
        refine thnF (re.run _ s9 σ8 H9 _ I9 q9) fun z s10 ⟨yv, H10, I10, r10, acc, hD10, hz10, nx⟩ => ?_
        exact app_ok (X := X.blk sc Hc scope ce fp) I10 hD10 hz10 r10 fun s11 I11 => over I11 nx
  exact codeAny_compStart_list loop (T.self X.A 0 _ _ _ std loop)
theorem pe_lcI {elt tg iter : Expr} {ifs : List Expr} {scope : Scope} {own : List (Str × Nat)} {pos : Pos} {wi : TI} {g : TG} {tt : TT} {te : L2.St → TE} (hc : X.calm = true) (hN : X.N.Nodup) (hi : PI X tg iter wi) (ok : BlkOk X.N X.env.scope scope own)
    (hg : ∀ (s : Shared) (H : Hp) (C : Addr) (cl : List (Str × Addr)) (fp : List Addr), PG (X.blk s H scope (compEnvC scope cl C X.env) fp) tg g) (ht : ∀ (s : Shared) (H : Hp) (C : Addr) (cl : List (Str × Addr)) (fp : List Addr), PTs (X.blk s H scope (compEnvC scope cl C X.env) fp) ifs tt)
    (he : ∀ (pins : List (Addr × Obj)) (σ : L2.St) (s : Shared) (H : Hp) (C : Addr) (cl : List (Str × Addr)) (fp : List Addr), (∀ (pins' : List (Addr × Obj)) (σ' : L2.St) (H' : Hp) (s' : Shared), Inv (X.blk s H scope (compEnvC scope cl C X.env) fp) pins' σ' H' s' → Inv X pins σ H' s') → PE (X.blk s H scope (compEnvC scope cl C X.env) fp) elt (te σ))
    (hs : ∀ x, foldedSetIterable iter X.env x = pure x := by intro _; rfl) :
    PE X (.ListComp elt [⟨tg, iter, ifs, 0⟩] scope pos) (fun σ H Q => tLc wi g tt (te σ) (own.map (·.2)) σ H Q) := by
  refine ⟨fun pins s σ H Q I h => ?_⟩
  rw [eval_ListComp]
  refine lc_in hc hN I hi ok hg ht (fun s H C cl fp back => he pins σ s H C cl fp back) hs h fun D C s' m H' I' q hn f => ⟨m, hn, fun h'' sb => ?_⟩
  obtain ⟨f0, f1, f2, f3, f4, f5⟩ := f
  exact ⟨.ref D, H', I'.turned (t' := s'.toks) (fun b o hb e => (sb.2 b hb).trans e) f0 f1 f3 f4 f5, rfl, q⟩
end
end DL
set_option Elab.async false
set_option linter.all false
set_option maxRecDepth 100000
set_option maxHeartbeats 2000000
namespace DL
open PySem PySem.Spec PyProof.Rows L2
/-- where a function's defaults stand: nowhere, or in the tuple at b -/
def dfV : Option Addr → Value
  | none => .none
  | some b => .ref b
/-- at f stands a lambda of this def: its text, its cells, its code object at c, its default in the tuple at t -/
def lamP (X : Cx) (params : Arguments) (body : Expr) (scope : Scope) (f c : Addr) (t : Option Addr) : Heap → Prop := fun h => ∃ doc pm ctv : Value, h.get? f = some (PySem.W.kdv_obj "<lambda>" (X.env.qual ++ "<lambda>") params (.expr body) scope (cloFrom X.env.cells scope.names []) (dfV t) doc pm c ctv)
theorem lamP_ok {X : Cx} {params : Arguments} {body : Expr} {scope : Scope} {f c : Addr} {t : Option Addr} {P : Program} {w : World} {H : Hp} {h : Heap} {doc pm ctv : Value} (e : h.get? f = some (PySem.W.kdv_obj "<lambda>" (X.env.qual ++ "<lambda>") params (.expr body) scope (cloFrom X.env.cells scope.names []) (dfV t) doc pm c ctv)) :
    ObjOk P w H h f (.ext (lamP X params body scope f c t)) := ⟨⟨doc, pm, ctv, e⟩, ⟨_, e⟩, fun h1 h2 z k => by
  obtain ⟨doc', pm', ctv', e'⟩ := z
  exact ⟨doc', pm', ctv', k _ e'⟩⟩
/-- what is new behind the making of a lambda -/
def LamNew (q : Str) (P : Addr) (ps : Array Value) (H H1 : Hp) (c' : Addr) : Prop := (H1 = H ∧ ∃ p : Pos, codeAmong p ps.toList = some (.ref c')) ∨ ∃ ps' : Array Value, H c' = none ∧ H1 = upd (upd H P (.tbl ps')) c' (LamX.CodeO c' q) ∧ TriplesOk ps'.toList ∧
        ∀ (p : Pos) (cv : Value), codeAmong p ps'.toList = some cv → cv = .ref c' ∨ codeAmong p ps.toList = some cv
section
variable {X : Cx} {pins : List (Addr × Obj)} {σ : L2.St} {H : Hp} {s : Shared}
/-- the last step of the making, the defaults being there -/
theorem lam_tail {c P : Addr} {ps : Array Value} {params : Arguments} {body : Expr} {scope : Scope} {pos : Pos} {ln : Nat} {t : Option Addr} {dV : Value} {E : Value → Shared → Prop} {Q : Value → Shared → Prop} (ed : dV = dfV t) (I : Inv X pins σ H s) (TB : LamX.TabB X.base X.mg c P) (hcode : X.env.code = .ref c)
    (hP : H P = some (.tbl ps)) (ht : TriplesOk ps.toList) (ha : ∀ (pos : Pos) (cv : Value), codeAmong pos ps.toList = some cv → ∃ c, cv = .ref c ∧ H c = some (LamX.CodeO c (X.env.qual ++ "<lambda>")))
    (hfree : ∀ y ∈ scope.names, y.2 = .free → ∃ c, X.env.cells.lookup y.1 = some c)
    (h : ∀ (f c' : Addr) (H1 : Hp) (s' : Shared), H1 f = none → Inv X pins σ (upd H1 f (.ext (lamP X params body scope f c' t))) s' → LamNew (X.env.qual ++ "<lambda>") P ps H H1 c' → Q (.ref f) s') :
    wpAny (model X.prog X.w) X.A (makeTail "<lambda>" (X.env.qual ++ "<lambda>") params (.expr body) scope X.env dV .none none pos ln) Q E s := by
  subst ed
  have atP : s.heap.get? P = some { cls := .none, data := .fields ps } := I.hok P _ hP
  match hc : codeAmong pos ps.toList with
  | some cv =>
    obtain ⟨c', rfl, hco⟩ := ha pos cv hc
    refine PySem.W.kdv_makeTailHit (mg := X.mg) (c := c) (P := P) (ps := ps) (closure_ok hfree) I.ok.glob (I.mod.glob.keeps I.bk) hcode (TB.code.keeps I.bk) atP ht hc (TB.bm.keeps I.bk) fun ctv doc h' tk hx hsz => ?_
    have J := I.laid (t' := tk) (a := h'.objs.size) (o := .ext (lamP X params body scope h'.objs.size c' t)) (h' := h'.push (PySem.W.kdv_obj "<lambda>" (X.env.qual ++ "<lambda>") params (.expr body) scope (cloFrom X.env.cells scope.names []) (dfV t) doc ((X.mg "__name__").getD .none) c' ctv))
      (fun b o e => Heap.get?_push_of_some _ (hx b o e)) hsz (lamP_ok (Heap.get?_push_size _ rfl))
    exact h h'.objs.size c' H _ (I.hok.fresh hsz) J (.inl ⟨rfl, pos, hc⟩)
  | none =>
    refine PySem.W.kdv_makeTail (mg := X.mg) (c := c) (P := P) (ps := ps) (closure_ok hfree) I.ok.glob (I.mod.glob.keeps I.bk) hcode (TB.code.keeps I.bk) atP ht hc TB.gP (TB.bm.keeps I.bk) fun c' ctv doc h' tk hx hge hlt hrec htb => ?_
    obtain ⟨c2, oc, vs, t2, e2, hoc, hd, hv⟩ := hrec
    cases e2
    have nC : H c' = none := I.hok.fresh hge
    have big : s.heap.objs.size ≤ h'.objs.size := Nat.le_trans hge (Nat.le_of_lt hlt)
    have eL : (ps ++ #[rawInt pos.line, rawInt pos.col, .ref c']).toList = ps.toList ++ [rawInt pos.line, rawInt pos.col, .ref c'] := by simp
    have J := LamX.inv_table (t' := tk) (more := #[rawInt pos.line, rawInt pos.col, .ref c']) (h' := h') I hP (fun b o hb e => hx b o hb e) htb hge ⟨oc, vs, t2, hoc, hd, hv⟩
    have J2 := J.laid (t' := tk) (a := h'.objs.size) (o := .ext (lamP X params body scope h'.objs.size c' t)) (h' := h'.push (PySem.W.kdv_obj "<lambda>" (X.env.qual ++ "<lambda>") params (.expr body) scope (cloFrom X.env.cells scope.names []) (dfV t) doc ((X.mg "__name__").getD .none) c' ctv))
      (fun b o e => Heap.get?_push_of_some _ e) (Nat.le_refl _) (lamP_ok (Heap.get?_push_size _ rfl))
    refine h h'.objs.size c' _ _ (J.hok.fresh (Nat.le_refl _)) J2 (.inr ⟨_, nC, rfl, by rw [eL]; exact PySem.TriplesOk_snoc _ _ _ _ ht, fun p cv z => ?_⟩)
    rw [eL] at z
    exact (LamX.among_app _ ht z).elim .inr .inl
end
/-- lambda: .. as a value; d: whether it has a parameter with the default 0 -/
def dLam (X : Cx) (P : Addr) (d : Bool) (params : Arguments) (body : Expr) (scope : Scope) : DE := fun _ M k _ => M P = some (.tbl (X.env.qual ++ "<lambda>")) ∧ ∀ f c t, t.isSome = d → k (.lam f c (X.env.qual ++ "<lambda>") (lamP X params body scope f c t) t) M
theorem lam_data2 {X : Cx} {c' P : Addr} {s0 : Sta} {q : Str} {H1 : Hp} {ps : Array Value} (ok : Ok X.K s0) (hM : s0.M P = some (.tbl q)) (hps : s0.H P = some (.tbl ps)) (ha : ∀ (pos : Pos) (cv : Value), codeAmong pos ps.toList = some cv → ∃ c, cv = .ref c ∧ s0.G c = some (LamX.CodeO c q)) (hH : LamNew q P ps s0.H H1 c') :
    ∃ s1 : Sta, s1.H = H1 ∧ Step s0 s1 ∧ Ok X.K s1 ∧ s1.M = s0.M ∧ s1.G c' = some (LamX.CodeO c' q) := lam_data ok hM hps ha hH
section
variable {X : Cx} {E : XK} {c P : Addr} {params : Arguments} {body : Expr} {scope : Scope} {pos : Pos}
theorem d_lam (TB : LamX.TabB X.base X.mg c P) (hcode : X.env.code = .ref c) (hfree : X.Ok → ∀ y ∈ scope.names, y.2 = .free → ∃ c, X.env.cells.lookup y.1 = some c) (hdef : defaultsOf params X.env = ([], [])) :
    DP X E (.Lambda params body scope pos) (dLam X P false params body scope) := by
  refine ⟨fun pins s σ H Q I h => ?_⟩
  obtain ⟨ρ, s0, kk, xx, rfl, er, ⟨hM, q⟩, pp, px⟩ := h
  obtain ⟨ps, eP, ht, ha⟩ := er.ok.cells P _ hM
  refine PySem.W.kla_eval hdef ?_
  rw [makeFunction_eq]
  simp only [List.zip_nil_right, List.filterMap_nil, List.isEmpty_nil, if_true, pure_bind]
  refine lam_tail (t := none) rfl I TB hcode eP ht (fun p cv z => let ⟨c, e1, e2⟩ := ha p cv z; ⟨c, e1, er.ok.sub _ _ e2⟩) (hfree I.ok) fun f c' H1 s' hn J hH => ?_
  obtain ⟨s1, rfl, st1, ok1, eM, hc1⟩ := lam_data2 (X := X) er.ok hM eP ha hH
  obtain ⟨o2, st2⟩ := ok1.new (o := .ext (lamP X params body scope f c' none)) hn
  refine ⟨.ref f, _, J, rfl, pp _ ⟨_, _, _⟩ (by rw [show (⟨upd s1.H f (.ext (lamP X params body scope f c' none)), upd s1.G f (.ext (lamP X params body scope f c' none)), s1.M⟩ : Sta).M = s0.M from eM]; exact q f c' none rfl) (st1.trans st2) o2 _ (.lam upd_same (st2.same _ _ hc1) (fun b e => by cases e))⟩
theorem d_lam1 {j : Nat} {pj : Pos} (TB : LamX.TabB X.base X.mg c P) (hcode : X.env.code = .ref c) (hfree : X.Ok → ∀ y ∈ scope.names, y.2 = .free → ∃ c, X.env.cells.lookup y.1 = some c) (hdf : params.defaults = [.Constant (.int 0) j pj]) (hk0 : params.kw_defaults = []) :
    DP X E (.Lambda params body scope pos) (dLam X P true params body scope) := by
  refine ⟨fun pins s σ H Q I h => ?_⟩
  obtain ⟨ρ, s0, kk, xx, rfl, er, ⟨hM, q⟩, pp, px⟩ := h
  refine PySem.W.kdv_lam (by rw [hdf]; rfl) hk0 ?_
  rw [hdf]
  refine PySem.W.kdv_all1 (thn ((pe_int (X := X) (i := 0) (j := j) (pos := pj)).run pins s σ s0.H (fun v H1 => v = .int 0 ∧ H1 = s0.H) I ⟨rfl, rfl⟩) fun u s1 ⟨v, H1, I1, r1, e1, e2⟩ => ?_)
  subst e1
  rw [e2] at I1
  refine PySem.W.kdv_all0 ?_
  rw [makeFunction_eq]
  simp only [List.zip_nil_right, List.filterMap_nil, List.isEmpty_nil, List.isEmpty_cons, Bool.false_eq_true, if_true, if_false, pure_bind]
  refine wpAny_bind (wpAny_newTextTuple ?_)
  have hnT : s0.H s1.heap.objs.size = none := I1.hok.fresh (Nat.le_refl _)
  generalize eT : s1.heap.objs.size = T at *
  obtain ⟨oT, stT⟩ := er.ok.new (o := .tup [.int 0]) hnT
  have IT : Inv X pins σ (upd s0.H T (.tup [.int 0])) { s1 with heap := s1.heap.push { cls := .type "tuple", data := .seq [u].toArray }, toks := s1.toks } :=
    I1.laid (t' := s1.toks) (a := T) (o := .tup [.int 0]) (fun b o e => Heap.get?_push_of_some _ e) (Nat.le_of_eq eT) ⟨by show 1 ≤ sizeLine; decide, [u], .cons r1 .nil, ⟨_, by rw [← eT]; exact Heap.get?_push_size _ rfl, rfl, _, rfl⟩⟩
  obtain ⟨ps, eP, ht, ha⟩ := oT.cells P _ hM
  refine lam_tail (t := some T) rfl IT TB hcode eP ht (fun p cv z => let ⟨c, e1, e2⟩ := ha p cv z; ⟨c, e1, oT.sub _ _ e2⟩) (hfree I.ok) fun f c' H1 s' hn J hH => ?_
  obtain ⟨s2, rfl, st1, ok1, eM, hc1⟩ := lam_data2 (X := X) oT hM eP ha hH
  obtain ⟨o2, st2⟩ := ok1.new (o := .ext (lamP X params body scope f c' (some T))) hn
  have stp := (stT.trans st1).trans st2
  have gT : s2.G T = some (.tup [.int 0]) := st1.same _ _ upd_same
  refine ⟨.ref f, _, J, rfl, pp _ ⟨_, _, _⟩ (by rw [show (⟨upd s2.H f (.ext (lamP X params body scope f c' (some T))), upd s2.G f (.ext (lamP X params body scope f c' (some T))), s2.M⟩ : Sta).M = s0.M from eM]; exact q f c' (some T) rfl) stp o2 _ (.lam upd_same (st2.same _ _ hc1) (fun b e => by cases e; exact st2.same _ _ gT))⟩
end
end DL
set_option Elab.async false
set_option linter.all false
set_option maxRecDepth 100000
set_option maxHeartbeats 2000000
namespace DL
open PySem PySem.Spec PyProof.Rows L2
/-- the names of a lambda: captured ones, globals, and own ones that are none of the def's -/
structure LamN (N : List Str) (sc scope : Scope) : Prop where
  kind : scope.kind = .function
  co : scope.isCoroutine = false
  gen : scope.isGenerator = false
  noc : ∀ y ∈ scope.names, y.2 ≠ .cell
  own : ∀ y ∈ scope.names, y.2 = .local → y.1 ∉ N
  free : ∀ y ∈ scope.names, y.2 = .free → sc.names.lookup y.1 = some .cell ∨ sc.names.lookup y.1 = some .free
def lamNB (N : List Str) (sc scope : Scope) : Bool :=
  decide (scope.kind = .function) && !scope.isCoroutine && !scope.isGenerator && scope.names.all fun y => !decide (y.2 = .cell) && (!decide (y.2 = .local) || !N.contains y.1) && (!decide (y.2 = .free) || decide (sc.names.lookup y.1 = some .cell) || decide (sc.names.lookup y.1 = some .free))
theorem lamN_by {N : List Str} {sc scope : Scope} (h : lamNB N sc scope = true) : LamN N sc scope := by
  unfold lamNB at h
  simp only [Bool.and_eq_true, Bool.or_eq_true, Bool.not_eq_true', decide_eq_true_eq, decide_eq_false_iff_not, List.all_eq_true] at h
  obtain ⟨⟨⟨k1, k2⟩, k3⟩, k4⟩ := h
  refine ⟨k1, k2, k3, fun y hy => (k4 y hy).1.1, fun y hy e z => ?_, fun y hy e => ?_⟩
  · rcases (k4 y hy).1.2 with q | q
    · exact q e
    · rw [List.contains_iff_mem.mpr z] at q
      cases q
  · rcases (k4 y hy).2 with (q | q) | q
    · exact absurd e q
    · exact .inl q
    · exact .inr q
theorem LamN.has {X : Cx} {N : List Str} {scope : Scope} (L : LamN N X.env.scope scope) (ok : X.Ok) : ∀ y ∈ scope.names, y.2 = .free → ∃ c, X.env.cells.lookup y.1 = some c := fun y hy e => by
  rcases L.free y hy e with z | z
  · exact ok.has _ (.inl z)
  · exact ok.has _ (.inr z)
section
variable {X : Cx} {pins : List (Addr × Obj)} {σ : L2.St} {H HZ : Hp} {s s1 : Shared}
/-- inside of the lambda, entered at s1; X held at s -/
theorem lam_in {A : Around} {outer : List Env} {E : XK} {scope : Scope} {f c' : Addr} {hp : Heap} {tk : Nat} {mm : Str → Option Value} (I : Inv X pins σ H s) (L : LamN X.N X.env.scope scope) (z0 : Env0 X.prog X.w X.K X.mg X.base A outer s1 HZ) (hh : A.handled = none)
    (since : Un (frs X.stack) [] H HZ s.heap s1.heap) (hns : hp.Ns s1.heap.objs.size mm) (grow : ∀ b o, s1.heap.get? b = some o → hp.get? b = some o) :
    Inv (LamX.lamCx X A outer s1 HZ E scope f c') [] σ HZ { s1 with heap := hp, toks := tk } := by
  have caught := L.has I.ok
  have known : ∀ {y c}, (cloFrom X.env.cells scope.names []).lookup y = some c → X.env.cells.lookup y = some c := by
    intro y c e
    rcases cloFrom_mem (PySem.mem_of_lookup e) with z | ⟨z1, z2⟩
    · cases z
    · obtain ⟨cc, hcc⟩ := caught _ z1 rfl
      have hcc : X.env.cells.lookup y = some cc := hcc
      rw [hcc] at z2
      rw [hcc, z2]
      rfl
  have found : ∀ {y}, scope.names.lookup y = some .free → ∃ c, (cloFrom X.env.cells scope.names []).lookup y = some c := by
    intro y hl
    exact mem_lookup (cloFrom_has (cells := X.env.cells) (acc := []) (show (y, NameKind.free) ∈ scope.names from PySem.mem_of_lookup hl))
  have stays : ∀ {c : Addr} {v : Option Value}, H c = none → s.heap.IsCell c v → hp.IsCell c v := by
    rintro c v n ⟨o, ho, hd⟩
    obtain ⟨sl, q⟩ := since.any ho n (by simp)
    exact ⟨_, grow _ _ q, hd⟩
  have empty : ∀ b : Addr, b ∉ (LamX.lamCx X A outer s1 HZ E scope f c').ex := fun b z => absurd (show b ∈ ([] : List Addr) from z) (by simp)
  refine
    { ok :=
        { mod := z0.mod, kind := L.kind, glob := rfl, blt := rfl, above := Nat.le_refl _
          inj := fun y z c e1 e2 => I.ok.inj y z c (known e1) (known e2)
          has := fun y hy => ?_
          cab := fun y c z _ => (Bool.false_ne_true (show false = true from z)).elim
          hd := fun _ => hh, frames := Around.frames_deeper z0.frames, stk := .inr ⟨rfl, rfl⟩
          exf := fun b z => absurd z (empty b), bs := z0.bs, bsz := z0.bsz, noex := fun b _ _ => empty b, exfs := fun b z => absurd z (empty b), funs := z0.funs, frf := z0.frf }
      os := rfl, bare := z0.bare, base := Un.kept grow
      loc := ⟨_, hns, fun i y v e1 e2 e3 => ?_⟩
      cell := fun y c e => ?_, free := z0.hok.fresh (Nat.le_refl _), freeC := fun y c e => ?_
      pin := fun q hq => absurd (show q ∈ ([] : List (Addr × Obj)) ++ [] from hq) (by simp), hok := z0.hok.kept grow, len := I.len }
  · rcases (show scope.names.lookup y = some .cell ∨ scope.names.lookup y = some .free from hy) with z | z
    · exact absurd rfl (L.noc _ (PySem.mem_of_lookup z))
    · exact found z
  · rcases (show Vis scope y from e3) with z | z | z
    · exact absurd (List.mem_of_getElem? e1) (L.own _ (PySem.mem_of_lookup z) rfl)
    · exact absurd rfl (L.noc _ (PySem.mem_of_lookup z))
    · obtain ⟨m, hn, hl⟩ := I.loc
      have seen : Vis X.env.scope y := (L.free _ (PySem.mem_of_lookup z) rfl).elim (fun z => .inr (.inl z)) (fun z => .inr (.inr z))
      obtain ⟨w', r, q⟩ := hl i y v e1 e2 seen
      obtain ⟨c2, h2⟩ := found z
      refine ⟨w', r, .inr ⟨.inr z, c2, h2, ?_⟩⟩
      have c1 := known h2
      rcases q with ⟨k', _⟩ | ⟨_, c3, e', zz⟩
      · have k' : X.env.scope.names.lookup y = some .local := k'
        exfalso
        rcases L.free _ (PySem.mem_of_lookup z) rfl with k2 | k2 <;> (have k2 : X.env.scope.names.lookup y = _ := k2; rw [k'] at k2; cases k2)
      · rw [c1] at e'
        cases e'
        exact stays (I.freeC y _ c1) zz
  · obtain ⟨w', z⟩ := I.cell y c (known e)
    exact ⟨w', stays (I.freeC y c (known e)) z⟩
  · obtain ⟨v, o, ho, hd⟩ := I.cell y c (known e)
    exact since.free c o ho (I.freeC y c (known e)) (by simp)
end
/-- how the lambda's parameters are bound if nothing is given -/
def LamB (d : Bool) (params : Arguments) (body : Expr) (scope : Scope) : Prop := ∀ (s : Shared) (t : Option Addr) (q : Str) (cl : List (Str × Addr)) (doc pm cv ctv : Value), t.isSome = d → (∀ b, t = some b → ∃ v, IsTup s.heap b #[v]) →
  ∃ bs, BindsTo s (PySem.W.kdv_fn "<lambda>" q params (.expr body) scope cl (dfV t) doc pm cv ctv) ⟨[], []⟩ bs ∧ ∀ b ∈ bs, scope.names.lookup b.1 = some .local
theorem lamB0 {params : Arguments} {body : Expr} {scope : Scope} (h : ∀ (q : Str) (cl : List (Str × Addr)) (doc pm cv ctv : Value), bindArgs (PySem.W.kdv_fn "<lambda>" q params (.expr body) scope cl .none doc pm cv ctv) ⟨[], []⟩ = pure []) : LamB false params body scope := by
  intro s t q cl doc pm cv ctv ht hb
  cases t with
  | some b => cases ht
  | none => exact ⟨[], .of_eq (h q cl doc pm cv ctv), fun b z => absurd z (by simp)⟩
theorem lamB1 {params : Arguments} {body : Expr} {scope : Scope} {y : Str} (hy : scope.names.lookup y = some .local) (h : ∀ (T : Addr) (q : Str) (cl : List (Str × Addr)) (doc pm cv ctv : Value), ∃ k : Option (Array Value) → Sem (List (Str × Value)), bindArgs (PySem.W.kdv_fn "<lambda>" q params (.expr body) scope cl (.ref T) doc pm cv ctv) ⟨[], []⟩ = seqItems? (.ref T) >>= k ∧ ∀ v, k (some #[v]) = pure [(y, v)]) : LamB true params body scope := by
  intro s t q cl doc pm cv ctv ht hb
  cases t with
  | none => cases ht
  | some b =>
    obtain ⟨v, o, ho, hc, n, hn⟩ := hb b rfl
    obtain ⟨k, h1, h2⟩ := h b q cl doc pm cv ctv
    exact ⟨[(y, v)], .of_defaults rfl ho hn h1 (h2 v), fun z hz => by rw [List.mem_singleton.mp hz]; exact hy⟩
section
variable {X : Cx} {pins : List (Addr × Obj)} {σ : L2.St} {H : Hp} {s : Shared}
/-- a(), in a def that got a tracked lambda of X; that def was entered at s, where X holds -/
theorem pe_actT {CXg : CXT} {Eg : XK} {Ng : List Str} {qg : Str} {sg : Scope} {g f c' : Addr} {t : Option Addr} {cdg : Value} {params : Arguments} {body : Expr} {scope : Scope} {k i : Nat} {a : Str} {pn : List (Addr × Obj)} {xe : Value → Shared → Prop} {W : WX} {E : XK} {tb : TE} {p1 p2 : Pos}
    (I : Inv X pins σ H s) (L : LamN X.N X.env.scope scope) (hbind : LamB t.isSome params body scope)
    (tk : Takes ((cxOf CXg X.prog X.w X.K X.mg X.base Ng qg sg g cdg X.A X.stack s H Eg).tr pn xe) W) (hW : ∀ cls d σ' H', E cls d H' → W cls d σ' H') (hr : Room (k + 1) (X.A.deeper (envOfC qg sg s.heap.objs.size g cdg)))
    (hbody : ∀ (A : Around) (outer : List Env) (s : Shared) (H : Hp), Room k (A.deeper (LamX.lamEnv X scope s.heap.objs.size f c')) → PE (LamX.lamCx X A outer s H E scope f c') body tb)
    (hN : Ng[i]? = some a) (hv : Vis sg a) (hd : (a == ("__debug__" : Str)) = false := by decide) (hcd : (a == ("__classdict__" : Str)) = false := by decide) :
    PE ((cxOf CXg X.prog X.w X.K X.mg X.base Ng qg sg g cdg X.A X.stack s H Eg).tr pn xe) (.Call (.Name a p1) [] [] p2)
      (fun σZ HZ Q => σZ[i]? = some (some (.ref f)) ∧ HZ f = some (.ext (lamP X params body scope f c' t)) ∧ (∀ b, t = some b → HZ b = some (.tup [.int 0])) ∧ HZ c' = some (LamX.CodeO c' (X.env.qual ++ "<lambda>")) ∧ tb σ HZ Q) := by
  refine ⟨fun pinsZ sZ σZ HZ Q IZ h => ?_⟩
  obtain ⟨hs, hF, hT, hco, hb⟩ := h
  refine wpAny_Call_Name_kw (thn ((pe_var (pos := p1) (i := i) hN hv hd hcd).run pinsZ sZ σZ HZ (fun v H1 => v = .ref f ∧ H1 = HZ) IZ ⟨.ref f, hs, rfl, rfl⟩) fun u s1 ⟨v, H1, J, rv, e1, e2⟩ => ?_)
  subst e1
  rw [e2] at J
  obtain rfl : u = Value.ref f := rv
  have stands : ObjOk X.prog X.w HZ s1.heap f (.ext (lamP X params body scope f c' t)) := J.hok f _ hF
  obtain ⟨⟨doc, pm, ctv, obj⟩, _, _⟩ := stands
  have coded : ObjOk X.prog X.w HZ s1.heap c' (LamX.CodeO c' (X.env.qual ++ "<lambda>")) := J.hok c' _ hco
  obtain ⟨⟨oc, vs, tq, c1, c2, c3⟩, _, _⟩ := coded
  have given : ∀ b, t = some b → ∃ v, IsTup s1.heap b #[v] := fun b e => by
    obtain ⟨_, its, rv, it⟩ : ObjOk X.prog X.w HZ s1.heap b (.tup [.int 0]) := J.hok b _ (hT b e)
    cases rv with
    | cons r1 r2 => cases r2; exact ⟨_, it⟩
  obtain ⟨bs, hbs, hloc⟩ := hbind s1 t (X.env.qual ++ "<lambda>") (cloFrom X.env.cells scope.names []) doc pm (.ref c') ctv rfl given
  refine PySem.W.callWith_F0 ⟨_, _, _, _, obj⟩ ?_
  have since : Un (frs X.stack) [] H HZ s.heap s1.heap := J.base
  have go : codeAny (model X.prog X.w) (X.A.deeper (envOfC qg sg s.heap.objs.size g cdg)) (.call (.ref f) ⟨[], []⟩) (CR (L2.CX X.prog X.w) (envOfC qg sg s.heap.objs.size g cdg :: X.stack) X.prog X.w HZ s1 Q E) s1 := by
    refine PySem.W.kla_callFunE hr.depth obj rfl L.co L.gen rfl ⟨c', oc, vs, tq, rfl, c1, c2, c3⟩ (hbs _ _ _ _ ?_)
    refine wpAny_newFunctionEnv L.noc hloc (fun h₁ hns hsb => ⟨J.nolimit.fresh _ hsb, ?_⟩) L.kind
    show codeAny _ _ (.expr body (LamX.lamEnv X scope s1.heap.objs.size f c')) _ _
    have grown : ∀ b o, s1.heap.get? b = some o → h₁.get? b = some o := fun b o e => hsb.extBut b o (Nat.ne_of_lt (Heap.lt_size e)) (Heap.get?_push_of_some _ e)
    have inside := lam_in (A := X.A.deeper (envOfC qg sg s.heap.objs.size g cdg)) (outer := envOfC qg sg s.heap.objs.size g cdg :: X.stack) (E := E) (f := f) (c' := c') (tk := s1.toks + bs.length) I L J.env0 hr.hd since hns grown
    refine PySem.W.kla_codeExpr (wpAny_mono ((hbody _ _ s1 HZ (hr.deeper _)).run [] _ _ HZ Q inside hb) (fun v s' hq => ?_) fun e s' hq => hq)
    obtain ⟨w', H', K1, r1, q1⟩ := hq
    exact ⟨w', H', K1.os, K1.bare, K1.base, K1.hok, r1, q1⟩
  have out : Passes (L2.CX X.prog X.w) ((cxOf CXg X.prog X.w X.K X.mg X.base Ng qg sg g cdg X.A X.stack s H Eg).tr pn xe) E := passes_call tk hW
  refine wpAny_call (codeAny_mono go fun r s' hq => ?_)
  match r, hq with
  | .error e, hq => exact out pinsZ σZ HZ s1 e s' J hq
  | .ok (.ret u), hq => exact J.after hq
  | .ok .next, hq => exact hq.elim
  | .ok .brk, hq => exact hq.elim
  | .ok .cont, hq => exact hq.elim
end
end DL
set_option Elab.async false
set_option linter.all false
set_option maxRecDepth 100000
set_option maxHeartbeats 2000000
namespace DL
open PySem PySem.Spec PyProof.Rows L2
/-- what _law_try makes of what the lambda gives -/
def noK (Good : Addr → Prop) (k : DK) : DX := fun C fs M1 => Good C ∧ ∃ code vals, List.lookup ("code" : Str) fs = some (.str code) ∧ fieldsOf code fs = some vals ∧ vals.length ≤ 2 ∧ k (.tup (.str "no" :: .str code :: vals)) M1
section
variable {X : Cx} {cs : List Value} {g fF f c' : Addr} {t0 : Option Addr} {fdF : FuncData} {k : Nat} {params : Arguments} {body : Expr} {scope : Scope} {τ : DE} {pins : List (Addr × Obj)} {σ : L2.St} {s : Shared} {s1 : Sta} {ρ : DEnv} {kk : DK} {Q : VK}
/-- _law_try(f), f a tracked lambda of X, called where X holds -/
theorem run_tryT (TF : TryF X.prog X.w X.K X.mg X.base cs g fF fdF) (I1 : Inv X pins σ s1.H s) (er1 : ER X.K s1 σ ρ) (hlam : s1.G f = some (.ext (lamP X params body scope f c' t0))) (hT : ∀ b, t0 = some b → s1.G b = some (.tup [.int 0])) (hc1 : s1.G c' = some (LamX.CodeO c' (X.env.qual ++ "<lambda>"))) (hr : Room (k + 2) X.A) (L : LamN X.N X.env.scope scope) (hbind : LamB t0.isSome params body scope)
    (hbody : ∀ (A : Around) (outer : List Env) (s : Shared) (H : Hp) (E : XK) (f c' : Addr), Room k (A.deeper (LamX.lamEnv X scope s.heap.objs.size f c')) → Passes (L2.CX X.prog X.w) (LamX.lamCx X A outer s H E scope f c') E → DP (LamX.lamCx X A outer s H E scope f c') E body τ)
    (q : τ ρ s1.M (fun d M1 => kk (.tup [.str "told", d]) M1) (noK (GoodX X.K cs) kk)) (pp : Post X.K s1 kk Q) :
    codeAny (model X.prog X.w) X.A (.call (.ref g) ⟨[.ref f], []⟩) (CR (L2.CX X.prog X.w) X.stack X.prog X.w s1.H s Q (fun _ _ _ => False)) s := by
  obtain ⟨pg, sg, dV, kV, doc, pm, cdv, ct, oc, an, od, osl, j1, j2, k1, k2, k3, p1, p2, p3, p4, p5, p6, p7, p8, p9, q1, q2, q3, q4, q5, q6, q7, q8, q9, r1, r2, lk, hcg, hb, Sg, n1, n2, n3, n4, n5, n6⟩ := TF.f
  obtain ⟨c1, c2, c3, rfl, m1, m2, m3⟩ := TF.cls
  have ok1 := er1.ok
  refine LamX.run_ofS (N := ["_law_ask", "_law_e"]) (ps := ["_law_ask"]) (us := [.ref f]) (vs := [.ref f]) (k := k + 1) lk hcg Sg hr I1.env0 (hb s [.ref f] I1.kIn rfl) (.cons rfl .nil) rfl fun hr' => ?_
  let Ech : XK := fun cls d H' => ∃ C dd, cls = .ref C ∧ d = some dd ∧ GoodX X.K [c1, c2, c3] C ∧ ∀ (σ' : L2.St), σ'.length = 2 → ∀ a, H' a = none → upS X.K (fun _ _ _ => False) (τSuite a dd) { nx := fun _ H' => Q .non H', rt := Q } (σ'.set 1 (some (.ref a))) H'
  let ts : Addr → Value → Option Addr → TS := fun a cls d D σ' H' => ∃ C dd, cls = .ref C ∧ d = some dd ∧ GoodX X.K [c1, c2, c3] C ∧ upS X.K (fun _ _ _ => False) (τSuite a dd) D σ' H'
  have hsu : ∀ (a : Addr) (oe : Obj) (cls : Value) (d : Option Addr) (pn : List (Addr × Obj)), Zc cls d oe → (∃ vs, oe.data = .fields vs) →
      PSs ((cxOf (L2.CX X.prog X.w) X.prog X.w X.K X.mg X.base ["_law_ask", "_law_e"] "_law_try" sg g cdv X.A X.stack s s1.H (fun _ _ _ => False)).suite a ((a, oe) :: pn))
        [.Return (some (.BinOp (.Tuple [.Constant (.str "no") j2 q2, .Attribute (.Name "_law_e" q3) "code" q4] k3 q5) .Add (.Call (.Name "_law_fields" q7) [.Name "_law_e" q6] [] q8) q9)) q1] (ts a cls d) := by
    intro a oe cls d pn hz hfl
    refine ⟨fun pins2 s2 σ2 H2 D2 I2 h2 => ?_⟩
    obtain ⟨C, dd, rfl, rfl, hG, hu⟩ := h2
    exact (suite_D (X := (cxOf (L2.CX X.prog X.w) X.prog X.w X.K X.mg X.base ["_law_ask", "_law_e"] "_law_try" sg g cdv X.A X.stack s s1.H (fun _ _ _ => False)).suite a ((a, oe) :: pn)) rfl (.inl n2) List.mem_cons_self hG hz hfl (roomH1 hr') TF.F n6 TF.mF TF.kF TF.bF rfl rfl rfl rfl rfl).run pins2 s2 σ2 H2 D2 I2 hu
  refine ⟨_, pss_one (ps_try3 (X := cxOf (L2.CX X.prog X.w) X.prog X.w X.K X.mg X.base ["_law_ask", "_law_e"] "_law_try" sg g cdv X.A X.stack s s1.H (fun _ _ _ => False)) (i := 1) (n := "_law_e")
    (tb := fun W D σ' H' => (∀ cls d σ'' H'', Ech cls d H'' → W cls d σ'' H'') ∧ σ'[0]? = some (some (.ref f)) ∧ H' f = some (.ext (lamP X params body scope f c' t0)) ∧ (∀ b, t0 = some b → H' b = some (.tup [.int 0])) ∧ H' c' = some (LamX.CodeO c' (X.env.qual ++ "<lambda>")) ∧ up X.K Ech τ σ H' fun v H'' => ∀ p, H'' p = none → D.rt (.ref p) (upd H'' p (.tup [.str "told", v]))) (ts := ts)
    rfl rfl Sg.nd rfl n2 n3 m1 n4 m2 n5 m3 (fun W pn xe tk => ?_) hsu), ?_⟩
  · refine ⟨fun pins2 s2 σ2 H2 D2 I2 h2 => ?_⟩
    obtain ⟨hW, e1, e0, eT, e2, e3⟩ := h2
    have act := pe_actT (CXg := L2.CX X.prog X.w) (Eg := fun _ _ _ => False) (Ng := ["_law_ask", "_law_e"]) (qg := "_law_try") (sg := sg) (g := g) (cdg := cdv) (k := k) (i := 0) (a := "_law_ask") (pn := pn) (xe := xe) (W := W) (E := Ech) (tb := up X.K Ech τ) (f := f) (c' := c') (t := t0) (p1 := p2) (p2 := p3)
      I1 L hbind tk hW hr' (fun A outer s H hr2 => hbody A outer s H Ech f c' hr2 (pass_own rfl rfl rfl rfl)) rfl (.inl n1)
    refine (pss_one (ps_ret (pos := p5) (pe_tup (x1 := k1) (pos := p4) (pa_cons (pe_str (x := "told") (j := j1) (pos := p1)) (pa_cons act pa_nil rfl) rfl)))).run pins2 s2 σ2 H2 D2 I2 ?_
    refine ⟨e1, e0, eT, e2, ?_⟩
    obtain ⟨ρ', t0, kk', xx', e4, er', q', pp', px'⟩ := e3
    exact ⟨ρ', t0, kk', xx', e4, er', q', fun d t hk st ok v r => ⟨by show 2 ≤ sizeLine; decide, fun p hp => pp' d t hk st ok v r p hp⟩, px'⟩
  · refine ⟨fun cls d σ'' H'' hE => ?_, rfl, ok1.sub _ _ hlam, fun b e => ok1.sub _ _ (hT b e), ok1.sub _ _ hc1, ?_⟩
    · obtain ⟨C, dd, rfl, rfl, hG, hs⟩ := hE
      exact ⟨hG.ex, fun hl a hn => ⟨C, dd, rfl, rfl, hG, hs σ'' hl a hn⟩⟩
    · refine ⟨ρ, s1, _, _, rfl, er1, q, fun d t hk st ok v r p hp => (pp.step st).tup hk ok (.cons .str (.cons r .nil)) hp, fun C fs t hx st ok dx fvs e1 e2 e3 e4 r => ?_⟩
      obtain ⟨hG, code, vals, l1, l2, l3, hk⟩ := hx
      refine ⟨C, dx, rfl, rfl, hG, fun σ' hl a hn => ?_⟩
      obtain ⟨oku, stu, sau⟩ := ok.shown2 st e4 e2 e3 e1
      obtain ⟨v0, v1, rfl⟩ : ∃ v0 v1, σ' = [v0, v1] := by
        match σ', hl with
        | [v0, v1], _ => exact ⟨v0, v1, rfl⟩
      refine ⟨[none, some (.exc a dx fs)], ⟨t.H, upd t.G dx (.xd fvs), t.M⟩, { nx := fun _ _ => False, rt := kk, m0 := t.M }, fun _ _ _ => False, rfl, ⟨oku, rfl, fun i d hd => ?_⟩, ?_, ⟨fun _ _ z => z.elim, ⟨_, Step.refl _, oku, rfl, pp.step stu⟩, fun _ _ z => z.elim, fun _ _ z => z.elim⟩, PostX.never⟩
      · match i, hd with
        | 1, hd =>
          cases hd
          exact ⟨.ref a, rfl, .exc upd_same (r.same sau)⟩
      · refine ⟨_, rfl, fs, .str code, rfl, l1, ⟨by show 2 ≤ sizeLine; decide, _, rfl, rfl, fs, code, vals, rfl, l1, l2, l3, ?_⟩⟩
        exact ⟨by have : (4 : Nat) ≤ sizeLine := by decide
                  show 2 + vals.length ≤ sizeLine; omega, hk⟩
end
end DL
set_option Elab.async false
set_option linter.all false
set_option maxRecDepth 100000
set_option maxHeartbeats 2000000
namespace DL
open PySem PySem.Spec PyProof.Rows L2
/-- an element's reading that also sees the outer def's data ρX -/
def upX (K : PySem.W.Frag) (E : XK) (ε : DEnv → DE) (σX : L2.St) : TE := fun σ H Q => ∃ ρX ρ s k x, s.H = H ∧ ER K s σX ρX ∧ ER K s σ ρ ∧ ε ρX ρ s.M k x ∧ Post K s k Q ∧ PostX K E s x
def dLcI (ι : DI) (γ : DG) (θ : DT) (ε : DEnv → DE) (vs : List Nat) : DE := fun ρ M k x => dLc ι γ θ (ε ρ) vs ρ M k x
theorem up_lcI {K : PySem.W.Frag} {E : XK} {ι : DI} {g : TG} {γ : DG} {θ : DT} {ε : DEnv → DE} {vs : List Nat} {σ : L2.St} {H : Hp} {Q : VK} (gp : GPair K g γ vs) (h : up K E (dLcI ι γ θ ε vs) σ H Q) : tLc (upI K E ι) g (upT K E0 θ) (upX K E0 ε σ) vs σ H Q := by
  obtain ⟨ρ, s, k, x, rfl, er, q, p, px⟩ := h
  refine ⟨ρ, s, _, x, rfl, er, q, px, fun ds s1 q1 st1 ok1 J it => ?_⟩
  rcases q1 with ⟨hlen, I, i0, turn, fin⟩ | z
  case no => exact z.elim
  intro L hL
  have inv0 : ∃ (acc : List D) (vs' : List V) (s' : Sta), s'.H = upd s1.H L (.lst []) ∧ Ok K s' ∧ Step s1 s' ∧ s'.G L = none ∧ s'.M L = none ∧ s'.H L = some (.lst vs') ∧ Reps K s'.G vs' acc ∧ acc.length ≤ 0 ∧ I 0 acc s'.M := by
    obtain ⟨k1, st⟩ := ok1.hide (o := .lst []) (Step.refl s1) hL (ok1.freeG hL) (ok1.freeM hL)
    exact ⟨[], [], ⟨_, _, _⟩, rfl, k1, st, ok1.freeG hL, ok1.freeM hL, upd_same, .nil, Nat.le_refl _, i0⟩
  refine ⟨fun j m H' => m = ds.length - j ∧ j ≤ ds.length ∧ ∃ (acc : List D) (vs' : List V) (s' : Sta), s'.H = H' ∧ Ok K s' ∧ Step s1 s' ∧ s'.G L = none ∧ s'.M L = none ∧ s'.H L = some (.lst vs') ∧ Reps K s'.G vs' acc ∧ acc.length ≤ j ∧ I j acc s'.M,
    ⟨ds.length, rfl, Nat.zero_le _, inv0⟩, ?_⟩
  rintro j m H' ⟨rfl, hj, acc, vs', s', rfl, ok', st', gL, mL, hL', rs, hal, ij⟩
  by_cases hlt : j < ds.length
  · refine .inr ⟨it.go j s' st' ok' hlt, fun H2 => ∃ (acc : List D) (vs' : List V) (s' : Sta), s'.H = H2 ∧ Ok K s' ∧ Step s1 s' ∧ s'.G L = none ∧ s'.M L = none ∧ s'.H L = some (.lst vs') ∧ Reps K s'.G vs' acc ∧ acc.length ≤ j + 1 ∧ I (j + 1) acc s'.M,
      fun H2 z => ⟨ds.length - (j + 1), by omega, rfl, hlt, z⟩, fun v H2 y => ?_⟩
    obtain ⟨d, hd⟩ : ∃ d, ds[j]? = some d := ⟨ds[j], by simp [hlt]⟩
    obtain ⟨u, rfl, eM, stu, oku, ru⟩ := it.yld j s' v H2 st' ok' y d hd
    have ij' : I j acc u.M := by rw [eM]; exact ij
    obtain ⟨hLu, gLu, mLu⟩ := stu.hid L _ hL' gL mL
    have erX : ER K u σ ρ := er.step ((st1.trans st').trans stu) oku
    have eru : ER K u (wipe σ vs) (wipeD ρ vs) := erX.wipe vs
    refine gp.run v d _ _ u _ _ eru ru (turn j d acc u.M hd ij') fun ρ3 σ3 q3 er3 w3 => ⟨w3.trans (wipe_wipe σ vs), ?_⟩
    refine ⟨ρ3, u, _, _, rfl, er3, q3, fun b s4 q4 st4 ok4 => ?_, PostX.never⟩
    obtain ⟨hL4, gL4, mL4⟩ := st4.hid L _ hLu gLu mLu
    cases b with
    | true =>
      rw [if_pos rfl] at q4 ⊢
      refine ⟨ρ, ρ3, s4, _, _, rfl, erX.step st4 ok4, er3.step st4 ok4, q4, fun yd s5 q5 st5 ok5 yv ry => ?_, PostX.never⟩
      obtain ⟨hL5, gL5, mL5⟩ := st5.hid L _ hL4 gL4 mL4
      have rs5 : Reps K s5.G vs' acc := rs.same ((stu.trans st4).trans st5).same
      refine ⟨vs', hL5, by rw [rs5.length]; omega, ?_⟩
      obtain ⟨k6, st6⟩ := ok5.hide (o := .lst (vs' ++ [yv])) (((st'.trans stu).trans st4).trans st5) hL gL5 mL5
      exact ⟨acc ++ [yd], vs' ++ [yv], ⟨_, _, _⟩, rfl, k6, st6, gL5, mL5, upd_same, rs5.append (.cons ry .nil), by simp; omega, q5⟩
    | false =>
      rw [if_neg Bool.false_ne_true] at q4 ⊢
      exact ⟨acc, vs', s4, rfl, ok4, (st'.trans stu).trans st4, gL4, mL4, hL4, rs.same (stu.trans st4).same, by omega, q4⟩
  · have ej : j = ds.length := by omega
    subst ej
    refine .inl ⟨it.stop s' st' ok', ?_⟩
    obtain ⟨k6, st6, sm⟩ := ok'.shown st' hL gL mL hL'
    exact p _ ⟨s'.H, upd s'.G L (.lst vs'), s'.M⟩ (fin acc s'.M ij) (st1.trans st6) k6 _ (.lst upd_same (rs.same sm))
section
variable {X : Cx} {E : XK} {elt tg iter : Expr} {ifs : List Expr} {scope : Scope} {own : List (Str × Nat)} {pos : Pos} {ι : DI} {g : TG} {γ : DG} {θ : DT} {ε : DEnv → DE}
theorem d_lcI (hc : X.calm = true) (hN : X.N.Nodup) (hi : DPI X E tg iter ι) (ok : BlkOk X.N X.env.scope scope own) (gp : GPair X.K g γ (own.map (·.2)))
    (hg : ∀ (s : Shared) (H : Hp) (C : Addr) (cl : List (Str × Addr)) (fp : List Addr), PG (X.blk s H scope (compEnvC scope cl C X.env) fp) tg g) (ht : ∀ (s : Shared) (H : Hp) (C : Addr) (cl : List (Str × Addr)) (fp : List Addr), DPTs (X.blk s H scope (compEnvC scope cl C X.env) fp) E0 ifs θ)
    (he : ∀ (pins : List (Addr × Obj)) (σ : L2.St) (s : Shared) (H : Hp) (C : Addr) (cl : List (Str × Addr)) (fp : List Addr), (∀ (pins' : List (Addr × Obj)) (σ' : L2.St) (H' : Hp) (s' : Shared), Inv (X.blk s H scope (compEnvC scope cl C X.env) fp) pins' σ' H' s' → Inv X pins σ H' s') → PE (X.blk s H scope (compEnvC scope cl C X.env) fp) elt (upX X.K E0 ε σ))
    (hs : ∀ x, foldedSetIterable iter X.env x = pure x := by intro _; rfl) :
    DP X E (.ListComp elt [⟨tg, iter, ifs, 0⟩] scope pos) (dLcI ι γ θ ε (own.map (·.2))) := pe_mono (pe_lcI (tt := upT X.K E0 θ) (te := upX X.K E0 ε) hc hN hi ok hg ht he hs) fun _ _ _ h => up_lcI gp h
end
end DL
set_option Elab.async false
set_option linter.all false
set_option maxRecDepth 100000
set_option maxHeartbeats 2000000
namespace DL
open PySem PySem.Spec PyProof.Rows L2
/-- a lambda's text, read -/
structure LamK (X : Cx) (k : Nat) (d : Bool) (params : Arguments) (body : Expr) (scope : Scope) (τ : DE) : Prop where
  L : LamN X.N X.env.scope scope
  bind : LamB d params body scope
  body : ∀ (A : Around) (outer : List Env) (s : Shared) (H : Hp) (E : XK) (f c' : Addr), Room k (A.deeper (LamX.lamEnv X scope s.heap.objs.size f c')) → Passes (L2.CX X.prog X.w) (LamX.lamCx X A outer s H E scope f c') E → DP (LamX.lamCx X A outer s H E scope f c') E body τ
/-- _law_try(y), y the slot i of the block: one of the lambdas LK -/
def dTryV (X : Cx) (Good : Addr → Prop) (LK : Bool → Arguments → Expr → Scope → DE → Prop) (i : Nat) : DEnv → DE := fun ρX ρ M k _ => ∃ f c t params body scope τ, ρ[i]? = some (some (.lam f c (X.env.qual ++ "<lambda>") (lamP X params body scope f c t) t)) ∧ LK t.isSome params body scope τ ∧ τ ρX M (fun d M1 => k (.tup [.str "told", d]) M1) (noK Good k)
section
variable {X : Cx} {cs : List Value} {g fF : Addr} {fdF : FuncData} {k i : Nat} {LK : Bool → Arguments → Expr → Scope → DE → Prop} {y : Str} {sB : Shared} {HB : Hp} {scopeB : Scope} {ce : Env} {fp : List Addr} {pins0 : List (Addr × Obj)} {σX : L2.St} {p py pos : Pos}
theorem p_tryIn (TF : TryF X.prog X.w X.K X.mg X.base cs g fF fdF) (hL : ∀ d params body scope τ, LK d params body scope τ → LamK X k d params body scope τ) (hr : Room (k + 2) X.A) (hg : Gl (X.blk sB HB scopeB ce fp) "_law_try") (hN : X.N[i]? = some y) (hv : Vis ce.scope y)
    (back : ∀ (pins' : List (Addr × Obj)) (σ' : L2.St) (H' : Hp) (s' : Shared), Inv (X.blk sB HB scopeB ce fp) pins' σ' H' s' → Inv X pins0 σX H' s') (hd : (y == ("__debug__" : Str)) = false := by decide) (hcd : (y == ("__classdict__" : Str)) = false := by decide) :
    PE (X.blk sB HB scopeB ce fp) (.Call (.Name "_law_try" p) [.Name y py] [] pos) (upX X.K E0 (dTryV X (GoodX X.K cs) LK i) σX) := by
  refine ⟨fun pins s σ H Q I h => ?_⟩
  obtain ⟨ρX, ρ, s0, kk, xx, rfl, erX, er, ⟨f, c, t, params, body, scope, τ, hi, hk, q⟩, pp, px⟩ := h
  obtain ⟨v, hv1, rv⟩ := er.at_ i _ hi
  cases rv with
  | lam hG hcG hT =>
  have LL := hL _ _ _ _ _ hk
  refine wpAny_Call_Name_kw (ld_glob I hg TF.m ?_ (by decide))
  refine PySem.W.callWith_K (h₀ := X.base) I.ok.mod.kin TF.k ?_ (by rfl) (by rfl)
  show wpAny _ _ (spliced ((false, eval (.Name y py) (X.blk sB HB scopeB ce fp).env) :: backTo pos (starEach [] (X.blk sB HB scopeB ce fp).env))) _ _ s
  refine Calls.spliced_cons (thn ((pe_var (X := X.blk sB HB scopeB ce fp) (pos := py) (i := i) hN hv hd hcd).run pins s σ s0.H (fun v H1 => v = .ref f ∧ H1 = s0.H) I ⟨.ref f, hv1, rfl, rfl⟩) fun u s1 ⟨v', H1, I1, r1, e1, e2⟩ => ?_)
  subst e1
  rw [e2] at I1
  obtain rfl : u = Value.ref f := r1
  refine Calls.spliced_nil ⟨I1.kIn, ?_⟩
  have rc := run_tryT TF (back _ _ _ _ I1) erX hG hT hcG hr LL.L LL.bind LL.body q pp
  refine wpAny_call (codeAny_mono rc fun r s2 hq => ?_)
  match r, hq with
  | .error e, hq =>
    obtain ⟨_, _, _, _, _, _, _, _, _, _, _, _, z⟩ := hq
    exact z.elim
  | .ok (.ret u), hq => exact I1.after hq
  | .ok .next, hq => exact hq.elim
  | .ok .brk, hq => exact hq.elim
  | .ok .cont, hq => exact hq.elim
end
end DL
set_option Elab.async false
set_option linter.all false
set_option maxRecDepth 100000
set_option maxHeartbeats 2000000
namespace DX
open PySem PySem.W PySem.Spec PySem.Calls PyProof.Rows Builtin
section
variable {prog : Program} {w : World} {A : Around} {E : Value → Shared → Prop} {s : Shared} {K : Frag} {x C L f : Addr} {h₀ : Heap} {m : Str → Option Value} {ox : Obj} {od : Option Obj} {b tb : Value}
/-- bool(x) by the class's own __bool__ -/
theorem bool_own {Q : Value → Shared → Prop} (F : Fr h₀ L s.heap m) (X₀ : K.In h₀) (I : InstAt s.heap x ox C od) (hs : findIn K (.ref C) "__bool__" = some (some (.ref f))) (hf : isFn K (.ref f) = true)
    (h : wpAny (model prog w) A.in1.in1 (call (.ref f) [.ref x]) (PySem.W.BoolBack fun b s' => Q (.bool b) s') E s) : wpAny (model prog w) A (call (.type "bool") [.ref x]) Q E s := by
  refine callType_codes (T := "bool") (Bi := Builtin.«object.__init__») (Q₁ := fun r s₁ => ∃ b, r = .bool b ∧ Q r s₁) PySem.F.called_bool (PySem.F.typeCall_bool_1 _) PySem.F.entry_object_init ?_ ?_
  · refine codeAny_of_tree ?_
    show wpAny _ A.in1.in1 (do checkBuiltinCall "bool.__new__" ⟨[.type "bool", .ref x], []⟩; again (.builtin "bool.__new__" ⟨[.type "bool", .ref x], []⟩)) _ _ s
    refine wpAny_bind (wpAny_of_eq (PySem.F.newCall_bool_1 _) (wpAny_pure ⟨plainId_quiet (by decide +kernel) _, codeAny_builtin PySem.F.entry_bool_new ?_⟩))
    rw [Around.under_plainId (by decide +kernel) _]
    have tr : ∀ {Q' : Bool → Shared → Prop}, (∀ b s', Q (.bool b) s' → Q' b s') → wpAny (model prog w) A.in1.in1 (truthy (.ref x)) Q' E s := fun hk => wpAny_mono (truthy_K F X₀ I hs hf h) hk fun _ _ y => y
    have f1 := PySem.F.conv_sub_bool
    refine wpAny_mono (Q := fun fin s' => ∃ b, fin = .done (.ret (.bool b)) ∧ Q (.bool b) s') (E := E) ?_ (fun fin s' hq => ?_) fun _ _ y => y
    · obtain ⟨hp, g, d, tk, os⟩ := s
      repeat (any_goals (first | assumption | with_reducible apply tr | wp_step))
      all_goals (first | (intro b s' hq; repeat (any_goals (first | exact ⟨_, rfl, hq⟩ | wp_step))) | skip)
    · obtain ⟨b, rfl, hq⟩ := hq
      exact ⟨b, rfl, hq⟩
  · rintro obj s₁ ⟨b, rfl, hq⟩
    exact ⟨rfl, PySem.F.args_object_init_2 _ _, object_init_meets PySem.F.called_bool.init.lookup PySem.F.called_bool.made (by decide) prog w A.in1 _ s₁ ⟨rfl, rfl, hq⟩⟩
/-- x != b, the class having an own __eq__ and object's __ne__ -/
theorem ne_own {Q : Value → Shared → Prop} (hu : A.units + 1 < cLine) (F : Fr h₀ L s.heap m) (X₀ : K.In h₀) (I : InstAt s.heap x ox C od) (hb : Looks (model prog w) s.heap (typeOf b) tb) (hn : notFirst K C tb = true)
    (hne : findIn K (.ref C) "__ne__" = some (some (.builtin "object.__ne__"))) (hm : mroIn K C (.type "object") = some true) (hs : findIn K (.ref C) "__eq__" = some (some (.ref f))) (hf : isFn K (.ref f) = true)
    (h : wpAny (model prog w) A.in1 (call (.ref f) [.ref x, b]) (PySem.W.BoolBack fun r s' => Q (.bool (!r)) s') E s) : wpAny (model prog w) A (richCompare .NotEq (.ref x) b) Q E s := by
  have X := X₀.keeps F.keep
  have inner : wpAny (model prog w) A (call (.builtin "object.__ne__") [.ref x, b]) (fun v s' => ∃ r, v = .bool r ∧ Q v s') E s := by
    refine wpAny_call (codeAny_call_builtin PySem.F.slot_object_ne.plain PySem.F.entry_object_ne (check_slot (i := "object.__ne__") (owner := "object") (n := "__ne__") (by decide +kernel) (by decide +kernel) (I.type.andThen (looks_mroIn X hm)) (PySem.F.args_object_ne_2 _ _) ?_))
    unfold Builtin.«object.__ne__»
    refine wpAny_bind (m := slotArgs "__ne__" 1 _) (wpAny_pure ?_)
    refine wpAny_bind (m := cRoomFor _ _) (wpAny_cRoomFor (by show A.units + 1 < cLine; exact hu) ?_)
    refine wpAny_bind (m := callSpecialIfBound? (.ref x) (Str.ofString "__eq__") _) (ifBound_K X I hs hf (wpAny_mono h (fun r s' hq => ?_) fun _ _ y => y))
    cases r <;> first | exact hq.elim | skip
    exact wpAny_bind (wpAny_truthy_bool (wpAny_pure ⟨_, rfl, hq⟩))
  have one : wpAny (model prog w) A (tryCompare (.ref x) (cmpInfo .NotEq).2.1 b) (fun r s' => ∃ v, r = some v ∧ Q v s') E s := by
    unfold tryCompare
    have step : wpAny (model prog w) A (callSpecialIfBound? (.ref x) (cmpInfo .NotEq).2.1 [b]) (fun r s' => ∃ t, r = some (.bool t) ∧ Q (.bool t) s') E s := by
      simp only [callSpecialIfBound?, bindSpecialIfBound?]
      refine wpAny_holding (wpAny_bind (wpAny_bind (wpAny_bind (I.type.here ((looks_findIn X hne).here ?_)))))
      refine wpAny_bind (wpAny_askSetting (wpAny_ite ?_))
      have fin : wpAny (model prog w) A (call (.builtin "object.__ne__") ([.ref x] ++ [b]) >>= fun v => pure (some v)) (fun r s' => ∃ t, r = some (.bool t) ∧ Q (.bool t) s') E s :=
        wpAny_bind (wpAny_mono inner (fun v s' h' => by obtain ⟨r, rfl, q⟩ := h'; exact wpAny_pure ⟨r, rfl, q⟩) fun _ _ h' => h')
      split
      · exact wpAny_bind ((Looks.of_pure (PySem.F.slot_object_ne.bind _)).here (wpAny_pure (by exact fin)))
      · exact wpAny_tryCatch (wpAny_bind ((Looks.of_pure (PySem.F.slot_object_ne.bind _)).here (wpAny_pure (by exact fin))))
    refine wpAny_bind (wpAny_mono step (fun v s' hv => ?_) fun _ _ e => e)
    obtain ⟨t, rfl, q⟩ := hv
    exact wpAny_pure ⟨_, rfl, q⟩
  unfold richCompare
  simp only [oneThing_ref]
  refine wpAny_holding (wpAny_bind (wpAny_cRoomFor (by omega) ?_))
  refine wpAny_bind (I.type.here (wpAny_bind (hb.here ?_)))
  split
  · rename_i q
    have e : subIn K tb (.ref C) = some false := by
      rcases Bool.or_eq_true_iff.mp hn with e | e
      · rw [beq_iff_eq.mp e] at q; simp at q
      · exact beq_iff_eq.mp e
    refine wpAny_bind ((looks_subIn X e).here ?_)
    simp only [Bool.false_eq_true, if_false]
    refine wpAny_bind (wpAny_mono one (fun r s' z => ?_) fun _ _ e => e)
    obtain ⟨v, rfl, hq⟩ := z
    exact wpAny_pure hq
  · refine wpAny_bind (wpAny_pure ?_)
    simp only [Bool.false_eq_true, if_false]
    refine wpAny_bind (wpAny_mono one (fun r s' z => ?_) fun _ _ e => e)
    obtain ⟨v, rfl, hq⟩ := z
    exact wpAny_pure hq
end
end DX
set_option Elab.async false
set_option linter.all false
set_option maxRecDepth 100000
set_option maxHeartbeats 2000000
namespace DL
open PySem PySem.Spec PyProof.Rows L2
section
variable {X : Cx} {E : XK} {C f : Addr} {fd : FuncData} {ps : List Str} {φ : Ct} {k n : Nat} {pins : List (Addr × Obj)} {σ : L2.St} {H : Hp} {s : Shared}
/-- a def that raises nothing is called from within a builtin -/
theorem run_At {A : Around} {E' : Value → Shared → Prop} {vs : List V} {us : List Value} {Q : VK} (F : FnOk X.prog X.w X.K X.mg X.base (L2.CX X.prog X.w) k f fd ps (spD X.K n φ)) (hr : Room k A) (e0 : Env0 X.prog X.w X.K X.mg X.base A X.stack s H) (hb : KBd X.K fd ps n [] (fun us _ => us)) (I : Inv X pins σ H s) (r : Vals vs us)
    (h : ∃ s ds kk, s.H = H ∧ Ok X.K s ∧ Reps X.K s.G vs ds ∧ ds.length = n ∧ φ ds s.M kk (fun _ _ _ => False) ∧ Post X.K s kk Q) :
    wpAny (model X.prog X.w) A (call (.ref f) us) (EP X pins σ Q) E' s := by
  obtain ⟨s0, ds, kk, rfl, o, r1, l1, q, p⟩ := h
  obtain ⟨g, gV, hb, hrep⟩ := hb.ex
  have rr := hb.rel (ws := []) (zs := []) r .nil
  have e1 : us.length = n := r.length.symm.trans (r1.length.trans l1)
  have hs : spD X.K n φ (gV vs []) s0.H Q (fun _ _ _ => False) := ⟨s0, ds, kk, _, rfl, o, hrep r1 .nil l1 rfl, l1, q, p, PostX.never⟩
  refine wpAny_call (codeAny_mono (F.run A X.stack s s0.H ⟨us, []⟩ (g us []) (gV vs []) Q _ hr e0 (hb.to s us [] I.kIn e1 rfl) rr hs) fun r s' hq => ?_)
  cases r with
  | error e =>
    obtain ⟨_, _, _, _, _, _, _, _, _, _, _, _, z⟩ := hq
    exact z.elim
  | ok fl =>
    cases fl with
    | ret u => exact I.after hq
    | next => exact False.elim hq
    | brk => exact False.elim hq
    | cont => exact False.elim hq
/-- a text that the class's own def tells -/
def dTxtO (C : Addr) (φ : Ct) : D1 := fun u M k _ => (∃ fs, insOf u M = some (C, fs)) ∧ φ [u] M (fun r M2 => ∃ y, r = .str y ∧ k (.str y) M2) (fun _ _ _ => False)
def dOneN (g : D1) : DN := fun ds M k x => ∃ u, ds = [u] ∧ g u M k x
theorem txt_run {A : Around} {E' : Value → Shared → Prop} {u : D} {s0 : Sta} {kk : DK} {Q : VK} {a : Addr} (F : FnOk X.prog X.w X.K X.mg X.base (L2.CX X.prog X.w) k f fd ps (spD X.K 1 φ)) (hr : Room k A) (e0 : Env0 X.prog X.w X.K X.mg X.base A X.stack s s0.H) (hb : KBd X.K fd ps 1 [] (fun us _ => us)) (I : Inv X pins σ s0.H s)
    (ok : Ok X.K s0) (rv : Rep X.K s0.G (.ref a) u) (q : φ [u] s0.M (fun r M2 => ∃ y, r = .str y ∧ kk (.str y) M2) (fun _ _ _ => False)) (p : Post X.K s0 kk Q) :
    wpAny (model X.prog X.w) A (call (.ref f) [.ref a]) (PySem.W.StrBack (EP X pins σ Q)) E' s := by
  refine wpAny_mono (run_At (Q := fun v H' => ∃ y, v = .str y ∧ Q (.str y) H') F hr e0 hb I (vs := [.ref a]) (.cons rfl .nil) ⟨s0, [u], _, rfl, ok, .cons rv .nil, rfl, q, ?_⟩) (fun w s' z => ?_) fun _ _ x => x
  · rintro r t ⟨y, rfl, qy⟩ st okt v hv
    cases hv
    exact ⟨y, rfl, p _ t qy st okt _ .str⟩
  · obtain ⟨z', H', I', rz, y, rfl, qz⟩ := z
    obtain ⟨tk, rfl⟩ := rz
    exact ⟨.str y, H', I', ⟨tk, rfl⟩, qz⟩
theorem units2 {A : Around} {k : Nat} (hr : Room (k + 2) A) : A.in1.in1.units < cLine := by have := hr.un; show A.units + 1 + 1 < _; omega
theorem c_strO (hs : PySem.W.findIn X.K (.ref C) "__str__" = some (some (.ref f))) (hf : PySem.W.isFn X.K (.ref f) = true) (F : FnOk X.prog X.w X.K X.mg X.base (L2.CX X.prog X.w) k f fd ps (spD X.K 1 φ)) (hb : KBd X.K fd ps 1 [] (fun us _ => us)) (hr : Room (k + 2) X.A) :
    CallR X (.type "str") (rA X.K E (dOneN (dTxtO C φ))) := by
  intro pins s σ H xs us Q I r h
  obtain ⟨s0, ds, kk, xx, rfl, ok, hx, ⟨u, rfl, ⟨fs, hi⟩, q⟩, p, px⟩ := h
  obtain ⟨v, rfl, rv⟩ := hx.one
  obtain ⟨a, da, fvs, rfl, ha, rf⟩ := ins_of ok rv hi
  obtain ⟨u', rfl, ru⟩ := vals1 r
  obtain rfl : u' = Value.ref a := ru
  obtain ⟨_, O, _⟩ := ins_get I.hok ha
  obtain ⟨_, J, _⟩ := O.look
  exact PySem.W.kso_call (units2 hr) I.kIn J hs hf (txt_run F (Room.in1 (Room.in1 hr)) I.env0.in1.in1 hb I ok rv q p)
theorem c_reprO (hs : PySem.W.findIn X.K (.ref C) "__repr__" = some (some (.ref f))) (hf : PySem.W.isFn X.K (.ref f) = true) (F : FnOk X.prog X.w X.K X.mg X.base (L2.CX X.prog X.w) k f fd ps (spD X.K 1 φ)) (hb : KBd X.K fd ps 1 [] (fun us _ => us)) (hr : Room (k + 1) X.A) :
    CallR X (.builtin "repr") (rA X.K E (dOneN (dTxtO C φ))) := by
  intro pins s σ H xs us Q I r h
  obtain ⟨s0, ds, kk, xx, rfl, ok, hx, ⟨u, rfl, ⟨fs, hi⟩, q⟩, p, px⟩ := h
  obtain ⟨v, rfl, rv⟩ := hx.one
  obtain ⟨a, da, fvs, rfl, ha, rf⟩ := ins_of ok rv hi
  obtain ⟨u', rfl, ru⟩ := vals1 r
  obtain rfl : u' = Value.ref a := ru
  obtain ⟨_, O, _⟩ := ins_get I.hok ha
  obtain ⟨_, J, _⟩ := O.look
  obtain ⟨m, hF⟩ := I.fr
  exact PySem.W.repr_K (by have := hr.un; show X.A.units + 1 < _; omega) hF I.ok.mod.kin J hs hf (txt_run F (Room.in1 hr) I.env0.in1 hb I ok rv q p)
/-- bool(x) -/
def dBoolO (C : Addr) (φ : Ct) : D1 := fun u M k _ => (∃ fs, insOf u M = some (C, fs)) ∧ φ [u] M (fun r M2 => ∃ b, r = .bl b ∧ k (.bl b) M2) (fun _ _ _ => False)
theorem c_boolO (hs : PySem.W.findIn X.K (.ref C) "__bool__" = some (some (.ref f))) (hf : PySem.W.isFn X.K (.ref f) = true) (F : FnOk X.prog X.w X.K X.mg X.base (L2.CX X.prog X.w) k f fd ps (spD X.K 1 φ)) (hb : KBd X.K fd ps 1 [] (fun us _ => us)) (hr : Room (k + 2) X.A) :
    CallR X (.type "bool") (rA X.K E (dOneN (dBoolO C φ))) := by
  intro pins s σ H xs us Q I r h
  obtain ⟨s0, ds, kk, xx, rfl, ok, hx, ⟨u, rfl, ⟨fs, hi⟩, q⟩, p, px⟩ := h
  obtain ⟨v, rfl, rv⟩ := hx.one
  obtain ⟨a, da, fvs, rfl, ha, rf⟩ := ins_of ok rv hi
  obtain ⟨u', rfl, ru⟩ := vals1 r
  obtain rfl : u' = Value.ref a := ru
  obtain ⟨_, O, _⟩ := ins_get I.hok ha
  obtain ⟨_, J, _⟩ := O.look
  obtain ⟨m, hF⟩ := I.fr
  refine DX.bool_own hF I.ok.mod.kin J hs hf (wpAny_mono (run_At (Q := fun v H' => ∃ b, v = .bl b ∧ Q (.bl b) H') F (Room.in1 (Room.in1 hr)) I.env0.in1.in1 hb I (vs := [.ref a]) (.cons rfl .nil) ⟨s0, [u], _, rfl, ok, .cons rv .nil, rfl, q, ?_⟩) (fun w s' z => ?_) fun _ _ x => x)
  · rintro r t ⟨y, rfl, qy⟩ st okt v hv
    cases hv
    exact ⟨y, rfl, p _ t qy st okt _ .bl⟩
  · obtain ⟨z', H', I', rz, y, rfl, qz⟩ := z
    cases (show w = Value.bool y from rz)
    exact ⟨.bl y, H', I', rfl, qz⟩
/-- the class of the one argument decides -/
def dSelN (own g : DN) : DN := fun ds M k xx => match ds with
  | [u] => (match insOf u M with
    | some _ => own [u] M k xx
    | none => g [u] M k xx)
  | _ => False
theorem c_sel {fv : Value} {own g : DN} (h1 : CallR X fv (rA X.K E own)) (h2 : CallR X fv (rA X.K E g)) : CallR X fv (rA X.K E (dSelN own g)) := by
  intro pins s σ H xs us Q I r h
  obtain ⟨s0, ds, kk, xx, rfl, ok, hx, q, p, px⟩ := h
  unfold dSelN at q
  split at q
  · split at q
    · exact h1 pins s σ _ xs us Q I r ⟨s0, _, kk, xx, rfl, ok, hx, q, p, px⟩
    · exact h2 pins s σ _ xs us Q I r ⟨s0, _, kk, xx, rfl, ok, hx, q, p, px⟩
  · exact q.elim
end
theorem boot_repr' : bootBuiltins "repr" = some (.builtin "repr") := by decide +kernel
end DL
set_option Elab.async false
set_option linter.all false
set_option maxRecDepth 100000
set_option maxHeartbeats 2000000
namespace DL
open PySem PySem.Spec PyProof.Rows L2
/-! ### f-strings -/
/-- {x}: a text or an int -/
def dFmt (τ : DE) : DE := fun ρ M k x => τ ρ M (fun u M1 => (∃ y : Str, u = .str y ∧ y.length ≤ sizeLine ∧ k (.str y) M1) ∨ ∃ i : Int, u = .int i ∧ i.natAbs.log2 < 1920 ∧ k (.str (toString i)) M1) x
/-- {x}: an instance, by its own __str__ -/
def dFmtO (C : Addr) (φ : Ct) (τ : DE) : DE := fun ρ M k x => τ ρ M (fun u M1 => dTxtO C φ u M1 k x) x
def dJs : List DE → Str → DEnv → Mm → DK → DX → Prop
  | [], acc, _, M, k, _ => k (.str acc) M
  | τ :: τs, acc, ρ, M, k, x => τ ρ M (fun u M1 => ∃ y : Str, u = .str y ∧ (acc ++ y).length ≤ sizeLine ∧ dJs τs (acc ++ y) ρ M1 k x) x
def dJoin' (τs : List DE) : DE := fun ρ M k x => dJs τs Str.empty ρ M k x
section
variable {X : Cx} {E : XK} {e : Expr} {τ : DE} {pos : Pos} {C f : Addr} {fd : FuncData} {ps : List Str} {φ : Ct} {k : Nat}
theorem d_fmt (he : DP X E e τ) : DP X E (.FormattedValue e (-1) none pos) (dFmt τ) := pe_mono (pe_fmt he) fun σ H Q h => by
  obtain ⟨ρ, s, k, x, rfl, er, q, p, px⟩ := h
  refine ⟨ρ, s, _, x, rfl, er, q, fun u s1 q1 st1 ok1 v1 r1 => ?_, px⟩
  rcases q1 with ⟨y, rfl, hz, q1⟩ | ⟨i, rfl, hz, q1⟩
  · cases r1
    exact .inl ⟨y, rfl, hz, p _ s1 q1 st1 ok1 _ .str⟩
  · cases r1
    exact .inr ⟨i, rfl, hz, p _ s1 q1 st1 ok1 _ .str⟩
theorem d_fmtO (hfm : PySem.W.findIn X.K (.ref C) "__format__" = some (some (.builtin "object.__format__"))) (hm : PySem.W.mroIn X.K C (.type "object") = some true) (hs : PySem.W.findIn X.K (.ref C) "__str__" = some (some (.ref f))) (hf : PySem.W.isFn X.K (.ref f) = true) (F : FnOk X.prog X.w X.K X.mg X.base (L2.CX X.prog X.w) k f fd ps (spD X.K 1 φ)) (hb : KBd X.K fd ps 1 [] (fun us _ => us)) (hr : Room (k + 1) X.A)
    (he : DP X E e τ) : DP X E (.FormattedValue e (-1) none pos) (dFmtO C φ τ) := by
  refine ⟨fun pins s σ H Q I h => ?_⟩
  obtain ⟨ρ, s0, kk, xx, rfl, er, q, p, px⟩ := h
  refine wpAny_FormattedValue_plain (thn (he.run pins s σ s0.H (fun v H1 => ∃ s1 u, s1.H = H1 ∧ Ok X.K s1 ∧ Step s0 s1 ∧ Rep X.K s1.G v u ∧ dTxtO C φ u s1.M kk xx) I
    ⟨ρ, s0, _, xx, rfl, er, q, fun u s1 q1 st1 ok1 v1 r1 => ⟨s1, u, rfl, ok1, st1, r1, q1⟩, px⟩) fun v s1 ⟨x, H1, I1, rx, sa, u, e1, oka, sta, ra, ⟨fs, hi⟩, q1⟩ => ?_)
  subst e1
  obtain ⟨a, da, fvs, rfl, ha, rf⟩ := ins_of oka ra hi
  obtain rfl : v = Value.ref a := rx
  obtain ⟨_, O, _⟩ := ins_get I1.hok ha
  obtain ⟨_, J, _⟩ := O.look
  have I2 : Inv X pins σ sa.H { s1 with toks := s1.toks + 1 } := I1.tok _
  exact PySem.W.kfo_fieldS (by have := hr.un; show X.A.units + 1 < _; omega) I1.kIn J hfm hm hs hf (txt_run F (Room.in1 hr) I2.env0.in1 hb I2 oka ra q1 (p.step sta))
inductive DPJ (X : Cx) (E : XK) : List Expr → List DE → Prop where
  | nil : DPJ X E [] []
  | cons {e : Expr} {τ : DE} {es : List Expr} {τs : List DE} (h : DP X E e τ) (r : DPJ X E es τs) : DPJ X E (e :: es) (τ :: τs)
theorem j_nil : DPJ X E [] [] := .nil
theorem j_cons {es : List Expr} {τs : List DE} (h : DP X E e τ) (r : DPJ X E es τs) : DPJ X E (e :: es) (τ :: τs) := .cons h r
theorem dpj {es : List Expr} {τs : List DE} (h : DPJ X E es τs) : PJ X es (τs.map (up X.K E)) := by
  induction h with
  | nil => exact .nil
  | cons h r ih => exact .cons h ih
theorem js_up {K : PySem.W.Frag} : ∀ (τs : List DE) (acc : Str) (σ : L2.St) (ρ : DEnv) (s : Sta) (k : DK) (x : DX) (Q : VK), ER K s σ ρ → dJs τs acc ρ s.M k x → Post K s k Q → PostX K E s x → tJs (τs.map (up K E)) acc σ s.H fun out H1 => Q (.str out) H1
  | [], acc, σ, ρ, s, k, x, Q, er, q, p, px => p _ s q (Step.refl s) er.ok _ .str
  | τ :: τs, acc, σ, ρ, s, k, x, Q, er, q, p, px => by
    refine ⟨ρ, s, _, x, rfl, er, q, fun u s1 q1 st1 ok1 v1 r1 => ?_, px⟩
    obtain ⟨y, rfl, hz, q1⟩ := q1
    cases r1
    exact ⟨y, rfl, hz, js_up τs (acc ++ y) σ ρ s1 k x Q (er.step st1 ok1) q1 (p.step st1) (px.step st1)⟩
theorem d_joined {v1 v2 : Expr} {rest : List Expr} {τs : List DE} (h : DPJ X E (v1 :: v2 :: rest) τs) : DP X E (.JoinedStr (v1 :: v2 :: rest) pos) (dJoin' τs) := pe_mono (pe_joined (dpj h)) fun σ H Q h => by
  obtain ⟨ρ, s, k, x, rfl, er, q, p, px⟩ := h
  exact js_up τs Str.empty σ ρ s k x Q er q p px
end
end DL
set_option Elab.async false
set_option linter.all false
set_option maxRecDepth 100000
set_option maxHeartbeats 2000000
namespace DL
open PySem PySem.Spec PyProof.Rows L2
/-- a value of a known kind, or of one of the classes -/
def anyD (CS : List Addr) (y : D) (M : Mm) : Prop := match kdD y M with
  | some (.inl _) => True
  | some (.inr C') => C' ∈ CS
  | none => False
/-- x == y, x an instance with an own __eq__, y anything -/
def dEqA (C : Addr) (CS : List Addr) (φ : Ct) : D2 := fun x y M k xx => (∃ fs, insOf x M = some (C, fs)) ∧ anyD CS y M ∧ φ [x, y] M k xx
def dNeA (C : Addr) (CS : List Addr) (φ : Ct) : D2 := fun x y M k xx => (∃ fs, insOf x M = some (C, fs)) ∧ anyD CS y M ∧ φ [x, y] M (fun r M2 => ∃ b, r = .bl b ∧ k (.bl (!b)) M2) (fun _ _ _ => False)
section
variable {X : Cx} {E : XK} {CX : CXT} {C f : Addr} {CS : List Addr} {fd : FuncData} {ps : List Str} {φ : Ct} {k : Nat} {pins : List (Addr × Obj)} {σ : L2.St} {s : Shared}
theorem any_look {s0 : Sta} {y : D} {v : V} {u : Value} (hB : ∀ u : Kd, PySem.W.subIn X.K (.type u.nm) (.ref C) = some false) (hC : ∀ C' ∈ CS, ClsI X.K C' ∧ (C' = C ∨ PySem.W.subIn X.K (.ref C') (.ref C) = some false)) (I : Inv X pins σ s0.H s) (ok : Ok X.K s0) (r : Rep X.K s0.G v y) (ru : RelV v u) (h : anyD CS y s0.M) :
    ∃ tb, PySem.W.Looks (model X.prog X.w) s.heap (typeOf u) tb ∧ PySem.W.notFirst X.K C tb = true := by
  obtain ⟨t1, t2⟩ := tyX_of ok r
  unfold anyD at h
  split at h
  · rename_i k' hk
    obtain ⟨P, Z, hp, _⟩ := kit_of I ru (t1 _ hk)
    exact ⟨_, Z.ty _ _ I.kIn hp, by unfold PySem.W.notFirst; rw [hB]; simp⟩
  · rename_i C' hk
    obtain ⟨c1, c2⟩ := hC C' h
    obtain ⟨P, Z, hp, _⟩ := kit_of I ru (t2 _ hk c1)
    refine ⟨_, Z.ty _ _ I.kIn hp, ?_⟩
    unfold PySem.W.notFirst
    rcases c2 with rfl | c2
    · simp
    · rw [c2]; simp
  · exact h.elim
theorem o_eqAny (hs : PySem.W.findIn X.K (.ref C) "__eq__" = some (some (.ref f))) (hf : PySem.W.isFn X.K (.ref f) = true) (hB : ∀ u : Kd, PySem.W.subIn X.K (.type u.nm) (.ref C) = some false) (hC : ∀ C' ∈ CS, ClsI X.K C' ∧ (C' = C ∨ PySem.W.subIn X.K (.ref C') (.ref C) = some false))
    (F : FnOk X.prog X.w X.K X.mg X.base CX k f fd ps (spD X.K 2 φ)) (hb : KBd X.K fd ps 2 [] (fun us _ => us)) (hr : Room k X.A) (hx : Passes CX X E) : OpR X (compareOp .Eq) (r2 X.K E (dEqA C CS φ)) := by
  intro pins s σ H x y u v Q I rx ry h
  obtain ⟨s0, dx, dy, kk, xx, rfl, ok, hdx, hdy, ⟨⟨fs, hi⟩, ha', q⟩, p, px⟩ := h
  obtain ⟨a, da, fvs, rfl, ha, rf⟩ := ins_of ok hdx hi
  obtain rfl : u = Value.ref a := rx
  obtain ⟨_, O, _⟩ := ins_get I.hok ha
  obtain ⟨_, J, _⟩ := O.look
  obtain ⟨m, hF⟩ := I.fr
  obtain ⟨tb, lk, nf⟩ := any_look hB hC I ok hdy ry ha'
  show wpAny _ _ (richCompare .Eq _ _) _ _ _
  refine PySem.W.cmp_K (op := .Eq) (tb := tb) hr.units0 hF I.ok.mod.kin J lk nf hs hf ?_
  refine wpAny_mono (run_D (us := [.ref a, v]) (vs := [.ref a, y]) (ws := []) (zs := []) F hr hb hx I (.cons rfl (.cons ry .nil)) .nil ⟨s0, [dx, dy], [], kk, xx, rfl, ok, .cons hdx (.cons hdy .nil), .nil, rfl, rfl, rfl, q, p, px⟩) (fun w s' z => ?_) fun _ _ x => x
  obtain ⟨z', H', I', rz, qz⟩ := z
  exact SlX.cmpback rz ⟨z', H', I', rz, qz⟩
theorem o_neAny (hs : PySem.W.findIn X.K (.ref C) "__eq__" = some (some (.ref f))) (hf : PySem.W.isFn X.K (.ref f) = true) (hne : PySem.W.findIn X.K (.ref C) "__ne__" = some (some (.builtin "object.__ne__"))) (hm : PySem.W.mroIn X.K C (.type "object") = some true) (hB : ∀ u : Kd, PySem.W.subIn X.K (.type u.nm) (.ref C) = some false) (hC : ∀ C' ∈ CS, ClsI X.K C' ∧ (C' = C ∨ PySem.W.subIn X.K (.ref C') (.ref C) = some false))
    (F : FnOk X.prog X.w X.K X.mg X.base (L2.CX X.prog X.w) k f fd ps (spD X.K 2 φ)) (hb : KBd X.K fd ps 2 [] (fun us _ => us)) (hr : Room (k + 1) X.A) : OpR X (compareOp .NotEq) (r2 X.K E (dNeA C CS φ)) := by
  intro pins s σ H x y u v Q I rx ry h
  obtain ⟨s0, dx, dy, kk, xx, rfl, ok, hdx, hdy, ⟨⟨fs, hi⟩, ha', q⟩, p, px⟩ := h
  obtain ⟨a, da, fvs, rfl, ha, rf⟩ := ins_of ok hdx hi
  obtain rfl : u = Value.ref a := rx
  obtain ⟨_, O, _⟩ := ins_get I.hok ha
  obtain ⟨_, J, _⟩ := O.look
  obtain ⟨m, hF⟩ := I.fr
  obtain ⟨tb, lk, nf⟩ := any_look hB hC I ok hdy ry ha'
  show wpAny _ _ (richCompare .NotEq _ _) _ _ _
  refine DX.ne_own (by have := hr.un; omega) hF I.ok.mod.kin J lk nf hne hm hs hf ?_
  refine wpAny_mono (run_At (Q := fun v H' => ∃ b, v = .bl b ∧ Q (.bl (!b)) H') F (Room.in1 hr) I.env0.in1 hb I (vs := [.ref a, y]) (.cons rfl (.cons ry .nil)) ⟨s0, [dx, dy], _, rfl, ok, .cons hdx (.cons hdy .nil), rfl, q, ?_⟩) (fun w s' z => ?_) fun _ _ x => x
  · rintro r t ⟨b, rfl, qy⟩ st okt v hv
    cases hv
    exact ⟨b, rfl, p _ t qy st okt _ .bl⟩
  · obtain ⟨z', H', I', rz, b, rfl, qz⟩ := z
    cases (show w = Value.bool b from rz)
    exact ⟨.bl (!b), H', I', rfl, qz⟩
end
end DL
set_option Elab.async false
set_option linter.all false
set_option maxRecDepth 100000
set_option maxHeartbeats 2000000
namespace DL
open PySem PySem.Spec PyProof.Rows L2
/-- a comprehension over a written list, item by item -/
def lcL (γ : DG) (ε : DE) (vs : List Nat) (ρ : DEnv) : List D → List D → Mm → DK → Prop
  | [], acc, M, k => k (.lst acc) M
  | d :: ds, acc, M, k => γ d (wipeD ρ vs) M fun ρ1 M2 => ε ρ1 M2 (fun y M4 => lcL γ ε vs ρ ds (acc ++ [y]) M4 k) (fun _ _ _ => False)
theorem lc_unroll {γ : DG} {ε : DE} {vs : List Nat} {ρ : DEnv} {ds : List D} {M : Mm} {k : DK} (hl : ds.length < sizeLine) (gm : ∀ d M (K K' : DEnv → Mm → Prop), (∀ ρ M, K ρ M → K' ρ M) → γ d (wipeD ρ vs) M K → γ d (wipeD ρ vs) M K') (h : lcL γ ε vs ρ ds [] M k) : LcK γ dYes ε vs ρ ds M k := by
  refine .of hl (fun j acc M' => lcL γ ε vs ρ (ds.drop j) acc M' k) h (fun j d acc M' hd hI => ?_) (fun acc M' hI => ?_)
  · have e : ds.drop j = d :: ds.drop (j + 1) := by
      have hj : j < ds.length := by
        rcases Nat.lt_or_ge j ds.length with z | z
        · exact z
        · rw [List.getElem?_eq_none z] at hd; cases hd
      rw [List.getElem?_eq_getElem hj] at hd
      cases hd
      exact List.drop_eq_getElem_cons hj
    rw [e] at hI
    refine gm _ _ _ _ (fun ρ1 M2 hh => ?_) hI
    unfold dYes
    dsimp only
    rw [if_pos rfl]
    exact hh
  · rw [List.drop_length] at hI
    exact hI
theorem gN_mono' {i : Nat} {d : D} {ρ : DEnv} {M : Mm} (K K' : DEnv → Mm → Prop) (h : ∀ ρ M, K ρ M → K' ρ M) (q : gN i d ρ M K) : gN i d ρ M K' := h _ _ q
theorem lcN {i : Nat} {ε : DE} {vs : List Nat} {ρ : DEnv} {ds : List D} {M : Mm} {k : DK} (hl : ds.length < sizeLine) (h : lcL (gN i) ε vs ρ ds [] M k) : LcK (gN i) dYes ε vs ρ ds M k := lc_unroll hl (fun d M K K' => gN_mono' K K') h
/-- no instance: the plain operator -/
theorem selO {own f : D2} {x y : D} {M : Mm} {k : DK} {xx : DX} {v : Kd} (h : kd x = some v) (q : f x y M k xx) : dSel own f x y M k xx := by
  cases x <;> first | exact q | cases h
theorem isiBk {T : Kd} {CS : List Addr} {v : D} {kv : Kd} {M : Mm} {k : DK} {x : DX} (h : kd v = some kv) (q : k (.bl (isK T kv)) M) : dIsiB T CS v M k x := by
  unfold dIsiB
  rw [kdD_of h]
  exact q
end DL
set_option Elab.async false
set_option linter.all false
set_option maxRecDepth 100000
set_option maxHeartbeats 2000000
namespace DX
open PySem PySem.SeqAt
open AutoSeq1 (wpAny_loadPart')
open MeetsSeq MeetsSeq2 MeetsSeq3 SeqRoads2
section
variable {prog : Program} {w : World} {A : Around} {R : Result → Shared → Prop}
/-- items asked one behind the other -/
def EqRun (prog : Program) (w : World) (A : Around) (E : Value → Shared → Prop) (Q : Bool → Shared → Prop) : List (Value × Value) → Shared → Prop
  | [], s => Q true s
  | p :: r, s => wpAny (model prog w) A (eqBool p.1 p.2) (fun b s' => (b = false ∧ Q false s') ∨ (b = true ∧ EqRun prog w A E Q r s')) E s
theorem tup_eq {l b : Addr} {items items2 : Array Value} {n n2 : Nat} {dd dd2 : Option Addr} {sl sl2 : Array (Option Value)} {s : Shared}
    (hl : s.heap.get? l = some { cls := .type "tuple", dict := dd, data := .seq items n, slots := sl }) (hb : s.heap.get? b = some { cls := .type "tuple", dict := dd2, data := .seq items2 n2, slots := sl2 })
    (h : EqRun prog w A.in1 (fun e s' => R (.error e) s') (fun r s' => R (.ok (.ret (.bool (r && items.size == items2.size)))) s') (items.toList.zip items2.toList) s) :
    wpAny (model prog w) A.in1 (Builtin.«tuple.__eq__» ⟨[.ref l, .ref b], []⟩) (GQ.FinOf prog w A R) (fun e s' => R (.error e) s') s := by
  have f2 := AutoSeq1.sub_tuple_tuple
  have start := h
  obtain ⟨hp, gg, dr, tk, os⟩ := s
  wp_walk using wpAny_loadPart' hl, wpAny_loadPart' hb, wpAny_forIn_list _ (fun rest st s' => st.1 = none ∧ EqRun prog w A.in1 (fun e s' => R (.error e) s') (fun r s' => R (.ok (.ret (.bool (r && items.size == items2.size)))) s') rest s') _
  case turn =>
    rintro ⟨y, x⟩ rest st s' ⟨hst, hw⟩
    refine wpAny_bind (wpAny_mono hw (fun r s2 q => ?_) fun _ _ x => x)
    rcases q with ⟨rfl, q⟩ | ⟨rfl, q⟩
    · wp_walk
      simpa using q
    · wp_walk
      exact ⟨rfl, q⟩
  case fin =>
    rintro ⟨b1, b2⟩ s' ⟨hst, hw⟩
    simp only at hst
    subst hst
    have hw : R (.ok (.ret (.bool (true && items.size == items2.size)))) s' := hw
    wp_walk
    simpa [Builtin.Tuple.tupleCompareSizes] using hw
  case h => exact ⟨rfl, start⟩
theorem tup_ne {l b : Addr} {items items2 : Array Value} {n n2 : Nat} {dd dd2 : Option Addr} {sl sl2 : Array (Option Value)} {s : Shared}
    (hl : s.heap.get? l = some { cls := .type "tuple", dict := dd, data := .seq items n, slots := sl }) (hb : s.heap.get? b = some { cls := .type "tuple", dict := dd2, data := .seq items2 n2, slots := sl2 })
    (h : EqRun prog w A.in1 (fun e s' => R (.error e) s') (fun r s' => R (.ok (.ret (.bool (!(r && items.size == items2.size))))) s') (items.toList.zip items2.toList) s) :
    wpAny (model prog w) A.in1 (Builtin.«tuple.__ne__» ⟨[.ref l, .ref b], []⟩) (GQ.FinOf prog w A R) (fun e s' => R (.error e) s') s := by
  have f2 := AutoSeq1.sub_tuple_tuple
  have start := h
  obtain ⟨hp, gg, dr, tk, os⟩ := s
  wp_walk using wpAny_loadPart' hl, wpAny_loadPart' hb, wpAny_forIn_list _ (fun rest st s' => st.1 = none ∧ EqRun prog w A.in1 (fun e s' => R (.error e) s') (fun r s' => R (.ok (.ret (.bool (!(r && items.size == items2.size))))) s') rest s') _
  case turn =>
    rintro ⟨y, x⟩ rest st s' ⟨hst, hw⟩
    refine wpAny_bind (wpAny_mono hw (fun r s2 q => ?_) fun _ _ x => x)
    rcases q with ⟨rfl, q⟩ | ⟨rfl, q⟩
    · wp_walk
      simpa using q
    · wp_walk
      exact ⟨rfl, q⟩
  case fin =>
    rintro ⟨b1, b2⟩ s' ⟨hst, hw⟩
    simp only at hst
    subst hst
    have hw : R (.ok (.ret (.bool (!(true && items.size == items2.size))))) s' := hw
    wp_walk
    have e : (items.size != items2.size) = !(true && items.size == items2.size) := by simp [bne]
    show R (.ok (.ret (.bool (items.size != items2.size)))) _
    rw [e]
    exact hw
  case h => exact ⟨rfl, start⟩
theorem rc_tup {l b : Addr} {items items2 : Array Value} {E : Value → Shared → Prop} {s : Shared} {Q : Value → Shared → Prop} (hu : A.units < cLine) (hl : s.heap.IsTuple l items) (hb : s.heap.IsTuple b items2)
    (h : EqRun prog w A.in1 E (fun r s' => Q (.bool (r && items.size == items2.size)) s') (items.toList.zip items2.toList) s) :
    wpAny (model prog w) A (richCompare .Eq (.ref l) (.ref b)) Q E s := by
  obtain ⟨⟨c1, x1, y1, z1⟩, g1, e1, m1, d1⟩ := id hl
  obtain ⟨⟨c2, x2, y2, z2⟩, g2, e2, m2, d2⟩ := id hb
  simp only at e1 d1 e2 d2
  subst e1 d1 e2 d2
  refine wpAny_richCompare_same_room (op := .Eq) ⟨_, g1, rfl⟩ ⟨_, g2, rfl⟩ PySem.F.slot_tuple_eq (GQ.call_here PySem.F.slot_tuple_eq ⟨_, g1, rfl⟩ PySem.F.entry_tuple_eq (PySem.F.args_tuple_eq_2 _ _) ?_) hu
  refine tup_eq (R := wants (fun v s' => v ≠ .notImplemented ∧ Q v s') E) g1 g2 ?_
  have gen : ∀ (l : List (Value × Value)) (s : Shared), EqRun prog w A.in1 E (fun r s' => Q (.bool (r && items.size == items2.size)) s') l s →
      EqRun prog w A.in1 (fun e s' => wants (fun v s' => v ≠ .notImplemented ∧ Q v s') E (.error e) s') (fun r s' => wants (fun v s' => v ≠ .notImplemented ∧ Q v s') E (.ok (.ret (.bool (r && items.size == items2.size)))) s') l s := by
    intro l
    induction l with
    | nil => exact fun s q => ⟨nofun, q⟩
    | cons p r ih =>
      intro s q
      refine wpAny_mono q (fun b s' z => ?_) fun _ _ x => x
      rcases z with ⟨rfl, z⟩ | ⟨rfl, z⟩
      · exact .inl ⟨rfl, nofun, z⟩
      · exact .inr ⟨rfl, ih _ z⟩
  exact gen _ _ h
theorem rcn_tup {l b : Addr} {items items2 : Array Value} {E : Value → Shared → Prop} {s : Shared} {Q : Value → Shared → Prop} (hu : A.units < cLine) (hl : s.heap.IsTuple l items) (hb : s.heap.IsTuple b items2)
    (h : EqRun prog w A.in1 E (fun r s' => Q (.bool (!(r && items.size == items2.size))) s') (items.toList.zip items2.toList) s) :
    wpAny (model prog w) A (richCompare .NotEq (.ref l) (.ref b)) Q E s := by
  obtain ⟨⟨c1, x1, y1, z1⟩, g1, e1, m1, d1⟩ := id hl
  obtain ⟨⟨c2, x2, y2, z2⟩, g2, e2, m2, d2⟩ := id hb
  simp only at e1 d1 e2 d2
  subst e1 d1 e2 d2
  refine wpAny_richCompare_same_room (op := .NotEq) ⟨_, g1, rfl⟩ ⟨_, g2, rfl⟩ PySem.F.slot_tuple_ne (GQ.call_here PySem.F.slot_tuple_ne ⟨_, g1, rfl⟩ PySem.F.entry_tuple_ne (PySem.F.args_tuple_ne_2 _ _) ?_) hu
  refine tup_ne (R := wants (fun v s' => v ≠ .notImplemented ∧ Q v s') E) g1 g2 ?_
  have gen : ∀ (l : List (Value × Value)) (s : Shared), EqRun prog w A.in1 E (fun r s' => Q (.bool (!(r && items.size == items2.size))) s') l s →
      EqRun prog w A.in1 (fun e s' => wants (fun v s' => v ≠ .notImplemented ∧ Q v s') E (.error e) s') (fun r s' => wants (fun v s' => v ≠ .notImplemented ∧ Q v s') E (.ok (.ret (.bool (!(r && items.size == items2.size))))) s') l s := by
    intro l
    induction l with
    | nil => exact fun s q => ⟨nofun, q⟩
    | cons p r ih =>
      intro s q
      refine wpAny_mono q (fun b s' z => ?_) fun _ _ x => x
      rcases z with ⟨rfl, z⟩ | ⟨rfl, z⟩
      · exact .inl ⟨rfl, nofun, z⟩
      · exact .inr ⟨rfl, ih _ z⟩
  exact gen _ _ h
/-- lists are read anew at each turn -/
def IsL (h : Heap) (l : Addr) (items : Array Value) : Prop := ∃ (dd : Option Addr) (sl : Array (Option Value)) (n : Nat), h.get? l = some { cls := .type "list", dict := dd, data := .seq items n, slots := sl }
/-- both lists have N items -/
def Two (l b : Addr) (N : Nat) (s : Shared) : Prop := ∃ items items2, IsL s.heap l items ∧ IsL s.heap b items2 ∧ items.size = N ∧ items2.size = N
def LRun (prog : Program) (w : World) (A : Around) (E : Value → Shared → Prop) (Q : Bool → Shared → Prop) (l b : Addr) (N : Nat) : Nat → Nat → Shared → Prop
  | 0, _, s => Two l b N s ∧ Q true s
  | k + 1, i, s => ∃ items items2, IsL s.heap l items ∧ IsL s.heap b items2 ∧ items.size = N ∧ items2.size = N ∧ ∀ (h1 : i < items.size) (h2 : i < items2.size),
      wpAny (model prog w) A (eqBool items[i] items2[i]) (fun r s' => (r = false ∧ Two l b N s' ∧ Q false s') ∨ (r = true ∧ LRun prog w A E Q l b N k (i + 1) s')) E s
theorem lst_loop (neg : Bool) (l b : Addr) (N k : Nat) :
    ∀ i : Nat, i + k = N → ∀ s, LRun prog w A.in1 (fun e s' => R (.error e) s') (fun r s' => R (.ok (.ret (.bool (if neg then !r else r)))) s') l b N k i s →
      wpAny (model prog w) A.in1 (Builtin.«list.__eq__.loop» ⟨[.ref l, .ref b, rawInt i, rawInt (if neg then 3 else 2)], []⟩) (GQ.FinOf prog w A R) (fun e s' => R (.error e) s') s := by
  induction k with
  | zero =>
    intro i hk s h
    obtain ⟨⟨items, items2, ⟨dd, sl, n, hl1⟩, ⟨dd2, sl2, n2, hb1⟩, z1, z2⟩, hR⟩ := h
    obtain ⟨hp, g, d, tk, os⟩ := s
    have hi1 : items[((i : Nat) : Int).toNat]? = none := by simp; omega
    have hi2 : items2[((i : Nat) : Int).toNat]? = none := by simp; omega
    cases neg with
    | false =>
      wp_walk using wpAny_loadPart' hl1, wpAny_loadPart' hb1
      rw [hi1, hi2]
      wp_walk using wpAny_loadPart' hl1, wpAny_loadPart' hb1
      show R (.ok (.ret (.bool (items.size == items2.size)))) _
      rw [z1, z2]
      simpa using hR
    | true =>
      wp_walk using wpAny_loadPart' hl1, wpAny_loadPart' hb1
      rw [hi1, hi2]
      wp_walk using wpAny_loadPart' hl1, wpAny_loadPart' hb1
      show R (.ok (.ret (.bool (items.size != items2.size)))) _
      rw [z1, z2]
      simpa using hR
  | succ k ih =>
    intro i hk s h
    obtain ⟨items, items2, ⟨dd, sl, n, hl1⟩, ⟨dd2, sl2, n2, hb1⟩, z1, z2, hR⟩ := h
    have hlt : i < items.size := by omega
    have hlt2 : i < items2.size := by omega
    have hR := hR hlt hlt2
    obtain ⟨hp, g, d, tk, os⟩ := s
    have hi1 : items[((i : Nat) : Int).toNat]? = some items[i] := by simp [hlt]
    have hi2 : items2[((i : Nat) : Int).toNat]? = some items2[i] := by simp [hlt2]
    have hc : ((i : Int) + 1) = ((i + 1 : Nat) : Int) := by omega
    cases neg with
    | false =>
      wp_walk using wpAny_loadPart' hl1, wpAny_loadPart' hb1
      rw [hi1, hi2]
      refine wpAny_bind (wpAny_mono hR (fun r s2 h2 => ?_) fun _ _ x => x)
      rcases h2 with ⟨rfl, ⟨items, items2, ⟨dd, sl, n, hl1⟩, ⟨dd2, sl2, n2, hb1⟩, z1, z2⟩, q⟩ | ⟨rfl, q⟩
      · obtain ⟨hp, g, d, tk, os⟩ := s2
        have hi1 : items[((i : Nat) : Int).toNat]? = some (items[i]'(by omega)) := by simp
        have hi2 : items2[((i : Nat) : Int).toNat]? = some (items2[i]'(by omega)) := by simp
        wp_walk using wpAny_loadPart' hl1, wpAny_loadPart' hb1
        rw [hi1, hi2]
        wp_walk
        simpa using q
      · have hrec := ih (i + 1) (by omega) s2 q
        obtain ⟨hp2, g2, d2, tk2, os2⟩ := s2
        wp_walk
        rw [hc]
        exact ⟨plainId_quiet plain_eq_loop _, codeAny_builtin entry_eq_loop (by
          rw [Around.under_plainId plain_eq_loop _]
          exact hrec)⟩
    | true =>
      wp_walk using wpAny_loadPart' hl1, wpAny_loadPart' hb1
      rw [hi1, hi2]
      refine wpAny_bind (wpAny_mono hR (fun r s2 h2 => ?_) fun _ _ x => x)
      rcases h2 with ⟨rfl, ⟨items, items2, ⟨dd, sl, n, hl1⟩, ⟨dd2, sl2, n2, hb1⟩, z1, z2⟩, q⟩ | ⟨rfl, q⟩
      · obtain ⟨hp, g, d, tk, os⟩ := s2
        have hi1 : items[((i : Nat) : Int).toNat]? = some (items[i]'(by omega)) := by simp
        have hi2 : items2[((i : Nat) : Int).toNat]? = some (items2[i]'(by omega)) := by simp
        wp_walk using wpAny_loadPart' hl1, wpAny_loadPart' hb1
        rw [hi1, hi2]
        wp_walk
        simpa using q
      · have hrec := ih (i + 1) (by omega) s2 q
        obtain ⟨hp2, g2, d2, tk2, os2⟩ := s2
        wp_walk
        rw [hc]
        exact ⟨plainId_quiet plain_eq_loop _, codeAny_builtin entry_eq_loop (by
          rw [Around.under_plainId plain_eq_loop _]
          exact hrec)⟩
theorem lst_eq (neg : Bool) {l b : Addr} {items items2 : Array Value} {s : Shared} (h0 : IsL s.heap l items) (h1 : IsL s.heap b items2)
    (h : (items.size ≠ items2.size ∧ R (.ok (.ret (.bool neg))) s) ∨ (items.size = items2.size ∧ LRun prog w A.in1 (fun e s' => R (.error e) s') (fun r s' => R (.ok (.ret (.bool (if neg then !r else r)))) s') l b items.size items.size 0 s)) :
    wpAny (model prog w) A.in1 ((if neg then Builtin.«list.__ne__» else Builtin.«list.__eq__») ⟨[.ref l, .ref b], []⟩) (GQ.FinOf prog w A R) (fun e s' => R (.error e) s') s := by
  obtain ⟨dd, sl, n, hl1⟩ := h0
  obtain ⟨dd2, sl2, n2, hb1⟩ := h1
  have f3 := AutoSeq1.sub_list_list
  rcases h with ⟨hne, hR⟩ | ⟨hsz, hR⟩
  · have hne' : (items.size != items2.size) = true := by simp [hne]
    obtain ⟨hp, g, d, tk, os⟩ := s
    cases neg with
    | false =>
      show wpAny _ _ (Builtin.«list.__eq__» _) _ _ _
      wp_walk using wpAny_loadPart' hl1, wpAny_loadPart' hb1
      exact hR
    | true =>
      show wpAny _ _ (Builtin.«list.__ne__» _) _ _ _
      wp_walk using wpAny_loadPart' hl1, wpAny_loadPart' hb1
      exact hR
  · have hrec := lst_loop (prog := prog) (w := w) (A := A) (R := R) neg l b items.size items.size 0 (Nat.zero_add _) s hR
    have hne : ¬ (items.size != items2.size) = true := by simp [hsz]
    obtain ⟨hp, g, d, tk, os⟩ := s
    cases neg with
    | false =>
      show wpAny _ _ (Builtin.«list.__eq__» _) _ _ _
      wp_walk using wpAny_loadPart' hl1, wpAny_loadPart' hb1
      exact ⟨plainId_quiet plain_eq_loop _, codeAny_builtin entry_eq_loop (by
        rw [Around.under_plainId plain_eq_loop _]
        exact hrec)⟩
    | true =>
      show wpAny _ _ (Builtin.«list.__ne__» _) _ _ _
      wp_walk using wpAny_loadPart' hl1, wpAny_loadPart' hb1
      exact ⟨plainId_quiet plain_eq_loop _, codeAny_builtin entry_eq_loop (by
        rw [Around.under_plainId plain_eq_loop _]
        exact hrec)⟩
theorem LRun.imp {E E' : Value → Shared → Prop} {Q Q' : Bool → Shared → Prop} {l b : Addr} {N : Nat} (hq : ∀ b s, Q b s → Q' b s) (he : ∀ e s, E e s → E' e s) : ∀ {k i : Nat} {s : Shared}, LRun prog w A E Q l b N k i s → LRun prog w A E' Q' l b N k i s
  | 0, _, s, h => ⟨h.1, hq _ _ h.2⟩
  | k + 1, i, s, ⟨its, jts, a1, a2, a3, a4, h⟩ => ⟨its, jts, a1, a2, a3, a4, fun h1 h2 => wpAny_mono (h h1 h2) (fun b s' z => z.elim (fun z => .inl ⟨z.1, z.2.1, hq _ _ z.2.2⟩) (fun z => .inr ⟨z.1, LRun.imp hq he z.2⟩)) he⟩
theorem rc_lst {l b : Addr} {items items2 : Array Value} {E : Value → Shared → Prop} {s : Shared} {Q : Value → Shared → Prop} (hu : A.units < cLine) (h0 : IsL s.heap l items) (h1 : IsL s.heap b items2)
    (h : (items.size ≠ items2.size ∧ Q (.bool false) s) ∨ (items.size = items2.size ∧ LRun prog w A.in1 E (fun r s' => Q (.bool r) s') l b items.size items.size 0 s)) :
    wpAny (model prog w) A (richCompare .Eq (.ref l) (.ref b)) Q E s := by
  have k0 := h0
  have k1 := h1
  obtain ⟨dd, sl, n, g1⟩ := h0
  obtain ⟨dd2, sl2, n2, g2⟩ := h1
  refine wpAny_richCompare_same_room (op := .Eq) ⟨_, g1, rfl⟩ ⟨_, g2, rfl⟩ PySem.F.slot_list_eq (GQ.call_here PySem.F.slot_list_eq ⟨_, g1, rfl⟩ PySem.F.entry_list_eq (PySem.F.args_list_eq_2 _ _) ?_) hu
  refine lst_eq (R := wants (fun v s' => v ≠ .notImplemented ∧ Q v s') E) false k0 k1 ?_
  rcases h with ⟨a, q⟩ | ⟨a, q⟩
  · exact .inl ⟨a, nofun, q⟩
  · exact .inr ⟨a, LRun.imp (fun b s z => ⟨nofun, z⟩) (fun _ _ z => z) q⟩
theorem rcn_lst {l b : Addr} {items items2 : Array Value} {E : Value → Shared → Prop} {s : Shared} {Q : Value → Shared → Prop} (hu : A.units < cLine) (h0 : IsL s.heap l items) (h1 : IsL s.heap b items2)
    (h : (items.size ≠ items2.size ∧ Q (.bool true) s) ∨ (items.size = items2.size ∧ LRun prog w A.in1 E (fun r s' => Q (.bool (!r)) s') l b items.size items.size 0 s)) :
    wpAny (model prog w) A (richCompare .NotEq (.ref l) (.ref b)) Q E s := by
  have k0 := h0
  have k1 := h1
  obtain ⟨dd, sl, n, g1⟩ := h0
  obtain ⟨dd2, sl2, n2, g2⟩ := h1
  refine wpAny_richCompare_same_room (op := .NotEq) ⟨_, g1, rfl⟩ ⟨_, g2, rfl⟩ PySem.F.slot_list_ne (GQ.call_here PySem.F.slot_list_ne ⟨_, g1, rfl⟩ PySem.F.entry_list_ne (PySem.F.args_list_ne_2 _ _) ?_) hu
  refine lst_eq (R := wants (fun v s' => v ≠ .notImplemented ∧ Q v s') E) true k0 k1 ?_
  rcases h with ⟨a, q⟩ | ⟨a, q⟩
  · exact .inl ⟨a, nofun, q⟩
  · exact .inr ⟨a, LRun.imp (fun b s z => ⟨nofun, z⟩) (fun _ _ z => z) q⟩
end
end DX
set_option Elab.async false
set_option linter.all false
set_option maxRecDepth 100000
set_option maxHeartbeats 2000000
namespace DL
open PySem PySem.Spec PyProof.Rows L2
mutual
/-- data without changing parts -/
def solid : D → Bool
  | .non => true
  | .bl _ => true
  | .int _ => true
  | .str _ => true
  | .lst ds => solids ds
  | .tup ds => solids ds
  | .obj _ fs => solidF fs
  | _ => false
def solids : List D → Bool
  | [] => true
  | d :: ds => solid d && solids ds
def solidF : List (Str × D) → Bool
  | [] => true
  | (_, d) :: ds => solid d && solidF ds
end
section
variable {X : Cx} {pins : List (Addr × Obj)} {σ : L2.St} {s : Shared}
theorem not_lt {H : Hp} {a : Addr} {xs ys : List V} (I : Inv X pins σ H s) (h : SqL X.K H a xs) (h' : SqT X.K H a ys) : False := by
  obtain ⟨its, _, ⟨o, n, e, c, _⟩, _⟩ := I.list h
  obtain ⟨its', _, ⟨o', e', c', _⟩, _⟩ := I.tuple h'
  rw [e] at e'
  cases e'
  rw [c] at c'
  injection c' with z
  exact absurd z (by decide)
theorem not_ot {H : Hp} {a C dx : Addr} {fvs : List (Str × V)} {ys : List V} (I : Inv X pins σ H s) (h : H a = some (.ins C dx fvs)) (h' : SqT X.K H a ys) : False := by
  obtain ⟨its', _, ⟨o', e', c', _⟩, _⟩ := I.tuple h'
  obtain ⟨_, O, _⟩ := ins_get I.hok h
  obtain ⟨_, J, _⟩ := O.look
  obtain ⟨j1, j2, _⟩ := J
  rw [e'] at j1
  cases j1
  rw [c'] at j2
  cases j2
mutual
theorem Rep.inj {H G : Hp} (I : Inv X pins σ H s) (sub : Same G H) : ∀ {d d' : D} {v : V}, Rep X.K G v d → Rep X.K G v d' → solid d = true → solid d' = true → d = d'
  | .non, _, _, h, h', _, _ => by cases h; cases h'; rfl
  | .bl _, _, _, h, h', _, _ => by cases h; cases h'; rfl
  | .int _, _, _, h, h', _, _ => by cases h; cases h'; rfl
  | .str _, _, _, h, h', _, _ => by cases h; cases h'; rfl
  | .lst ds, d', _, h, h', z, z' => by
    cases h with
    | lst g r =>
      cases h' with
      | lst g' r' =>
        rw [g] at g'
        cases g'
        rw [Reps.inj I sub r r' z z']
      | tup g' r' => exact (not_lt I (.inl (.of (sub _ _ g))) (Same.seqT sub g')).elim
      | obj g' r' => rw [g] at g'; cases g'
      | cel => cases z'
      | scr => cases z'
      | exc => cases z'
      | lam => cases z'
  | .tup ds, d', _, h, h', z, z' => by
    cases h with
    | tup g r =>
      cases h' with
      | tup g' r' =>
        cases I.tuple_inj (Same.seqT sub g) (Same.seqT sub g')
        rw [Reps.inj I sub r r' z z']
      | lst g' r' => exact (not_lt I (.inl (.of (sub _ _ g'))) (Same.seqT sub g)).elim
      | obj g' r' => exact (not_ot I (sub _ _ g') (Same.seqT sub g)).elim
      | cel => cases z'
      | scr => cases z'
      | exc => cases z'
      | lam => cases z'
  | .obj C fs, d', _, h, h', z, z' => by
    cases h with
    | obj g r =>
      cases h' with
      | obj g' r' =>
        rw [g] at g'
        cases g'
        rw [FRep.inj I sub r r' z z']
      | lst g' r' => rw [g] at g'; cases g'
      | tup g' r' => exact (not_ot I (sub _ _ g) (Same.seqT sub g')).elim
      | cel => cases z'
      | scr => cases z'
      | exc => cases z'
      | lam => cases z'
  | .cel _, _, _, _, _, z, _ => by cases z
  | .scr _, _, _, _, _, z, _ => by cases z
  | .exc _ _ _, _, _, _, _, z, _ => by cases z
  | .lam _ _ _ _ _, _, _, _, _, z, _ => by cases z
theorem Reps.inj {H G : Hp} (I : Inv X pins σ H s) (sub : Same G H) : ∀ {ds es : List D} {vs : List V}, Reps X.K G vs ds → Reps X.K G vs es → solids ds = true → solids es = true → ds = es
  | [], _, _, .nil, .nil, _, _ => rfl
  | d :: ds, _, _, .cons h r, .cons h' r', z, z' => by
    simp only [solids, Bool.and_eq_true] at z z'
    rw [Rep.inj I sub h h' z.1 z'.1, Reps.inj I sub r r' z.2 z'.2]
theorem FRep.inj {H G : Hp} (I : Inv X pins σ H s) (sub : Same G H) : ∀ {ds es : List (Str × D)} {vs : List (Str × V)}, FRep X.K G vs ds → FRep X.K G vs es → solidF ds = true → solidF es = true → ds = es
  | [], _, _, .nil, .nil, _, _ => rfl
  | (f, d) :: ds, _, _, .cons h r, .cons h' r', z, z' => by
    simp only [solidF, Bool.and_eq_true] at z z'
    rw [Rep.inj I sub h h' z.1 z'.1, FRep.inj I sub r r' z.2 z'.2]
end
def inJ (A : Around) : Nat → Around
  | 0 => A
  | n + 1 => (inJ A n).in1
theorem room_inJ {A : Around} : ∀ {j k : Nat}, Room (k + j) A → Room k (inJ A j)
  | 0, k, r => r
  | j + 1, k, r => Room.in1 (room_inJ (j := j) (k := k + 1) (by rw [Nat.add_assoc, Nat.add_comm 1 j]; exact r))
theorem env_inJ {H : Hp} (I : Inv X pins σ H s) : ∀ j, Env0 X.prog X.w X.K X.mg X.base (inJ X.A j) X.stack s H
  | 0 => I.env0
  | j + 1 => (env_inJ I j).in1
/-- plain data or an instance of one of the classes -/
def anyS (CS : List Addr) : D → Bool
  | .non => true
  | .bl _ => true
  | .int _ => true
  | .str _ => true
  | .lst _ => true
  | .tup _ => true
  | .obj C _ => CS.contains C
  | _ => false
theorem anyS_D {CS : List Addr} {y : D} {M : Mm} (h : anyS CS y = true) : anyD CS y M := by
  cases y <;> first | exact True.intro | cases h | skip
  rename_i C fs
  show C ∈ CS
  simpa [anyS] using h
/-- what is known of the own __eq__ of a class -/
structure OwnEq (P : Program) (w : World) (K : PySem.W.Frag) (mg : Str → Option Value) (base : Heap) (k : Nat) (CS : List Addr) (C : Addr) (φ : Ct) : Prop where
  ex : ∃ f fd ps, PySem.W.findIn K (.ref C) "__eq__" = some (some (.ref f)) ∧ PySem.W.isFn K (.ref f) = true ∧ FnOk P w K mg base (L2.CX P w) k f fd ps (spD K 2 φ) ∧ KBd K fd ps 2 [] (fun us _ => us)
  hB : ∀ u : Kd, PySem.W.subIn K (.type u.nm) (.ref C) = some false
  hC : ∀ C' ∈ CS, ClsI K C' ∧ (C' = C ∨ PySem.W.subIn K (.ref C') (.ref C) = some false)
theorem OwnEq.mono {P : Program} {w : World} {K : PySem.W.Frag} {mg : Str → Option Value} {base : Heap} {k j : Nat} {CS : List Addr} {C : Addr} {φ : Ct} (h : OwnEq P w K mg base k CS C φ) (hk : k ≤ j) : OwnEq P w K mg base j CS C φ := by
  obtain ⟨⟨f, fd, ps, a, b, F, c⟩, d, e⟩ := h
  exact ⟨⟨f, fd, ps, a, b, ⟨F.len, fun A outer s H args us vs Q E hr => F.run A outer s H args us vs Q E (hr.mono hk)⟩, c⟩, d, e⟩
/-- an answer without looking into items -/
def Leaf (O : Addr → Ct → Prop) (CS : List Addr) (x y : D) (b : Bool) : Prop :=
  (∃ p q, toP x = some p ∧ toP y = some q ∧ SeqAt.shaped p = true ∧ SeqAt.shaped q = true ∧ b = PyData.eqv p q) ∨ (∃ i j, x = .str i ∧ y = .str j ∧ b = decide (i = j)) ∨
  ∃ C fs φ, x = .obj C fs ∧ O C φ ∧ anyS CS y = true ∧ (y = x → b = true) ∧ solid x = true ∧ solid y = true ∧ ∀ (M : Mm) (k : DK), k (.bl b) M → φ [x, y] M k (fun _ _ _ => False)
inductive EqS (R : D → D → Bool → Prop) : List D → List D → Bool → Prop where
  | nilL {ys : List D} : EqS R [] ys true
  | nilR {xs : List D} : EqS R xs [] true
  | stop {x y : D} {xs ys : List D} (h : R x y false) : EqS R (x :: xs) (y :: ys) false
  | go {x y : D} {xs ys : List D} {b : Bool} (h : R x y true) (r : EqS R xs ys b) : EqS R (x :: xs) (y :: ys) b
def EqTup (R : D → D → Bool → Prop) (x y : D) (b : Bool) : Prop := ∃ xs ys r, x = .tup xs ∧ y = .tup ys ∧ EqS R xs ys r ∧ b = (r && xs.length == ys.length)
def EqLst (R : D → D → Bool → Prop) (x y : D) (b : Bool) : Prop := ∃ xs ys, x = .lst xs ∧ y = .lst ys ∧ ((xs.length ≠ ys.length ∧ b = false) ∨ (xs.length = ys.length ∧ EqS R xs ys b))
/-- == of data at most n deep with instances in it -/
def EqX (O : Addr → Ct → Prop) (CS : List Addr) : Nat → D → D → Bool → Prop
  | 0, x, y, b => Leaf O CS x y b
  | n + 1, x, y, b => Leaf O CS x y b ∨ (solid x = true ∧ solid y = true ∧ (x = y → b = true) ∧ (EqTup (EqX O CS n) x y b ∨ EqLst (EqX O CS n) x y b))
variable {O : Addr → Ct → Prop} {CS : List Addr}
/-- the state behind a comparison -/
def After (X : Cx) (pins : List (Addr × Obj)) (σ : L2.St) (s0 : Sta) (s' : Shared) : Prop := ∃ t : Sta, Step s0 t ∧ Ok X.K t ∧ t.M = s0.M ∧ Inv X pins σ t.H s'
theorem After.refl {s0 : Sta} (ok : Ok X.K s0) (I : Inv X pins σ s0.H s) : After X pins σ s0 s := ⟨s0, .refl s0, ok, rfl, I⟩
/-- a leaf, asked by == -/
theorem leaf_rc {k j : Nat} {x y : D} {b : Bool} {v1 v2 : V} {u1 u2 : Value} {s0 : Sta} {E : Value → Shared → Prop} (hO : ∀ C φ, O C φ → OwnEq X.prog X.w X.K X.mg X.base k CS C φ) (hr : Room (k + j) X.A) (hx : ∃ C fs φ, x = .obj C fs ∧ O C φ ∧ anyS CS y = true ∧ ∀ (M : Mm) (k : DK), k (.bl b) M → φ [x, y] M k (fun _ _ _ => False)) (I : Inv X pins σ s0.H s) (ok : Ok X.K s0) (r1 : Rep X.K s0.G v1 x) (r2 : Rep X.K s0.G v2 y) (q1 : RelV v1 u1) (q2 : RelV v2 u2) :
    wpAny (model X.prog X.w) (inJ X.A j) (richCompare .Eq u1 u2) (fun r s' => r = .bool b ∧ After X pins σ s0 s') E s := by
  obtain ⟨C, fs, φ, rfl, o, ha, h⟩ := hx
  obtain ⟨⟨f, fd, ps, hs, hf, F, hb⟩, hB, hC⟩ := hO _ _ o
  obtain ⟨a, da, fvs, rfl, hga, rfa⟩ := r1.obj_of
  obtain rfl : u1 = Value.ref a := q1
  obtain ⟨_, Ob, _⟩ := ins_get I.hok (ok.sub _ _ hga)
  obtain ⟨_, J, _⟩ := Ob.look
  obtain ⟨m, hF⟩ := I.fr
  obtain ⟨tb, lk, nf⟩ := any_look hB hC I ok r2 q2 (anyS_D ha)
  have hr' : Room k (inJ X.A j) := room_inJ hr
  refine PySem.W.cmp_K (op := .Eq) (tb := tb) hr'.units0 hF I.ok.mod.kin J lk nf hs hf ?_
  refine wpAny_mono (run_At (Q := fun v H' => v = .bl b ∧ ∃ t : Sta, Step s0 t ∧ Ok X.K t ∧ t.M = s0.M ∧ t.H = H') F hr' (env_inJ I j) hb I (vs := [.ref a, v2]) (.cons rfl (.cons q2 .nil)) ⟨s0, [.obj C fs, y], fun d M => d = .bl b ∧ M = s0.M, rfl, ok, .cons r1 (.cons r2 .nil), rfl, h _ _ ⟨rfl, rfl⟩, ?_⟩) (fun w s' z => ?_) fun _ _ x => x
  · rintro r t ⟨rfl, hM⟩ st okt v hv
    cases hv
    exact ⟨rfl, t, st, okt, hM, rfl⟩
  · obtain ⟨z', H', I', rz, rfl, t, st, okt, hM, rfl⟩ := z
    cases (show w = Value.bool b from rz)
    exact SlX.cmpback (show RelV (.bl b) (.bool b) from rfl) ⟨rfl, t, st, okt, hM, I'⟩
theorem leaf_eq {k j : Nat} {x y : D} {b : Bool} {v1 v2 : V} {u1 u2 : Value} {s0 : Sta} {E : Value → Shared → Prop} (hO : ∀ C φ, O C φ → OwnEq X.prog X.w X.K X.mg X.base k CS C φ) (hr : Room (k + j) X.A) (hx : Leaf O CS x y b) (I : Inv X pins σ s0.H s) (ok : Ok X.K s0) (r1 : Rep X.K s0.G v1 x) (r2 : Rep X.K s0.G v2 y) (q1 : RelV v1 u1) (q2 : RelV v2 u2) :
    wpAny (model X.prog X.w) (inJ X.A j) (eqBool u1 u2) (fun r s' => r = b ∧ After X pins σ s0 s') E s := by
  rcases hx with ⟨p, q, h1, h2, h3, h4, rfl⟩ | ⟨i, j', rfl, rfl, rfl⟩ | ⟨C, fs, φ, rfl, o, ha, hsame, so1, so2, h⟩
  · obtain ⟨as, e1⟩ := Dp.reads I p v1 u1 (Dp.same ok.sub (dp_of r1 h1)) q1
    obtain ⟨bs, e2⟩ := Dp.reads I q v2 u2 (Dp.same ok.sub (dp_of r2 h2)) q2
    have hr' : Room k (inJ X.A j) := room_inJ hr
    exact SeqAt.eqAt_reads p q _ s u1 u2 as bs e1 e2 (SeqAt.canLay_of_shaped h3) (SeqAt.canLay_of_shaped h4) (SeqAt.room_of_shaped h3 (by have := hr'.un; omega)) _ _ _ _ ⟨rfl, After.refl ok I⟩
  · cases r1
    cases r2
    obtain ⟨t1, rfl⟩ := q1
    obtain ⟨t2, rfl⟩ := q2
    exact SeqAt.EqAt.str_str i t1 j' t2 _ _ _ _ ⟨by rfl, After.refl ok I⟩
  · have r1' := r1
    obtain ⟨a, da, fvs, rfl, hga, rfa⟩ := r1.obj_of
    obtain rfl : u1 = Value.ref a := q1
    by_cases e : u2 = Value.ref a
    · subst e
      have e2 : v2 = .ref a := by
        cases v2 <;> first | (obtain ⟨_, z⟩ := q2; cases z; done) | (cases q2; rfl) | (cases q2; done)
      subst e2
      have := Rep.inj I ok.sub r2 r1' so2 so1
      exact DX.eq_self ⟨(hsame this).symm, After.refl ok I⟩
    · unfold eqBool
      refine wpAny_holding ?_
      refine wpAny_ite_split (fun hab => absurd (eq_of_beq hab).symm e) (fun _ => ?_)
      refine wpAny_bind (wpAny_mono (leaf_rc hO hr ⟨C, fs, φ, rfl, o, ha, h⟩ I ok r1' r2 rfl q2) (fun v s' hv => ?_) fun _ _ x => x)
      obtain ⟨rfl, A⟩ := hv
      exact wpAny_truthy_bool ⟨rfl, A⟩

theorem After.step {s0 s1 : Sta} {s' : Shared} (st : Step s0 s1) (e : s1.M = s0.M) (h : After X pins σ s1 s') : After X pins σ s0 s' := by
  obtain ⟨t, st2, ok, hM, I⟩ := h
  exact ⟨t, st.trans st2, ok, hM.trans e, I⟩
theorem items_run {A : Around} {R : D → D → Bool → Prop} {E : Value → Shared → Prop} {s00 : Sta}
    (hR : ∀ (x y : D) (b : Bool) (v1 v2 : V) (u1 u2 : Value) (s0 : Sta) (s : Shared), R x y b → Inv X pins σ s0.H s → Ok X.K s0 → Rep X.K s0.G v1 x → Rep X.K s0.G v2 y → RelV v1 u1 → RelV v2 u2 → wpAny (model X.prog X.w) A (eqBool u1 u2) (fun r s' => r = b ∧ After X pins σ s0 s') E s) :
    ∀ {xs ys : List D} {r : Bool}, EqS R xs ys r → ∀ {vs ws : List V} {us zs : List Value} {s0 : Sta} {s : Shared}, Step s00 s0 → s0.M = s00.M → Inv X pins σ s0.H s → Ok X.K s0 → Reps X.K s0.G vs xs → Reps X.K s0.G ws ys → Vals vs us → Vals ws zs →
      DX.EqRun X.prog X.w A E (fun r' s' => r' = r ∧ After X pins σ s00 s') (us.zip zs) s := by
  intro xs ys r h
  induction h with
  | nilL =>
    intro vs ws us zs s0 s st e I ok r1 r2 q1 q2
    cases r1
    cases q1
    exact ⟨rfl, s0, st, ok, e, I⟩
  | nilR =>
    intro vs ws us zs s0 s st e I ok r1 r2 q1 q2
    cases r2
    cases q2
    rw [List.zip_nil_right]
    exact ⟨rfl, s0, st, ok, e, I⟩
  | stop h =>
    intro vs ws us zs s0 s st e I ok r1 r2 q1 q2
    cases r1 with
    | cons a1 b1 =>
      cases r2 with
      | cons a2 b2 =>
        cases q1 with
        | cons c1 d1 =>
          cases q2 with
          | cons c2 d2 =>
            refine wpAny_mono (hR _ _ _ _ _ _ _ _ _ h I ok a1 a2 c1 c2) (fun b s' z => ?_) fun _ _ x => x
            obtain ⟨rfl, z⟩ := z
            exact .inl ⟨rfl, rfl, z.step st e⟩
  | go h _ ih =>
    intro vs ws us zs s0 s st e I ok r1 r2 q1 q2
    cases r1 with
    | cons a1 b1 =>
      cases r2 with
      | cons a2 b2 =>
        cases q1 with
        | cons c1 d1 =>
          cases q2 with
          | cons c2 d2 =>
            refine wpAny_mono (hR _ _ _ _ _ _ _ _ _ h I ok a1 a2 c1 c2) (fun b s' z => ?_) fun _ _ x => x
            obtain ⟨rfl, t, st2, ok2, hM, I2⟩ := z
            exact .inr ⟨rfl, ih (st.trans st2) (hM.trans e) I2 ok2 (Reps.same st2.same b1) (Reps.same st2.same b2) d1 d2⟩
theorem plain_isL {h : Heap} {a : Addr} {its : Array Value} (p : PlainL h a its) : DX.IsL h a its := by
  obtain ⟨⟨c, d, dt, sl⟩, n, e, e1, e2, e3⟩ := p
  simp only at e1 e2 e3
  subst e1 e2 e3
  exact ⟨none, sl, n, e⟩
theorem lrun {A : Around} {R : D → D → Bool → Prop} {E : Value → Shared → Prop} {s00 : Sta} {l b : Addr} {vs ws : List V} {xs ys : List D} {r : Bool}
    (hR : ∀ (x y : D) (b : Bool) (v1 v2 : V) (u1 u2 : Value) (s0 : Sta) (s : Shared), R x y b → Inv X pins σ s0.H s → Ok X.K s0 → Rep X.K s0.G v1 x → Rep X.K s0.G v2 y → RelV v1 u1 → RelV v2 u2 → wpAny (model X.prog X.w) A (eqBool u1 u2) (fun r s' => r = b ∧ After X pins σ s0 s') E s)
    (hlen : xs.length = ys.length) : ∀ (k i : Nat), i + k = xs.length → EqS R (xs.drop i) (ys.drop i) r → ∀ {s0 : Sta} {s : Shared}, Step s00 s0 → s0.M = s00.M → Inv X pins σ s0.H s → Ok X.K s0 → s0.G l = some (.lst vs) → s0.G b = some (.lst ws) → Reps X.K s0.G vs xs → Reps X.K s0.G ws ys →
      DX.LRun X.prog X.w A E (fun r' s' => r' = r ∧ After X pins σ s00 s') l b xs.length k i s := by
  have two : ∀ {s0 : Sta} {s : Shared}, Inv X pins σ s0.H s → Ok X.K s0 → s0.G l = some (.lst vs) → s0.G b = some (.lst ws) → Reps X.K s0.G vs xs → Reps X.K s0.G ws ys →
      ∃ its jts : List Value, Vals vs its ∧ Vals ws jts ∧ DX.IsL s.heap l its.toArray ∧ DX.IsL s.heap b jts.toArray ∧ its.toArray.size = xs.length ∧ jts.toArray.size = xs.length := by
    intro s0 s I ok hl hb r1 r2
    obtain ⟨its, q1, p1, _⟩ := I.list (.inl (.of (ok.sub _ _ hl)))
    obtain ⟨jts, q2, p2, _⟩ := I.list (.inl (.of (ok.sub _ _ hb)))
    exact ⟨its, jts, q1, q2, plain_isL p1, plain_isL p2, by rw [List.size_toArray, ← q1.length, r1.length], by rw [List.size_toArray, ← q2.length, r2.length, hlen]⟩
  intro k
  induction k with
  | zero =>
    intro i hi h s0 s st e I ok hl hb r1 r2
    have e1 : xs.drop i = [] := List.drop_of_length_le (by omega)
    have e2 : ys.drop i = [] := List.drop_of_length_le (by omega)
    rw [e1, e2] at h
    have : r = true := by cases h <;> rfl
    obtain ⟨its, jts, _, _, a1, a2, a3, a4⟩ := two I ok hl hb r1 r2
    exact ⟨⟨_, _, a1, a2, a3, a4⟩, this.symm, s0, st, ok, e, I⟩
  | succ k ih =>
    intro i hi h s0 s st e I ok hl hb r1 r2
    obtain ⟨its, jts, q1, q2, a1, a2, a3, a4⟩ := two I ok hl hb r1 r2
    refine ⟨_, _, a1, a2, a3, a4, fun h1 h2 => ?_⟩
    have i1 : i < xs.length := by omega
    have i2 : i < ys.length := by omega
    rw [List.drop_eq_getElem_cons i1, List.drop_eq_getElem_cons i2] at h
    obtain ⟨v, ev, rv⟩ := r1.get (i := i) (d := xs[i]) (by simp [i1])
    obtain ⟨v', ev', rv'⟩ := r2.get (i := i) (d := ys[i]) (by simp [i2])
    obtain ⟨u, eu, ru⟩ := q1.get ev
    obtain ⟨u', eu', ru'⟩ := q2.get ev'
    have z1 : its.toArray[i] = u := by
      have e0 : its[i]? = some u := eu
      rw [List.getElem?_eq_some_iff] at e0
      obtain ⟨_, e0⟩ := e0
      simpa using e0
    have z2 : jts.toArray[i] = u' := by
      have e0 : jts[i]? = some u' := eu'
      rw [List.getElem?_eq_some_iff] at e0
      obtain ⟨_, e0⟩ := e0
      simpa using e0
    rw [z1, z2]
    cases h with
    | stop h =>
      refine wpAny_mono (hR _ _ _ _ _ _ _ _ _ h I ok rv rv' ru ru') (fun b s' z => ?_) fun _ _ x => x
      obtain ⟨rfl, z⟩ := z
      have z' := z
      obtain ⟨t, st2, ok2, hM, I2⟩ := z
      obtain ⟨its', jts', _, _, b1, b2, b3, b4⟩ := two I2 ok2 (st2.same _ _ hl) (st2.same _ _ hb) (Reps.same st2.same r1) (Reps.same st2.same r2)
      exact .inl ⟨rfl, ⟨_, _, b1, b2, b3, b4⟩, rfl, z'.step st e⟩
    | go h hh =>
      refine wpAny_mono (hR _ _ _ _ _ _ _ _ _ h I ok rv rv' ru ru') (fun b s' z => ?_) fun _ _ x => x
      obtain ⟨rfl, t, st2, ok2, hM, I2⟩ := z
      exact .inr ⟨rfl, ih (i + 1) (by omega) hh (st.trans st2) (hM.trans e) I2 ok2 (st2.same _ _ hl) (st2.same _ _ hb) (Reps.same st2.same r1) (Reps.same st2.same r2)⟩
theorem EqRun.imp {prog : Program} {w : World} {A : Around} {E : Value → Shared → Prop} {Q Q' : Bool → Shared → Prop} (hq : ∀ b s, Q b s → Q' b s) : ∀ {l : List (Value × Value)} {s : Shared}, DX.EqRun prog w A E Q l s → DX.EqRun prog w A E Q' l s
  | [], s, h => hq _ _ h
  | p :: r, s, h => wpAny_mono h (fun b s' z => z.elim (fun z => .inl ⟨z.1, hq _ _ z.2⟩) (fun z => .inr ⟨z.1, EqRun.imp hq z.2⟩)) fun _ _ x => x
/-- tuples and lists, asked by == or != -/
theorem seq_rc (neg : Bool) {j : Nat} {R : D → D → Bool → Prop} {E : Value → Shared → Prop} {x y : D} {b : Bool} {v1 v2 : V} {u1 u2 : Value} {s0 : Sta} (hu : (inJ X.A j).units < cLine)
    (hR : ∀ (x y : D) (b : Bool) (v1 v2 : V) (u1 u2 : Value) (s0 : Sta) (s : Shared), R x y b → Inv X pins σ s0.H s → Ok X.K s0 → Rep X.K s0.G v1 x → Rep X.K s0.G v2 y → RelV v1 u1 → RelV v2 u2 → wpAny (model X.prog X.w) (inJ X.A (j + 1)) (eqBool u1 u2) (fun r s' => r = b ∧ After X pins σ s0 s') E s)
    (h : EqTup R x y b ∨ EqLst R x y b) (I : Inv X pins σ s0.H s) (ok : Ok X.K s0) (r1 : Rep X.K s0.G v1 x) (r2 : Rep X.K s0.G v2 y) (q1 : RelV v1 u1) (q2 : RelV v2 u2) :
    wpAny (model X.prog X.w) (inJ X.A j) (richCompare (if neg then .NotEq else .Eq) u1 u2) (fun r s' => r = .bool (if neg then !b else b) ∧ After X pins σ s0 s') E s := by
  rcases h with ⟨xs, ys, r, rfl, rfl, hs, rfl⟩ | ⟨xs, ys, rfl, rfl, hs⟩
  · obtain ⟨l, vs, rfl, hl, rl⟩ := r1.tup_of
    obtain ⟨c, ws, rfl, hc, rc⟩ := r2.tup_of
    obtain rfl : u1 = Value.ref l := q1
    obtain rfl : u2 = Value.ref c := q2
    obtain ⟨its, w1, p1, _⟩ := I.tuple (Same.seqT ok.sub hl)
    obtain ⟨jts, w2, p2, _⟩ := I.tuple (Same.seqT ok.sub hc)
    have e1 : its.toArray.size = xs.length := by rw [List.size_toArray, ← w1.length, rl.length]
    have e2 : jts.toArray.size = ys.length := by rw [List.size_toArray, ← w2.length, rc.length]
    have run := items_run (E := E) (s00 := s0) hR hs (Step.refl s0) rfl I ok rl rc w1 w2
    cases neg with
    | false =>
      refine DX.rc_tup hu p1 p2 ?_
      refine EqRun.imp (fun b s' z => ?_) run
      obtain ⟨rfl, z⟩ := z
      rw [e1, e2]
      exact ⟨rfl, z⟩
    | true =>
      refine DX.rcn_tup hu p1 p2 ?_
      refine EqRun.imp (fun b s' z => ?_) run
      obtain ⟨rfl, z⟩ := z
      rw [e1, e2]
      exact ⟨rfl, z⟩
  · obtain ⟨l, vs, rfl, hl, rl⟩ := r1.lst_of
    obtain ⟨c, ws, rfl, hc, rc⟩ := r2.lst_of
    obtain rfl : u1 = Value.ref l := q1
    obtain rfl : u2 = Value.ref c := q2
    obtain ⟨its, w1, p1, _⟩ := I.list (.inl (.of (ok.sub _ _ hl)))
    obtain ⟨jts, w2, p2, _⟩ := I.list (.inl (.of (ok.sub _ _ hc)))
    have e1 : its.toArray.size = xs.length := by rw [List.size_toArray, ← w1.length, rl.length]
    have e2 : jts.toArray.size = ys.length := by rw [List.size_toArray, ← w2.length, rc.length]
    rcases hs with ⟨hne, rfl⟩ | ⟨hlen, hs⟩
    · cases neg with
      | false => exact DX.rc_lst hu (plain_isL p1) (plain_isL p2) (.inl ⟨by rw [e1, e2]; exact hne, rfl, After.refl ok I⟩)
      | true => exact DX.rcn_lst hu (plain_isL p1) (plain_isL p2) (.inl ⟨by rw [e1, e2]; exact hne, rfl, After.refl ok I⟩)
    · have run := lrun (E := E) (s00 := s0) (l := l) (b := c) hR hlen xs.length 0 (Nat.zero_add _) hs (Step.refl s0) rfl I ok hl hc rl rc
      cases neg with
      | false =>
        refine DX.rc_lst hu (plain_isL p1) (plain_isL p2) (.inr ⟨by rw [e1, e2]; exact hlen, ?_⟩)
        rw [e1]
        exact DX.LRun.imp (fun b s' z => ⟨by rw [z.1]; rfl, z.2⟩) (fun _ _ z => z) run
      | true =>
        refine DX.rcn_lst hu (plain_isL p1) (plain_isL p2) (.inr ⟨by rw [e1, e2]; exact hlen, ?_⟩)
        rw [e1]
        exact DX.LRun.imp (fun b s' z => ⟨by rw [z.1]; rfl, z.2⟩) (fun _ _ z => z) run
theorem eqx_run {k : Nat} {E : Value → Shared → Prop} (hO : ∀ C φ, O C φ → OwnEq X.prog X.w X.K X.mg X.base k CS C φ) : ∀ (n j : Nat), Room (k + (j + n)) X.A → ∀ (x y : D) (b : Bool) (v1 v2 : V) (u1 u2 : Value) (s0 : Sta) (s : Shared), EqX O CS n x y b → Inv X pins σ s0.H s → Ok X.K s0 → Rep X.K s0.G v1 x → Rep X.K s0.G v2 y → RelV v1 u1 → RelV v2 u2 →
    wpAny (model X.prog X.w) (inJ X.A j) (eqBool u1 u2) (fun r s' => r = b ∧ After X pins σ s0 s') E s := by
  intro n
  induction n with
  | zero => exact fun j hr x y b v1 v2 u1 u2 s0 s h I ok r1 r2 q1 q2 => leaf_eq hO hr h I ok r1 r2 q1 q2
  | succ n ih =>
    intro j hr x y b v1 v2 u1 u2 s0 s h I ok r1 r2 q1 q2
    rcases h with h | ⟨so1, so2, hsame, h⟩
    · exact leaf_eq hO (hr.mono (by omega)) h I ok r1 r2 q1 q2
    · have hr' : Room k (inJ X.A j) := room_inJ (hr.mono (by omega))
      obtain ⟨l, hl⟩ : ∃ l, v1 = .ref l := by
        rcases h with ⟨xs, ys, r, rfl, rfl, _⟩ | ⟨xs, ys, rfl, rfl, _⟩
        · obtain ⟨l, vs, rfl, _⟩ := r1.tup_of; exact ⟨l, rfl⟩
        · obtain ⟨l, vs, rfl, _⟩ := r1.lst_of; exact ⟨l, rfl⟩
      obtain ⟨c, hc⟩ : ∃ l, v2 = .ref l := by
        rcases h with ⟨xs, ys, r, rfl, rfl, _⟩ | ⟨xs, ys, rfl, rfl, _⟩
        · obtain ⟨l, vs, rfl, _⟩ := r2.tup_of; exact ⟨l, rfl⟩
        · obtain ⟨l, vs, rfl, _⟩ := r2.lst_of; exact ⟨l, rfl⟩
      subst hl hc
      obtain rfl : u1 = Value.ref l := q1
      obtain rfl : u2 = Value.ref c := q2
      by_cases e : l = c
      · subst e
        exact DX.eq_self ⟨(hsame (Rep.inj I ok.sub r1 r2 so1 so2)).symm, After.refl ok I⟩
      · refine GQ.eqBool_refG e (wpAny_mono (seq_rc false hr'.units0 (ih (j + 1) (hr.mono (by omega))) h I ok r1 r2 rfl rfl) (fun v s' z => ?_) fun _ _ x => x)
        exact ⟨_, z.1, rfl, z.2⟩
end
section
variable {X : Cx} {E : XK} {O : Addr → Ct → Prop} {CS : List Addr} {k : Nat}
/-- == and != of tuples and lists with instances in them -/
inductive EqXK (O : Addr → Ct → Prop) (CS : List Addr) (n : Nat) (neg : Bool) (x y : D) (M : Mm) (k : DK) : Prop where
  | of {r : Bool} (h : EqTup (EqX O CS n) x y r ∨ EqLst (EqX O CS n) x y r) (q : k (.bl (if neg then !r else r)) M)
  | no (h : False)
def dEqX (O : Addr → Ct → Prop) (CS : List Addr) (n : Nat) (neg : Bool) : D2 := fun x y M k _ => EqXK O CS n neg x y M k
theorem o_eqX (n : Nat) (hO : ∀ C φ, O C φ → OwnEq X.prog X.w X.K X.mg X.base k CS C φ) (hr : Room (k + (1 + n)) X.A) : OpR X (compareOp .Eq) (r2 X.K E (dEqX O CS n false)) := by
  intro pins s σ H x y u v Q I rx ry h
  obtain ⟨s0, dx, dy, kk, xx, rfl, ok, hdx, hdy, h, p, px⟩ := h
  rcases h with ⟨h, q⟩ | z
  case no => exact z.elim
  have hr' : Room k (inJ X.A 0) := room_inJ (hr.mono (by omega))
  refine wpAny_mono (seq_rc (j := 0) false hr'.units0 (eqx_run hO n 1 hr) h I ok hdx hdy rx ry) (fun r s' z => ?_) fun _ _ x => x
  obtain ⟨rfl, t, st, okt, hM, I'⟩ := z
  exact ⟨.bl _, t.H, I', rfl, p _ t (by rw [hM]; exact q) st okt _ .bl⟩
theorem o_neX (n : Nat) (hO : ∀ C φ, O C φ → OwnEq X.prog X.w X.K X.mg X.base k CS C φ) (hr : Room (k + (1 + n)) X.A) : OpR X (compareOp .NotEq) (r2 X.K E (dEqX O CS n true)) := by
  intro pins s σ H x y u v Q I rx ry h
  obtain ⟨s0, dx, dy, kk, xx, rfl, ok, hdx, hdy, h, p, px⟩ := h
  rcases h with ⟨h, q⟩ | z
  case no => exact z.elim
  have hr' : Room k (inJ X.A 0) := room_inJ (hr.mono (by omega))
  refine wpAny_mono (seq_rc (j := 0) true hr'.units0 (eqx_run hO n 1 hr) h I ok hdx hdy rx ry) (fun r s' z => ?_) fun _ _ x => x
  obtain ⟨rfl, t, st, okt, hM, I'⟩ := z
  exact ⟨.bl _, t.H, I', rfl, p _ t (by rw [hM]; exact q) st okt _ .bl⟩
/-- the two rules in one: what the data are decides -/
inductive SelX (own f : Prop) : Prop where
  | own (h : own)
  | f (h : f)
def dOr2 (f g : D2) : D2 := fun x y M k xx => SelX (f x y M k xx) (g x y M k xx)
theorem o_or2 {op : Value → Value → Sem Value} {f g : D2} (h1 : OpR X op (r2 X.K E f)) (h2 : OpR X op (r2 X.K E g)) : OpR X op (r2 X.K E (dOr2 f g)) := by
  intro pins s σ H x y u v Q I rx ry h
  obtain ⟨s0, dx, dy, kk, xx, rfl, ok, hdx, hdy, h, p, px⟩ := h
  rcases h with h | h
  · exact h1 pins s σ _ x y u v Q I rx ry ⟨s0, dx, dy, kk, xx, rfl, ok, hdx, hdy, h, p, px⟩
  · exact h2 pins s σ _ x y u v Q I rx ry ⟨s0, dx, dy, kk, xx, rfl, ok, hdx, hdy, h, p, px⟩
end
end DL
set_option Elab.async false
set_option linter.all false
set_option maxRecDepth 100000
set_option maxHeartbeats 2000000
namespace DL
open PySem PySem.Spec PyProof.Rows L2
/-- a comprehension over a changing list whose element sees the outer def's data -/
def dLcIC (τ : DE) (γ : DG) (θ : DT) (ε : DEnv → DE) (vs : List Nat) : DE := fun ρ M k x => dLcC τ γ θ (ε ρ) vs ρ M k x
theorem up_lcIC {K : PySem.W.Frag} {E : XK} {τ : DE} {g : TG} {γ : DG} {θ : DT} {ε : DEnv → DE} {vs : List Nat} {σ : L2.St} {H : Hp} {Q : VK} (gp : GPair K g γ vs) (h : up K E (dLcIC τ γ θ ε vs) σ H Q) : tLc (iList K (up K E τ)) g (upT K E0 θ) (upX K E0 ε σ) vs σ H Q := by
  obtain ⟨ρ, s, k, x, rfl, er, q, p, px⟩ := h
  refine ⟨ρ, s, _, x, rfl, er, q, fun u s1 q1 st1 ok1 v1 r1 => ?_, px⟩
  obtain ⟨a, ds, rfl, hm, q1⟩ := q1
  have hv := r1.cel_of
  subst hv
  rcases q1 with ⟨hlen, I, i0, keep, turn, fin⟩ | z
  case no => exact z.elim
  have at_ : ∀ t : Sta, Ok K t → t.M a = some (.lst ds) → ∃ us, SqL K t.H a us ∧ Reps K t.G us ds := fun t ok hm => by
    obtain ⟨us, e, r⟩ := ok.cells _ _ hm
    exact ⟨us, SqL.of e, r⟩
  obtain ⟨us0, hq0, _⟩ := at_ s1 ok1 hm
  refine ⟨a, rfl, ⟨us0, hq0⟩, ?_⟩
  intro L hL
  have inv0 : ∃ (acc : List D) (vs' : List V) (s' : Sta), s'.H = upd s1.H L (.lst []) ∧ Ok K s' ∧ Step s1 s' ∧ s'.G L = none ∧ s'.M L = none ∧ s'.H L = some (.lst vs') ∧ Reps K s'.G vs' acc ∧ acc.length ≤ 0 ∧ I 0 acc s'.M := by
    obtain ⟨k1, st⟩ := ok1.hide (o := .lst []) (Step.refl s1) hL (ok1.freeG hL) (ok1.freeM hL)
    exact ⟨[], [], ⟨_, _, _⟩, rfl, k1, st, ok1.freeG hL, ok1.freeM hL, upd_same, .nil, Nat.le_refl _, i0⟩
  refine ⟨fun j m H' => m = ds.length - j ∧ j ≤ ds.length ∧ ∃ (acc : List D) (vs' : List V) (s' : Sta), s'.H = H' ∧ Ok K s' ∧ Step s1 s' ∧ s'.G L = none ∧ s'.M L = none ∧ s'.H L = some (.lst vs') ∧ Reps K s'.G vs' acc ∧ acc.length ≤ j ∧ I j acc s'.M,
    ⟨ds.length, rfl, Nat.zero_le _, inv0⟩, ?_⟩
  rintro j m H' ⟨rfl, hj, acc, vs', s', rfl, ok', st', gL, mL, hL', rs, hal, ij⟩
  obtain ⟨us, hq, ru⟩ := at_ s' ok' (keep j acc s'.M ij)
  have hul := ru.length
  by_cases hlt : j < ds.length
  · refine .inr ⟨⟨us, us[j]'(by omega), hq, by simp [hul ▸ hlt]⟩, fun H2 => ∃ (acc : List D) (vs' : List V) (s' : Sta), s'.H = H2 ∧ Ok K s' ∧ Step s1 s' ∧ s'.G L = none ∧ s'.M L = none ∧ s'.H L = some (.lst vs') ∧ Reps K s'.G vs' acc ∧ acc.length ≤ j + 1 ∧ I (j + 1) acc s'.M,
      fun H2 z => ⟨ds.length - (j + 1), by omega, rfl, hlt, z⟩, fun v H2 y => ?_⟩
    obtain ⟨d, hd⟩ : ∃ d, ds[j]? = some d := ⟨ds[j], by simp [hlt]⟩
    obtain ⟨eH, y⟩ := y
    subst eH
    obtain ⟨v', hv', rv⟩ := ru.get hd
    have y := y us hq
    rw [hv'] at y
    cases y
    have erX : ER K s' σ ρ := er.step (st1.trans st') ok'
    have eru : ER K s' (wipe σ vs) (wipeD ρ vs) := erX.wipe vs
    refine gp.run _ d _ _ s' _ _ eru rv (turn j d acc s'.M hd ij) fun ρ3 σ3 q3 er3 w3 => ⟨w3.trans (wipe_wipe σ vs), ?_⟩
    refine ⟨ρ3, s', _, _, rfl, er3, q3, fun b s4 q4 st4 ok4 => ?_, PostX.never⟩
    obtain ⟨hL4, gL4, mL4⟩ := st4.hid L _ hL' gL mL
    cases b with
    | true =>
      rw [if_pos rfl] at q4 ⊢
      refine ⟨ρ, ρ3, s4, _, _, rfl, erX.step st4 ok4, er3.step st4 ok4, q4, fun yd s5 q5 st5 ok5 yv ry => ?_, PostX.never⟩
      obtain ⟨hL5, gL5, mL5⟩ := st5.hid L _ hL4 gL4 mL4
      have rs5 : Reps K s5.G vs' acc := rs.same (st4.trans st5).same
      refine ⟨vs', hL5, by rw [rs5.length]; omega, ?_⟩
      obtain ⟨k6, st6⟩ := ok5.hide (o := .lst (vs' ++ [yv])) ((st'.trans st4).trans st5) hL gL5 mL5
      exact ⟨acc ++ [yd], vs' ++ [yv], ⟨_, _, _⟩, rfl, k6, st6, gL5, mL5, upd_same, rs5.append (.cons ry .nil), by simp; omega, q5⟩
    | false =>
      rw [if_neg Bool.false_ne_true] at q4 ⊢
      exact ⟨acc, vs', s4, rfl, ok4, st'.trans st4, gL4, mL4, hL4, rs.same st4.same, by omega, q4⟩
  · have ej : j = ds.length := by omega
    subst ej
    refine .inl ⟨⟨us, hq, by omega⟩, ?_⟩
    obtain ⟨k6, st6, sm⟩ := ok'.shown st' hL gL mL hL'
    exact p _ ⟨s'.H, upd s'.G L (.lst vs'), s'.M⟩ (fin acc s'.M ij) (st1.trans st6) k6 _ (.lst upd_same (rs.same sm))
section
variable {X : Cx} {E : XK} {elt tg e : Expr} {ifs : List Expr} {scope : Scope} {own : List (Str × Nat)} {pos : Pos} {τ : DE} {g : TG} {γ : DG} {θ : DT} {ε : DEnv → DE}
theorem d_lcIC (hc : X.calm = true) (hN : X.N.Nodup) (hi : DP X E e τ) (ok : BlkOk X.N X.env.scope scope own) (gp : GPair X.K g γ (own.map (·.2)))
    (hg : ∀ (s : Shared) (H : Hp) (C : Addr) (cl : List (Str × Addr)) (fp : List Addr), PG (X.blk s H scope (compEnvC scope cl C X.env) fp) tg g) (ht : ∀ (s : Shared) (H : Hp) (C : Addr) (cl : List (Str × Addr)) (fp : List Addr), DPTs (X.blk s H scope (compEnvC scope cl C X.env) fp) E0 ifs θ)
    (he : ∀ (pins : List (Addr × Obj)) (σ : L2.St) (s : Shared) (H : Hp) (C : Addr) (cl : List (Str × Addr)) (fp : List Addr), (∀ (pins' : List (Addr × Obj)) (σ' : L2.St) (H' : Hp) (s' : Shared), Inv (X.blk s H scope (compEnvC scope cl C X.env) fp) pins' σ' H' s' → Inv X pins σ H' s') → PE (X.blk s H scope (compEnvC scope cl C X.env) fp) elt (upX X.K E0 ε σ))
    (hs : ∀ x, foldedSetIterable e X.env x = pure x := by intro _; rfl) :
    DP X E (.ListComp elt [⟨tg, e, ifs, 0⟩] scope pos) (dLcIC τ γ θ ε (own.map (·.2))) := pe_mono (pe_lcI (tt := upT X.K E0 θ) (te := upX X.K E0 ε) hc hN (pi_list hi) ok hg ht he hs) fun _ _ _ h => up_lcIC gp h
end
/-- a comprehension over a changing list, item by item -/
def lcC (γ : DG) (ε : DE) (vs : List Nat) (ρ : DEnv) (a : Addr) (ds0 : List D) : List D → List D → Mm → DK → Prop
  | [], acc, M, k => k (.lst acc) M
  | d :: ds, acc, M, k => γ d (wipeD ρ vs) M fun ρ1 M2 => ε ρ1 M2 (fun y M4 => M4 a = some (.lst ds0) ∧ lcC γ ε vs ρ a ds0 ds (acc ++ [y]) M4 k) (fun _ _ _ => False)
theorem lcC_unroll {γ : DG} {ε : DE} {vs : List Nat} {ρ : DEnv} {a : Addr} {ds : List D} {M : Mm} {k : DK} (hl : ds.length < sizeLine) (hm : M a = some (.lst ds)) (gm : ∀ d M (K K' : DEnv → Mm → Prop), (∀ ρ M, K ρ M → K' ρ M) → γ d (wipeD ρ vs) M K → γ d (wipeD ρ vs) M K') (h : lcC γ ε vs ρ a ds ds [] M k) : LcKC γ dYes ε vs ρ a ds M k := by
  refine .of hl (fun j acc M => M a = some (.lst ds) ∧ lcC γ ε vs ρ a ds (ds.drop j) acc M k) ⟨hm, h⟩ (fun _ _ _ h => h.1) (fun j d acc M hd h => ?_) (fun acc M h => ?_)
  · have e : ds.drop j = d :: ds.drop (j + 1) := by
      obtain ⟨hj, e⟩ := List.getElem?_eq_some_iff.mp hd
      rw [List.drop_eq_getElem_cons hj, e]
    rw [e] at h
    refine gm _ _ _ _ (fun ρ1 M1 q => ?_) h.2
    unfold dYes
    dsimp only
    rw [if_pos rfl]
    exact q
  · rw [List.drop_of_length_le (Nat.le_refl _)] at h
    exact h.2
theorem lcCN {i : Nat} {ε : DE} {vs : List Nat} {ρ : DEnv} {a : Addr} {ds : List D} {M : Mm} {k : DK} (hl : ds.length < sizeLine) (hm : M a = some (.lst ds)) (h : lcC (gN i) ε vs ρ a ds ds [] M k) : LcKC (gN i) dYes ε vs ρ a ds M k := lcC_unroll hl hm (fun d M K K' => gN_mono' K K') h
/-! ### the end with several tables of code objects -/
theorem walk_DTs {l : PySem.W.OpenLaw} {k : Nat} {q : Program} {loose : List Str} {XP : (Str → Option Value) → Heap → Prop} {YP : World → Heap → Prop} {d : DefRec} {K : Params → PySem.W.Frag} {φ : List Addr → Ct} {x : Str} (qs : List Str)
    (hn : l.most = some 63) (hdf : d.params.defaults = []) (hr : Room k callerA)
    (hφ : ∀ (Ps : List Addr) (ns : List Int) (M : Mm) (kk : DK) (xx : DX), ns.length ≤ 63 → (∀ z ∈ ns, Builtin.Int.intBits z ≤ 1048576) → Ps.Nodup → Ps.length = qs.length → (∀ (i : Nat) (P : Addr) (q0 : Str), Ps[i]? = some P → qs[i]? = some q0 → M P = some (.tbl q0)) → (∀ a, a ∉ Ps → M a = none) → (∀ M', kk (.bl true) M') → φ Ps [.scr ns] M kk xx)
    (hY : ∀ (w : World) (h : Heap), YP w h → (K w.params).In h)
    (F : ∀ (w : World) (mg : Str → Option Value) (fa : Addr) (h : Heap), (K w.params).In h → h.Ns mainGlobals mg → mg d.name = some (.ref fa) →
      ∃ (fd : FuncData) (cs : List (Addr × Addr)), (cs.map (·.2)).Nodup ∧ cs.length = qs.length ∧
        (∀ p ∈ cs, (K w.params).lookup p.2 = none ∧ PySem.W.codeHdIn (K w.params) p.1 p.2 = true ∧ ∃ (nm : Str) (f : Addr) (o : Obj) (fd : FuncData) (e : Value) (dd : Option Addr) (vs : Array Value) (sl : Array (Option Value)), ((recsOf q).any fun e => e.name == nm) = true ∧ mg nm = some (.ref f) ∧ (K w.params).lookup f = some o ∧ o.data = .func fd ∧ fd.code = .ref p.1 ∧ (K w.params).lookup p.1 = some ⟨e, dd, .fields vs, sl⟩ ∧ vs[11]? = some (.ref p.2)) ∧
        (∀ (s : Shared) (u : Value), BindsTo s fd ⟨[u], []⟩ [(x, u)]) ∧
        ∀ base : Heap, (K w.params).In base → base.Ns mainGlobals mg → (∀ p ∈ cs, LamX.TabB base mg p.1 p.2) → FnOk l.prog w (K w.params) mg base (L2.CX l.prog w) k fa fd [x] (spD (K w.params) 1 (φ (cs.map (·.2))))) :
    PySem.W.WalkO q loose XP YP l.row.toRowW d [] (fun f vs => PySem.call f vs) := by
  refine Att.attach_callB hn hdf fun w s₀ s₁ mg mb fa o pm cd doc a vs ns G Y ho hd hcd hmg hobj hints hlen hbits hg => ?_
  have KX := hY w _ Y
  obtain ⟨fd, cs, hnd, hcl, hcs, hb, hF⟩ := F w mg fa s₁.heap KX G.T.g hmg
  have hP : ∀ p ∈ cs, s₁.heap.get? p.2 = some { cls := .none, data := .fields #[] } := fun p hp => by
    obtain ⟨_, _, nm, f, o1, fd1, e, dd, vs1, sl, hrec, hm, k1, k2, k3, k4, k5⟩ := hcs p hp
    obtain ⟨dL, hm', hn1⟩ := List.any_eq_true.mp hrec
    have hn2 : dL.name = nm := beq_iff_eq.mp hn1
    obtain ⟨a', o', fd', c', P', h1, h2, h3, h4, h5, h6⟩ := G.T.tab dL hm'
    rw [hn2, hm] at h1
    cases h1
    have g1 := KX _ _ k1
    rw [g1] at h2
    cases h2
    rw [k2] at h3
    cases h3
    rw [k3] at h4
    cases h4
    obtain ⟨⟨oc, vc, e1, _, e3, e4⟩, hP⟩ := h6
    have g2 := KX _ _ k4
    rw [g2] at e1
    cases e1
    cases e3
    rw [k5] at e4
    cases e4
    exact hP
  refine LamX.law_callTs (sp := spD (K w.params) 1 (φ (cs.map (·.2)))) (x := x) (cs := cs) KX G.T.g G.T.b G.T.builtins G.T.nolimit hg hP (fun p hp => (hcs p hp).1) (fun p hp => PySem.W.codeHd_of_K KX (hcs p hp).2.1) G.T.bmain hobj hints (Nat.le_trans hlen (by decide)) hr hF hb (fun H hT hS => ?_) fun H e s' h => by
    obtain ⟨_, _, _, _, _, _, _, _, _, _, _, _, z⟩ := h
    exact z
  -- the state: the tables change, the rest stays
  let tb : Addr → Option MO := fun b => ((cs.map (·.2)).zip qs).lookup b |>.map MO.tbl
  have tb_none : ∀ b, b ∉ cs.map (·.2) → tb b = none := fun b hb => by
    have : ((cs.map (·.2)).zip qs).lookup b = none := by
      rw [List.lookup_eq_none_iff]
      intro p hp
      have : p.1 ∈ cs.map (·.2) := (List.of_mem_zip hp).1
      simp only [bne_iff_ne, ne_eq, beq_eq_false_iff_ne]
      intro e
      exact hb (e ▸ this)
    show (List.lookup b _).map MO.tbl = none
    rw [this]; rfl
  have look : ∀ (Ps : List Addr) (qs : List Str), Ps.Nodup → ∀ (i : Nat) (P : Addr) (q0 : Str), Ps[i]? = some P → qs[i]? = some q0 → (Ps.zip qs).lookup P = some q0 := by
    intro Ps
    induction Ps with
    | nil => intro qs _ i P q0 h; simp at h
    | cons A Ps ih =>
      intro qs hnd i P q0 h1 h2
      cases qs with
      | nil => simp at h2
      | cons B qs =>
        cases i with
        | zero =>
          simp at h1 h2
          subst h1 h2
          simp [List.lookup_cons]
        | succ i =>
          simp only [List.getElem?_cons_succ] at h1 h2
          have hne : P ≠ A := fun e => by
            rw [e] at h1
            exact (List.nodup_cons.mp hnd).1 (List.mem_of_getElem? h1)
          rw [List.zip_cons_cons, List.lookup_cons, beq_false_of_ne hne]
          exact ih qs (List.nodup_cons.mp hnd).2 i P q0 h1 h2
  have eT : ∀ b mo, tb b = some mo → ∃ q0, mo = .tbl q0 ∧ H b = some (.tbl #[]) ∧ b ∈ cs.map (·.2) := fun b mo z => by
    by_cases hb : b ∈ cs.map (·.2)
    · obtain ⟨p, hp, rfl⟩ := List.mem_map.mp hb
      have z' : (List.lookup p.2 ((cs.map (·.2)).zip qs)).map MO.tbl = some mo := z
      cases hq : List.lookup p.2 ((cs.map (·.2)).zip qs) with
      | none => rw [hq] at z'; cases z'
      | some q0 =>
        rw [hq] at z'
        cases z'
        exact ⟨q0, rfl, hT p hp, hb⟩
    · rw [tb_none b hb] at z; cases z
  have ne : ∀ u, H a = some u → (∀ ps, u ≠ .tbl ps) → a ∉ cs.map (·.2) := fun u e1 e2 z => by
    obtain ⟨p, hp, z2⟩ := List.mem_map.mp z
    rw [← z2, hT p hp] at e1
    exact e2 _ (Option.some.inj e1).symm
  have hG : ∀ u, H a = some u → (∀ ps, u ≠ .tbl ps) → (fun b => if b ∈ cs.map (·.2) then none else H b : Hp) a = some u := fun u e1 e2 => by
    show (if a ∈ cs.map (·.2) then none else H a) = some u
    rw [if_neg (ne u e1 e2)]
    exact e1
  have hS2 : SqL (K w.params) (fun b => if b ∈ cs.map (·.2) then none else H b) a (ns.map V.int) := by
    rcases hS with (z | ⟨o2, z⟩) | z
    · exact .inl (.inl (hG _ z fun ps y => by cases y))
    · exact .inl (.inr ⟨o2, hG _ z fun ps y => by cases y⟩)
    · exact .inr z
  refine ⟨⟨H, fun b => if b ∈ cs.map (·.2) then none else H b, tb⟩, [.scr ns], fun d _ => d = .bl true, fun _ _ _ => False, rfl, ⟨fun b u z => ?_, fun b mo z => ?_, fun b mo z => ?_⟩, .cons (.scr hS2) .nil, rfl,
    hφ (cs.map (·.2)) ns _ _ _ hlen hbits hnd (by rw [List.length_map]; exact hcl) (fun i P q0 h1 h2 => ?_) (fun b hb => tb_none b hb) (fun _ => rfl), fun d t e _ _ v r => by subst e; cases r; rfl, fun C fs t h => h.elim⟩
  · have z' : (if b ∈ cs.map (·.2) then none else H b) = some u := z
    split at z'
    · cases z'
    · exact z'
  · obtain ⟨_, _, _, hb⟩ := eT b mo z
    show (if b ∈ cs.map (·.2) then none else H b) = none
    rw [if_pos hb]
  · obtain ⟨q0, rfl, eP, _⟩ := eT b mo z
    show MRep _ _ (H b) _
    rw [eP]
    exact ⟨#[], rfl, True.intro, fun pos cv hc => by simp [codeAmong] at hc⟩
  · show (List.lookup P _).map MO.tbl = some _
    rw [look _ _ hnd i P q0 h1 h2]
    rfl
end DL
set_option Elab.async false
set_option linter.all false
set_option maxRecDepth 100000
set_option maxHeartbeats 2000000
namespace DL
open PySem PySem.Spec PyProof.Rows L2
section
variable {X : Cx} {CX : CXT} {E : XK} {k nn : Nat} {f C : Addr} {mc : Value} {fd : FuncData} {ps ks : List Str} {φ : Ct} {x m : Str} {pos apos : Pos} {kws : List Keyword} {ακ : DA} {gD : List D → List D → List D}
/-- C.m(y=..), a static method, keywords alone -/
theorem d_smeth0 {pl : Sem Bool} {p1 : Pos} (r : ClX.CRead X.K C mc) (c : ∃ pp, CSta X.K C mc m pp f) (F : FnOk X.prog X.w X.K X.mg X.base CX k f fd ps (spD X.K nn φ)) (hr : Room k X.A) (hg : Gl X x) (hm : X.mg x = some (.ref C)) (hb : KBd X.K fd ps 0 ks gD) (hgl : ∀ us ws : List D, us.length = 0 → ws.length = ks.length → (gD us ws).length = nn) (hx : Passes CX X E)
    (hkw : DPK X E kws ακ) (hall : (backToKw pos (keywordEach kws X.env)).all (·.1.isSome) = true := by rfl) (hks : (backToKw pos (keywordEach kws X.env)).filterMap (·.1) = ks := by rfl)
    (hdb : (x == ("__debug__" : Str)) = false := by decide)
    (hpl : ((backTo pos (starEach [] X.env)).any (·.1) || (backToKw pos (keywordEach kws X.env)).any (·.1.isNone)) = false := by rfl)
    (ht : eval (.Call (.Attribute (.Name x p1) m apos) [] kws pos) X.env = (do
      let ov ← eval (.Name x p1) X.env
      standAt apos.atName
      let (f, first) ← holding [ov] (getMethod ov m pl)
      callWith pos f first (backTo pos (starEach [] X.env)) (backToKw pos (keywordEach kws X.env))) := by rfl) :
    DP X E (.Call (.Attribute (.Name x p1) m apos) [] kws pos) (dCallK 0 ks.length φ gD dNil ακ) := by
  refine ⟨fun pins s σ H Q I h => ?_⟩
  obtain ⟨ρ, s0, kk, xx, rfl, er, q, ppp, px⟩ := h
  obtain ⟨pp, c⟩ := c
  refine PySem.W.methodCall_KW (pl := pl) (ld_glob I hg hm ?_ hdb) ht
  obtain ⟨rest, hp⟩ := c.rc
  refine PySem.W.method_cls I.kIn r.ga ?_
  refine PySem.W.cls_bind I.kIn r.rd c.at_ ?_
  refine wpAny_call (PySem.W.sm_get (s := { s with toks := s.toks + 1 }) I.kIn hp (PySem.W.handed_on rfl ?_))
  have I0 : Inv X pins σ s0.H { s with toks := s.toks + 1 } := I.tok _
  refine PySem.W.callWith_KW0 (first := []) (h₀ := X.base) I.ok.mod.kin c.kp hall ?_ hpl
  refine thn (hkw.run pos pins _ σ s0.H (fun zs H2 => ∃ s3 zd, s3.H = H2 ∧ Ok X.K s3 ∧ Step s0 s3 ∧ Reps X.K s3.G zs zd ∧ zd.length = ks.length ∧ φ (gD [] zd) s3.M kk xx) I0 ⟨ρ, s0, _, xx, rfl, er, q, fun zd s3 q3 st3 ok3 zs r3 => ⟨s3, zd, rfl, ok3, st3, r3, q3.2⟩, px⟩) fun ws s3 ⟨zs, H2, I2, rz, s4, zd, e4, ok4, st4, r4, l5, q4⟩ => ⟨I2.kIn, ?_⟩
  subst e4
  rw [hks]
  exact run_D (us := []) (vs := []) F hr hb hx I2 .nil rz ⟨s4, [], zd, kk, xx, rfl, ok4, .nil, r4, rfl, l5, hgl _ _ rfl l5, q4, ppp.step st4, px.step st4⟩
end
/-- x, y, z = a, b, c -/
def dPar3 (i j l : Nat) (α : DA) : DS := fun k x ρ M => α ρ M (fun us M1 => ∃ u v w, us = [u, v, w] ∧ k.nx (((ρ.set i (some u)).set j (some v)).set l (some w)) M1) x
theorem s_par3 {X : Cx} {E : XK} {αa : DA} {i j l : Nat} {x y z : Str} {a b c : Expr} {px py pz pt pos : Pos} {kt k2 pt2} (hc : X.calm = true) (hN : X.N.Nodup) (hi : X.N[i]? = some x) (hj : X.N[j]? = some y) (hl : X.N[l]? = some z) (hij : i ≠ j) (hil : i ≠ l) (hjl : j ≠ l)
    (hx : X.env.scope.names.lookup x = some .local) (hy : X.env.scope.names.lookup y = some .local) (hz : X.env.scope.names.lookup z = some .local) (ha : DPA X E [a, b, c] αa)
    (hw : swappedStores [.Tuple [.Name x px, .Name y py, .Name z pz] kt pt] (.Tuple [a, b, c] k2 pt2) X.env = pure (some [x, y, z]))
    (hs : swapsWithSole [.Tuple [.Name x px, .Name y py, .Name z pz] kt pt] (.Tuple [a, b, c] k2 pt2) pos.line X.env = pure false := by rfl) :
    DPS X E (.Assign [.Tuple [.Name x px, .Name y py, .Name z pz] kt pt] (.Tuple [a, b, c] k2 pt2) pos) (dPar3 i j l αa) := ps_mono (ps_par3 hc hN hi hj hl hij hil hjl hx hy hz ha hw hs) fun D σ H h => by
  obtain ⟨ρ, s, k, x, rfl, er, q, p, px⟩ := h
  refine ⟨ρ, s, _, x, rfl, er, q, fun us s1 q1 st1 ok1 vs r1 => ?_, px⟩
  obtain ⟨u, v, w, rfl, q1⟩ := q1
  cases r1 with
  | cons ru r1 =>
    cases r1 with
    | cons rv r1 =>
      cases r1 with
      | cons rw' r1 =>
        cases r1
        exact ⟨_, _, _, rfl, p.nx _ s1 q1 st1 _ ((((er.step st1 ok1).set i ru).set j rv).set l rw')⟩
end DL
set_option Elab.async false
set_option linter.all false
set_option maxRecDepth 100000
set_option maxHeartbeats 2000000
namespace DL
open PySem PySem.Spec PyProof.Rows L2
section
variable {X : Cx} {E : XK} {elt tg iter e : Expr} {ifs : List Expr} {scope : Scope} {own : List (Str × Nat)} {pos spos py : Pos} {ι : DI} {τ : DE} {g : TG} {γ : DG} {θ : DT} {ε : DEnv → DE} {i : Nat} {y : Str}
/-- y = [..], the element sees the outer def's hold -/
theorem ps_setI {wi : TI} {tt : TT} {te : L2.St → TE} (hc : X.calm = true) (hN : X.N.Nodup) (hy : X.N[i]? = some y) (hyl : X.env.scope.names.lookup y = some .local) (sw : swapsWith (.ListComp elt [⟨tg, iter, ifs, 0⟩] scope pos) (some (.Name y py)) spos.line X.env = pure true) (hi : PI X tg iter wi) (ok : BlkOk X.N X.env.scope scope own)
    (hg : ∀ (s : Shared) (H : Hp) (C : Addr) (cl : List (Str × Addr)) (fp : List Addr), PG (X.blk s H scope (compEnvC scope cl C X.env) fp) tg g) (ht : ∀ (s : Shared) (H : Hp) (C : Addr) (cl : List (Str × Addr)) (fp : List Addr), PTs (X.blk s H scope (compEnvC scope cl C X.env) fp) ifs tt)
    (he : ∀ (pins : List (Addr × Obj)) (σ : L2.St) (s : Shared) (H : Hp) (C : Addr) (cl : List (Str × Addr)) (fp : List Addr), (∀ (pins' : List (Addr × Obj)) (σ' : L2.St) (H' : Hp) (s' : Shared), Inv (X.blk s H scope (compEnvC scope cl C X.env) fp) pins' σ' H' s' → Inv X pins σ H' s') → PE (X.blk s H scope (compEnvC scope cl C X.env) fp) elt (te σ))
    (hs : ∀ x, foldedSetIterable iter X.env x = pure x) : PS X (.Assign [.Name y py] (.ListComp elt [⟨tg, iter, ifs, 0⟩] scope pos) spos) (fun D σ H => tLc wi g tt (te σ) (own.map (·.2)) σ H fun x H1 => gName i x σ H1 D.nx) := by
  refine ⟨fun pins s σ H D I q0 => ?_⟩
  rw [exec_Assign_Name_used _ _ _ _ sw]
  refine wpAny_bind (wpAny_standAt (wpAny_bind (wpAny_bind (thn (Q := fun _ s' => SP X pins D .next s') (lc_in (Qf := fun _ s' => SP X pins D .next s') hc hN I hi ok hg ht (fun s H C cl fp back => he pins σ s H C cl fp back) hs q0 fun L C s' m H' I' q hn f => ?_) fun _ s' hq => wpAny_pure (wpAny_pure hq)))))
  have st : wpAny (model X.prog X.w) X.A (assign (.Name y py) X.env (.ref L)) (fun u s1 => ∃ m, s1.heap.Ns C m ∧ ∀ h3, Heap.SameBut C s1.heap h3 → SP X pins D .next { s1 with heap := h3 }) X.xe s' := by
    refine wpAny_assign_Name (store_ok2 (v := V.ref L) I' hN hy (.inl hyl) rfl (fun s2 I2 ha0 => ?_) (.inr hyl))
    obtain ⟨a, sb, ha⟩ := ha0
    obtain ⟨f0, f1, f2, f3, f4, f5⟩ := f
    have ne : C ≠ a := ha.elim (fun z => by rw [z]; exact f1) (fun z w => f4 y a z w.symm)
    exact ⟨m, hn.sameBut sb ne, fun h3 sb3 => ⟨_, H', I2.turned (t' := s2.toks) (fun b o hb e => (sb3.2 b hb).trans e) f0 f1 f3 f4 f5, q⟩⟩
  exact st
theorem s_setLcI (hc : X.calm = true) (hN : X.N.Nodup) (hy : X.N[i]? = some y) (hyl : X.env.scope.names.lookup y = some .local) (sw : swapsWith (.ListComp elt [⟨tg, iter, ifs, 0⟩] scope pos) (some (.Name y py)) spos.line X.env = pure true) (hi : DPI X E tg iter ι) (ok : BlkOk X.N X.env.scope scope own) (gp : GPair X.K g γ (own.map (·.2)))
    (hg : ∀ (s : Shared) (H : Hp) (C : Addr) (cl : List (Str × Addr)) (fp : List Addr), PG (X.blk s H scope (compEnvC scope cl C X.env) fp) tg g) (ht : ∀ (s : Shared) (H : Hp) (C : Addr) (cl : List (Str × Addr)) (fp : List Addr), DPTs (X.blk s H scope (compEnvC scope cl C X.env) fp) E0 ifs θ)
    (he : ∀ (pins : List (Addr × Obj)) (σ : L2.St) (s : Shared) (H : Hp) (C : Addr) (cl : List (Str × Addr)) (fp : List Addr), (∀ (pins' : List (Addr × Obj)) (σ' : L2.St) (H' : Hp) (s' : Shared), Inv (X.blk s H scope (compEnvC scope cl C X.env) fp) pins' σ' H' s' → Inv X pins σ H' s') → PE (X.blk s H scope (compEnvC scope cl C X.env) fp) elt (upX X.K E0 ε σ))
    (hs : ∀ x, foldedSetIterable iter X.env x = pure x := by intro _; rfl) :
    DPS X E (.Assign [.Name y py] (.ListComp elt [⟨tg, iter, ifs, 0⟩] scope pos) spos) (dSet i (dLcI ι γ θ ε (own.map (·.2)))) := ps_mono (ps_setI (tt := upT X.K E0 θ) (te := upX X.K E0 ε) hc hN hy hyl sw hi ok hg ht he hs) fun D σ H h => by
  obtain ⟨ρ, s, k, x, rfl, er, q, p, px⟩ := h
  exact up_lcI gp ⟨ρ, s, _, x, rfl, er, q, fun u s1 q1 st1 ok1 v1 r1 => p.nx _ s1 q1 st1 _ ((er.step st1 ok1).set i r1), px⟩
theorem s_setLcIC (hc : X.calm = true) (hN : X.N.Nodup) (hy : X.N[i]? = some y) (hyl : X.env.scope.names.lookup y = some .local) (sw : swapsWith (.ListComp elt [⟨tg, e, ifs, 0⟩] scope pos) (some (.Name y py)) spos.line X.env = pure true) (hi : DP X E e τ) (ok : BlkOk X.N X.env.scope scope own) (gp : GPair X.K g γ (own.map (·.2)))
    (hg : ∀ (s : Shared) (H : Hp) (C : Addr) (cl : List (Str × Addr)) (fp : List Addr), PG (X.blk s H scope (compEnvC scope cl C X.env) fp) tg g) (ht : ∀ (s : Shared) (H : Hp) (C : Addr) (cl : List (Str × Addr)) (fp : List Addr), DPTs (X.blk s H scope (compEnvC scope cl C X.env) fp) E0 ifs θ)
    (he : ∀ (pins : List (Addr × Obj)) (σ : L2.St) (s : Shared) (H : Hp) (C : Addr) (cl : List (Str × Addr)) (fp : List Addr), (∀ (pins' : List (Addr × Obj)) (σ' : L2.St) (H' : Hp) (s' : Shared), Inv (X.blk s H scope (compEnvC scope cl C X.env) fp) pins' σ' H' s' → Inv X pins σ H' s') → PE (X.blk s H scope (compEnvC scope cl C X.env) fp) elt (upX X.K E0 ε σ))
    (hs : ∀ x, foldedSetIterable e X.env x = pure x := by intro _; rfl) :
    DPS X E (.Assign [.Name y py] (.ListComp elt [⟨tg, e, ifs, 0⟩] scope pos) spos) (dSet i (dLcIC τ γ θ ε (own.map (·.2)))) := ps_mono (ps_setI (tt := upT X.K E0 θ) (te := upX X.K E0 ε) hc hN hy hyl sw (pi_list hi) ok hg ht he hs) fun D σ H h => by
  obtain ⟨ρ, s, k, x, rfl, er, q, p, px⟩ := h
  exact up_lcIC gp ⟨ρ, s, _, x, rfl, er, q, fun u s1 q1 st1 ok1 v1 r1 => p.nx _ s1 q1 st1 _ ((er.step st1 ok1).set i r1), px⟩
end
end DL
set_option Elab.async false
set_option linter.all false
set_option maxRecDepth 100000
set_option maxHeartbeats 2000000
namespace DX
open PySem PySem.Calls PySem.NumText PyProof.Rows PySem.W
/-- a name that a table of the written part lacks -/
theorem ns_lack {K : Frag} {h : Heap} {a : Addr} {m : Str → Option Value} {n : Str} (X : K.In h) (G : h.Ns a m) (e : nsIn K a n = some none) : m n = none := by
  obtain ⟨o, es, ep, ho, hd, hk, hf⟩ := G
  cases q : K.lookup a with
  | none =>
    unfold nsIn at e
    rw [q] at e
    cases e
  | some u =>
    have z := X _ _ q
    rw [ho] at z
    cases z
    obtain ⟨c, d, dt, sl⟩ := o
    have hd : dt = .dict es ep := hd
    subst hd
    unfold nsIn at e
    rw [q] at e
    simp only at e
    cases w : es.toList.find? (·.key.isStr n) with
    | some y => rw [w] at e; cases e
    | none =>
      rw [← hf n]
      unfold nsFind findBy
      rw [← Array.find?_toList, w]
      rfl
section
variable {M : Model} {A : Around} {E : Value → Shared → Prop} {s : Shared} {Q : Value → Shared → Prop}
/-- a text of figures of any length up to the limit -/
theorem wp_textB {v : Value} {text : List Nat} {n : Int} (hn : s.heap.NoDigits) (hs : ¬ (text.takeWhile (· != 0)).length ≤ 640) (hr : (int_private% "readNumeral") 4300 10 (text.takeWhile (· != 0)) = (int_private% "Numeral.value") n)
    (ha : ((text.takeWhile (· != 0)).length == text.length) = true) (h : Q (.int n s.toks) { s with toks := s.toks + 1 }) : wpAny M A ((int_private% "intFromText") v text 10) Q E s := by
  obtain ⟨mc, hns, hno⟩ := hn
  obtain ⟨hp, g, d, tk, os⟩ := s
  repeat (any_goals (first
    | assumption
    | (with_reducible refine wpAny_ite_false (decide_eq_false hs) ?_)
    | (with_reducible refine wpAny_ite_true (decide_eq_true ha) ?_)
    | (with_reducible refine wpAny_nsGet hns ?_)
    | wp_step))
  all_goals (try rw [hno])
  refine wpAny_pure ?_
  dsimp only
  rw [hr]
  dsimp only
  rw [if_pos ha]
  repeat (any_goals (first | assumption | wp_step))
set_option maxHeartbeats 4000000 in
theorem meets_textB {x : PySem.Str} {u : Tok} {n : Int} {prog : Program} {w : World} {R : Result → Shared → Prop} (hd : s.heap.NoDigits) (hl : x.length ≤ sizeLine) (hx : ¬ (numSeenOf x).length ≤ 640) (hn : PySem.intText? x = some n) (h : R (.ok (.ret (.int n s.toks))) { s with toks := s.toks + 1 }) :
    wpAny (model prog w) A.in1 (Builtin.«int.__new__» ⟨[.type "int", .str x u], []⟩) (GQ.FinOf prog w A R) (fun e s' => R (.error e) s') s := by
  have f1 := F.conv_sub_int
  have f2 := F.madeHere_int
  have f3 := KIN.str_int
  have f4 := KIN.str_idx
  have f5 := KIN.str_trunc
  have f6 : typeOf (.str x u) = pure (.type "str") := rfl
  have hr : (int_private% "readNumeral") 4300 10 (numSeenOf x) = (int_private% "Numeral.value") n ∧ ((numSeenOf x).length == (numTextOf x).length) = true := by
    rcases read4300 x hl with ⟨m, h1, h2, h3⟩ | ⟨h1, _⟩
    · rw [hn] at h1
      cases h1
      exact ⟨h3, h2⟩
    · rw [hn] at h1
      cases h1
  have hk := KIN.Hid.mk (And.intro (And.intro hd hx) hr)
  clear hx hr hl hn hd
  obtain ⟨hp, g, d, tk, os⟩ := s
  repeat (any_goals (first
    | assumption
    | ((with_reducible show wpAny _ _ ((int_private% "intFromText") _ _ _) _ _ _); refine wp_textB hk.out.1.1 hk.out.1.2 hk.out.2.1 hk.out.2.2 ?_)
    | wp_step))
end
section
variable {prog : Program} {w : World} {A : Around} {E : Value → Shared → Prop} {s : Shared} {Q : Value → Shared → Prop} {x : PySem.Str} {t : Tok} {n : Int}
theorem call_textB (hd : s.heap.NoDigits) (hn : PySem.intText? x = some n) (hl : x.length ≤ sizeLine) (h : Q (.int n s.toks) { s with toks := s.toks + 1 }) : wpAny (model prog w) A (call (.type "int") [.str x t]) Q E s := by
  by_cases hx : (numSeenOf x).length ≤ 640
  · by_cases hy : x.length ≤ 640
    · exact KIN.call_text hn hy h
    · refine call_int_1 (S := fun A R s => R (.ok (.ret (.int n s.toks))) { s with toks := s.toks + 1 }) (fun prog w A R s h => ?_) ⟨rfl, h⟩
      have f1 := F.conv_sub_int
      have f2 := F.madeHere_int
      have f3 := KIN.str_int
      have f4 := KIN.str_idx
      have f5 := KIN.str_trunc
      have f6 : typeOf (.str x t) = pure (.type "str") := rfl
      have hr : (int_private% "readNumeral") 0 10 (numSeenOf x) = (int_private% "Numeral.value") n ∧ ((numSeenOf x).length == (numTextOf x).length) = true := by
        rcases read0 x hx with ⟨m, h1, h2, h3⟩ | ⟨h1, _⟩
        · rw [hn] at h1
          cases h1
          exact ⟨h3, h2⟩
        · rw [hn] at h1
          cases h1
      have hk := KIN.Hid.mk (And.intro hx hr)
      clear hx hr hl hn hd hy
      obtain ⟨hp, g, d, tk, os⟩ := s
      repeat (any_goals (first
        | assumption
        | ((with_reducible show wpAny _ _ ((int_private% "intFromText") _ _ _) _ _ _); refine KIN.wp_text hk.out.1 hk.out.2.1 hk.out.2.2 ?_)
        | wp_step))
  · exact call_int_1 (S := fun A R s => s.heap.NoDigits ∧ R (.ok (.ret (.int n s.toks))) { s with toks := s.toks + 1 }) (fun prog w A R s h => meets_textB h.1 hl hx hn h.2) ⟨hd, rfl, h⟩
end
end DX
namespace DL
open PySem PySem.Spec PyProof.Rows L2
section
variable {X : Cx} {E : XK} {pins : List (Addr × Obj)} {σ : L2.St} {H : Hp} {s : Shared}
theorem no_digits (I : Inv X pins σ H s) (e : PySem.W.nsIn X.K cStatics "sys.int_max_str_digits" = some none) : s.heap.NoDigits := by
  obtain ⟨mc, h1, _⟩ := I.nolimit
  exact ⟨mc, h1, DX.ns_lack I.kIn h1 e⟩
/-- int(text) -/
def dIntS : DN
  | [.str a], M, k, _ => ∃ n, PySem.intText? a = some n ∧ a.length ≤ 4300 ∧ k (.int n) M
  | _, _, _, _ => False
theorem c_intS (e : PySem.W.nsIn X.K cStatics "sys.int_max_str_digits" = some none) : CallR X (.type "int") (rA X.K E dIntS) := by
  intro pins s σ H xs us Q I r h
  obtain ⟨s0, ds, k, xx, rfl, ok, hx, q, p, px⟩ := h
  unfold dIntS at q
  split at q
  · obtain ⟨v, rfl, rv⟩ := hx.one
    cases rv
    obtain ⟨n, hn, hl, q⟩ := q
    cases r with
    | cons r1 r2 =>
      cases r2
      obtain ⟨t, rfl⟩ := r1
      exact DX.call_textB (no_digits I e) hn (Nat.le_trans hl (by decide)) ⟨.int n, s0.H, I.tok _, ⟨_, rfl⟩, p.now q ok .int⟩
  · exact q.elim
/-- str(int) up to the limit -/
def dStrB : DN
  | [.int i], M, k, _ => i.natAbs < 10 ^ 4300 ∧ k (.str (toString i)) M
  | _, _, _, _ => False
theorem c_strB (hc : X.calm = true) (e : PySem.W.nsIn X.K cStatics "sys.int_max_str_digits" = some none) : CallR X (.type "str") (rA X.K E dStrB) := by
  intro pins s σ H xs us Q I r h
  obtain ⟨s0, ds, k, xx, rfl, ok, hx, q, p, px⟩ := h
  unfold dStrB at q
  split at q
  · obtain ⟨v, rfl, rv⟩ := hx.one
    cases rv
    cases r with
    | cons r1 r2 =>
      cases r2
      obtain ⟨t, rfl⟩ := r1
      exact PyProof.Rows.str_of_int_or (I.ok.hd hc) (no_digits I e) (fun _ => ⟨.str _, s0.H, I.tok _, ⟨_, rfl⟩, p.now q.2 ok .str⟩) (fun z => absurd q.1 (Nat.not_lt.mpr z))
  · exact q.elim
/-- {x}: a text, or an int up to the limit -/
def dFmtB (τ : DE) : DE := fun ρ M k x => τ ρ M (fun u M1 => (∃ y : Str, u = .str y ∧ y.length ≤ sizeLine ∧ k (.str y) M1) ∨ ∃ i : Int, u = .int i ∧ i.natAbs < 10 ^ 4300 ∧ k (.str (toString i)) M1) x
theorem d_fmtB {e : Expr} {τ : DE} {pos : Pos} (hc : X.calm = true) (hK : PySem.W.nsIn X.K cStatics "sys.int_max_str_digits" = some none) (he : DP X E e τ) : DP X E (.FormattedValue e (-1) none pos) (dFmtB τ) := by
  refine ⟨fun pins s σ H Q I h => ?_⟩
  obtain ⟨ρ, s0, kk, xx, rfl, er, q, p, px⟩ := h
  refine wpAny_FormattedValue_plain (thn (he.run pins s σ s0.H (fun v H1 => ∃ s1 u, s1.H = H1 ∧ Ok X.K s1 ∧ Step s0 s1 ∧ Rep X.K s1.G v u ∧ ((∃ y : Str, u = .str y ∧ y.length ≤ sizeLine ∧ kk (.str y) s1.M) ∨ ∃ i : Int, u = .int i ∧ i.natAbs < 10 ^ 4300 ∧ kk (.str (toString i)) s1.M)) I
    ⟨ρ, s0, _, xx, rfl, er, q, fun u s1 q1 st1 ok1 v1 r1 => ⟨s1, u, rfl, ok1, st1, r1, q1⟩, px⟩) fun v s1 hv => ?_)
  obtain ⟨x, H1, I1, r1, s2, u, e2, ok2, st2, ru, q1⟩ := hv
  subst e2
  rcases q1 with ⟨y, rfl, hz, q1⟩ | ⟨i, rfl, hz, q1⟩
  · cases ru
    obtain ⟨t, rfl⟩ := r1
    exact wpAny_formatField_str ⟨.str y, s2.H, I1, ⟨t, rfl⟩, p _ s2 q1 st2 ok2 _ .str⟩ ⟨.str y, s2.H, I1.tok _, ⟨_, rfl⟩, p _ s2 q1 st2 ok2 _ .str⟩ hz
  · cases ru
    obtain ⟨t, rfl⟩ := r1
    exact PyProof.Rows.formatField_int (I1.ok.hd hc) (no_digits I1 hK) (fun _ => ⟨.str _, s2.H, I1.tok _, ⟨_, rfl⟩, p _ s2 q1 st2 ok2 _ .str⟩) (fun z => absurd hz (Nat.not_lt.mpr z))
/-- either of two rules for a call -/
def dOrN (f g : DN) : DN := fun ds M k xx => SelX (f ds M k xx) (g ds M k xx)
theorem c_orN {fv : Value} {f g : DN} (h1 : CallR X fv (rA X.K E f)) (h2 : CallR X fv (rA X.K E g)) : CallR X fv (rA X.K E (dOrN f g)) := by
  intro pins s σ H xs us Q I r h
  obtain ⟨s0, ds, k, xx, rfl, ok, hx, q, p, px⟩ := h
  rcases q with q | q
  · exact h1 pins s σ _ xs us Q I r ⟨s0, ds, k, xx, rfl, ok, hx, q, p, px⟩
  · exact h2 pins s σ _ xs us Q I r ⟨s0, ds, k, xx, rfl, ok, hx, q, p, px⟩
/-- x.partition(sep) -/
def dPartn : D → List D → Mm → DK → DX → Prop := fun x ds M k _ => ∃ a b : Str, x = .str a ∧ ds = [.str b] ∧ (b.length == 0) = false ∧ a.length ≤ sizeLine ∧ k (.tup [.str (Txt.partition a b).1, .str (Txt.partition a b).2.1, .str (Txt.partition a b).2.2]) M
theorem m_partition : MtR X "str.partition" (rM X.K E dPartn) := by
  intro pins s σ H x xs v us Q I rx rs h
  obtain ⟨s0, dx, ds, k, xx, rfl, ok, hx, hxs, ⟨a, b, rfl, rfl, hb, hz, q⟩, p, px⟩ := h
  cases hx
  obtain ⟨y, rfl, ry⟩ := hxs.one
  cases ry
  refine mt_partition pins s σ _ _ _ v us Q I rx rs ⟨a, b, rfl, rfl, hb, hz, fun a' ha' => ?_⟩
  obtain ⟨k1, st1⟩ := ok.new (o := .tup [.str (Txt.partition a b).1, .str (Txt.partition a b).2.1, .str (Txt.partition a b).2.2]) ha'
  exact p _ (⟨upd s0.H a' (.tup [.str (Txt.partition a b).1, .str (Txt.partition a b).2.1, .str (Txt.partition a b).2.2]), upd s0.G a' (.tup [.str (Txt.partition a b).1, .str (Txt.partition a b).2.1, .str (Txt.partition a b).2.2]), s0.M⟩ : Sta) q st1 k1 _ (.tup (.inl (.of upd_same)) (.cons .str (.cons .str (.cons .str .nil))))
/-- x.split(sep) -/
def dSplit : D → List D → Mm → DK → DX → Prop := fun x ds M k _ => ∃ a b : Str, x = .str a ∧ ds = [.str b] ∧ (b.length == 0) = false ∧ a.length + 2 ≤ sizeLine ∧ k (.lst ((Txt.split a b).map .str)) M
theorem reps_strs {K : PySem.W.Frag} {G : Hp} : ∀ ys : List Str, Reps K G (ys.map V.str) (ys.map D.str)
  | [] => .nil
  | _ :: r => .cons .str (reps_strs r)
theorem m_split : MtR X "str.split" (rM X.K E dSplit) := by
  intro pins s σ H x xs v us Q I rx rs h
  obtain ⟨s0, dx, ds, k, xx, rfl, ok, hx, hxs, ⟨a, b, rfl, rfl, hb, hz, q⟩, p, px⟩ := h
  cases hx
  obtain ⟨y, rfl, ry⟩ := hxs.one
  cases ry
  refine mt_split pins s σ _ _ _ v us Q I rx rs ⟨a, b, rfl, rfl, hb, hz, fun a' ha' => ?_⟩
  obtain ⟨k1, st1⟩ := ok.new (o := .lst ((Txt.split a b).map V.str)) ha'
  exact p _ (⟨upd s0.H a' (.lst ((Txt.split a b).map V.str)), upd s0.G a' (.lst ((Txt.split a b).map V.str)), s0.M⟩ : Sta) q st1 k1 _ (.lst upd_same (reps_strs _))
/-- text * int -/
def repS (x : Str) (n : Nat) : Str := ⟨(List.replicate n x.cps).foldl (· ++ ·) #[]⟩
theorem foldl_size (x : Array Nat) : ∀ (n : Nat) (acc : Array Nat), ((List.replicate n x).foldl (· ++ ·) acc).size = acc.size + n * x.size
  | 0, acc => by simp
  | n + 1, acc => by
    rw [List.replicate_succ, List.foldl_cons, foldl_size x n, Array.size_append, Nat.succ_mul]
    omega
theorem repS_len (x : Str) (n : Nat) : (repS x n).length = n * x.length := by
  show ((List.replicate n x.cps).foldl (· ++ ·) #[]).size = _
  rw [foldl_size]
  simp [Str.length]
def dMulS : D2
  | .str x, .int n, M, k, _ => 1 < n ∧ 0 < x.length ∧ x.length * n.toNat ≤ 100000 ∧ k (.str (repS x n.toNat)) M
  | _, _, _, _, _ => False
theorem o_mulS : OpR X (binaryOp .Mult) (r2 X.K E dMulS) := by
  intro pins s σ H x y u v Q I rx ry h
  obtain ⟨s0, dx, dy, k, xx, rfl, ok, hx, hy, q, p, px⟩ := h
  unfold dMulS at q
  split at q
  · rename_i a n
    cases hx
    cases hy
    obtain ⟨t, rfl⟩ := rx
    obtain ⟨t', rfl⟩ := ry
    obtain ⟨h1, h2, h3, q⟩ := q
    have hn : n ≤ 100000 := by
      have : n.toNat ≤ a.length * n.toNat := Nat.le_mul_of_pos_left _ h2
      omega
    have e1 : ¬ n < 1 := by omega
    have e2 : (n == 1 || a.length == 0) = false := by
      simp only [Bool.or_eq_false_iff, beq_eq_false_iff_ne]
      exact ⟨by omega, by omega⟩
    have e3 : ¬ (n == 1 || a.length == 0) = true := by rw [e2]; exact Bool.false_ne_true
    have hal : a.length ≤ 100000 := by
      have : a.length ≤ a.length * n.toNat := Nat.le_mul_of_pos_right _ (by omega)
      omega
    refine PySem.P.mul_str (by simp; omega) (fun _ _ => ?_) (fun _ _ => ?_) ?_
    · have : ((2 : Int) ^ 63 - 1) / n ≥ 100000 := by
        rw [ge_iff_le, Int.le_ediv_iff_mul_le (by omega)]
        omega
      omega
    · have big : 100000 ≤ sizeLine := by decide
      show decide (_ > _) = false
      exact decide_eq_false (by omega)
    · rw [if_neg e1, if_neg e3]
      refine ⟨?_, .str _, s0.H, I.tok _, ⟨_, rfl⟩, p.now q ok .str⟩
      have big : 100000 ≤ sizeLine := by decide
      have := repS_len a n.toNat
      unfold repS at this
      rw [this, Nat.mul_comm]
      omega
  · exact q.elim
end
section
variable {X : Cx} {CX : CXT} {E : XK} {k n nn : Nat} {f C : Addr} {mc : Value} {fd : FuncData} {ps ks : List Str} {φ : Ct} {x m : Str} {pos apos : Pos} {e : Expr} {es : List Expr} {kws : List Keyword} {αa ακ : DA} {gD : List D → List D → List D}
/-- C.m(e, ..), m a classmethod with plain parameters -/
def dCMethF (C : Addr) (n : Nat) (φ : Ct) (α : DA) : DE := fun ρ M k x => α ρ M (fun ds M1 => ds.length = n ∧ φ (.cel C :: ds) M1 k x) x
theorem d_cmethF {pl : Sem Bool} {p1 : Pos} (r : ClX.CRead X.K C mc) (c : ∃ pp, ClX.CMet X.K C mc m pp f) (F : FnOk X.prog X.w X.K X.mg X.base CX k f fd ps (spD X.K (n + 1) φ)) (hb : Binds X.K fd ps []) (hr : Room k X.A) (hg : Gl X x) (hm : X.mg x = some (.ref C)) (hx : Passes CX X E) (ha : DPA X E (e :: es) αa)
    (hd : (x == ("__debug__" : Str)) = false := by decide)
    (hst : starEach (e :: es) X.env = (false, eval e X.env) :: starEach es X.env := by rfl) (hpl : (backTo pos (starEach es X.env)).any (·.1) = false := by rfl)
    (ht : eval (.Call (.Attribute (.Name x p1) m apos) (e :: es) [] pos) X.env = (do
      let ov ← eval (.Name x p1) X.env
      standAt apos.atName
      let (f, first) ← holding [ov] (getMethod ov m pl)
      callWith pos f first (backTo pos (starEach (e :: es) X.env)) (backToKw pos (keywordEach [] X.env))) := by rfl) :
    DP X E (.Call (.Attribute (.Name x p1) m apos) (e :: es) [] pos) (dCMethF C n φ αa) := by
  obtain ⟨pp, c⟩ := c
  refine pe_mono (ClX.pe_cmeth (pe_glob (v := .ref C) hg hm rfl hd) r c (F.raw hb .nil) hr hx ha hst hpl ht) fun σ H Q h => ?_
  obtain ⟨ρ, s, k, xx, rfl, er, q, p, px⟩ := h
  refine ⟨rfl, ρ, s, _, xx, rfl, er, q, fun ds s1 q1 st1 ok1 vs r1 => ?_, px⟩
  show spD X.K (n + 1) φ ((V.ref C :: vs) ++ []) s1.H Q E
  rw [List.append_nil]
  exact ⟨s1, .cel C :: ds, k, xx, rfl, ok1, .cons .cel r1, by rw [List.length_cons, q1.1], q1.2, p.step st1, px.step st1⟩
/-- C.m(y=..), m a classmethod, keywords alone -/
theorem d_cmethK0 {pl : Sem Bool} {p1 : Pos} (r : ClX.CRead X.K C mc) (c : ∃ pp, ClX.CMet X.K C mc m pp f) (F : FnOk X.prog X.w X.K X.mg X.base CX k f fd ps (spD X.K nn φ)) (hb : KBd X.K fd ps 1 ks gD) (hgl : ∀ us ws : List D, us.length = 1 → ws.length = ks.length → (gD us ws).length = nn) (hr : Room k X.A) (hg : Gl X x) (hm : X.mg x = some (.ref C)) (hx : Passes CX X E) (hkw : DPK X E kws ακ)
    (hall : (backToKw pos (keywordEach kws X.env)).all (·.1.isSome) = true := by rfl) (hks : (backToKw pos (keywordEach kws X.env)).filterMap (·.1) = ks := by rfl) (hdb : (x == ("__debug__" : Str)) = false := by decide)
    (hpl : ((backTo pos (starEach [] X.env)).any (·.1) || (backToKw pos (keywordEach kws X.env)).any (·.1.isNone)) = false := by rfl)
    (ht : eval (.Call (.Attribute (.Name x p1) m apos) [] kws pos) X.env = (do
      let ov ← eval (.Name x p1) X.env
      standAt apos.atName
      let (f, first) ← holding [ov] (getMethod ov m pl)
      callWith pos f first (backTo pos (starEach [] X.env)) (backToKw pos (keywordEach kws X.env))) := by rfl) :
    DP X E (.Call (.Attribute (.Name x p1) m apos) [] kws pos) (fun ρ M k x => ακ ρ M (fun zs M1 => zs.length = ks.length ∧ φ (gD [.cel C] zs) M1 k x) x) := by
  refine ⟨fun pins s σ H Q I h => ?_⟩
  obtain ⟨ρ, s0, kk, xx, rfl, er, q, ppp, px⟩ := h
  obtain ⟨pp, c⟩ := c
  refine PySem.W.methodCall_KW (pl := pl) (ld_glob I hg hm ?_ hdb) ht
  refine ClX.getmethcm_ok I r c fun s2 I2 => ?_
  refine PySem.W.callWith_of (P := PySem.W.MethP X.K s.heap.objs.size f (.ref C)) hpl (PySem.W.keeps_M c.fi) (PyProof.Rows.evalArgs_kw2_nil hall ?_)
  refine thn (hkw.run pos _ s2 σ s0.H (fun zs H2 => ∃ s3 zd, s3.H = H2 ∧ Ok X.K s3 ∧ Step s0 s3 ∧ Reps X.K s3.G zs zd ∧ zd.length = ks.length ∧ φ (gD [.cel C] zd) s3.M kk xx) I2 ⟨ρ, s0, _, xx, rfl, er, q, fun zd s3 q3 st3 ok3 zs r3 => ⟨s3, zd, rfl, ok3, st3, r3, q3⟩, px⟩) fun ws s3 ⟨zs, H2, I3, rz, s4, zd, e4, ok4, st4, r4, l5, q4⟩ => ⟨⟨ClX.pin_at I3, I3.kIn⟩, ?_⟩
  subst e4
  rw [hks]
  obtain ⟨g, gV, hb, hrep⟩ := hb.ex
  have rr := hb.rel (vs := [.ref C]) (us := [.ref C]) (.cons rfl .nil) rz
  have e2 : ws.length = ks.length := rz.length.symm.trans (r4.length.trans l5)
  have hs : spD X.K nn φ (gV [.ref C] zs) s4.H Q E := ⟨s4, gD [.cel C] zd, kk, xx, rfl, ok4, hrep (.cons .cel .nil) r4 rfl l5, hgl _ _ rfl l5, q4, ppp.step st4, px.step st4⟩
  have z : wpAny (model X.prog X.w) X.A (call (.ref s.heap.objs.size) [] (ks.zip ws)) (EP X ((s.heap.objs.size, PySem.W.methodObj (.ref f) (.ref C)) :: pins) σ Q) X.xe s3 := by
    refine wpAny_call (PySem.W.method_call (ClX.pin_at I3) (codeAny_mono (F.run X.A X.stack s3 s4.H ⟨[.ref C], ks.zip ws⟩ (g [.ref C] ws) (gV [.ref C] zs) Q E hr I3.env0 (hb.to s3 [.ref C] ws I3.kIn rfl e2) rr hs) fun r s' hq => ?_))
    match r, hq with
    | .error e, hq => exact hx _ σ s4.H s3 e s' I3 hq
    | .ok (.ret u), hq => exact I3.after hq
    | .ok .next, hq => exact hq.elim
    | .ok .brk, hq => exact hq.elim
    | .ok .cont, hq => exact hq.elim
  exact thn z fun _ _ y => ClX.unpinE y
end
end DL
set_option Elab.async false
set_option linter.all false
set_option maxRecDepth 100000
set_option maxHeartbeats 2000000
namespace TX
open PySem PySem.NumText L2 TL
theorem ofNat_back : ∀ c : Nat, c ≤ 57 → (Char.ofNat c).toNat = c := by
  intro c h
  have : ∀ c : Fin 58, (Char.ofNat c.val).toNat = c.val := by decide
  exact this ⟨c, by omega⟩
/-- figures without a leading zero are a number's own -/
theorem numL_back {cs : List Nat} (hd : AllDigits cs) (hn : cs ≠ []) (h : cs.length = 1 ∨ ∃ c r, cs = c :: r ∧ 49 ≤ c) : numL (digitsVal cs) = cs := by
  unfold numL
  have hl : cs.length = (cs.length - 1) + 1 := by
    cases cs with
    | nil => exact absurd rfl hn
    | cons c r => simp
  rw [toDigits_digitsVal (cs.length - 1) cs hl hd (by rcases h with h | h; exact .inl (by omega); exact .inr h)]
  rw [List.map_map]
  have : ∀ c ∈ cs, (Char.toNat ∘ Char.ofNat) c = c := fun c hc => ofNat_back c (hd c hc).2
  rw [List.map_congr_left this, List.map_id']
theorem numL_head : ∀ n : Nat, (numL n).length = 1 ∨ ∃ c r, numL n = c :: r ∧ 49 ≤ c := by
  intro n
  induction n using Nat.strongRecOn with
  | _ n ih =>
    by_cases h : n < 10
    · left; rw [numL_lt h]; rfl
    · right
      rw [numL_step (by omega)]
      by_cases h2 : n / 10 < 10
      · rw [numL_lt h2]
        exact ⟨_, _, rfl, by omega⟩
      · rcases ih (n / 10) (by omega) with z | ⟨c, r, z, zc⟩
        · rw [numL_step (by omega), List.length_append] at z
          have := numL_ne (n / 10 / 10)
          have : 0 < (numL (n / 10 / 10)).length := List.length_pos_iff.mpr this
          simp at z
          exact absurd z (numL_ne _)
        · rw [z]
          exact ⟨c, _, rfl, zc⟩
/-- a text's signs are those of a natural number -/
def IsNum (l : List Nat) : Prop := ∃ n, l = numL n
theorem isNum_iff (l : List Nat) : IsNum l ↔ l ≠ [] ∧ AllDigits l ∧ (l.length = 1 ∨ ∃ c r, l = c :: r ∧ 49 ≤ c) := by
  constructor
  · rintro ⟨n, rfl⟩
    exact ⟨numL_ne n, numL_digits n, numL_head n⟩
  · rintro ⟨h1, h2, h3⟩
    exact ⟨_, (numL_back h2 h1 h3).symm⟩
/-- the signs of a number's text -/
def intL (i : Int) : List Nat := if 0 ≤ i then numL i.toNat else 45 :: numL (-i).toNat
theorem tl_int (i : Int) : tl (Str.ofString (toString i)) = intL i := by
  unfold intL
  by_cases h : 0 ≤ i
  · rw [if_pos h]
    obtain ⟨m, rfl⟩ := Int.eq_ofNat_of_zero_le h
    rw [tl_num]
    simp
  · rw [if_neg h]
    obtain ⟨m, rfl⟩ : ∃ m : Nat, i = Int.negSucc m := by
      cases i with
      | ofNat m => exact absurd (Int.natCast_nonneg m) h
      | negSucc m => exact ⟨m, rfl⟩
    rw [tl_ofString]
    have e : (toString (Int.negSucc m) : String) = "-" ++ Nat.repr (m + 1) := rfl
    rw [e]
    have e2 : (- Int.negSucc m).toNat = m + 1 := rfl
    rw [e2, String.toList_append, List.map_append]
    have e3 : (Nat.repr (m + 1)).toList.map Char.toNat = numL (m + 1) := by
      unfold numL
      rw [Nat.toList_repr]
    rw [e3]
    rfl
theorem int_free {i : Int} {s : Nat} (h : s < 45 ∨ 57 < s ∨ (45 < s ∧ s < 48)) : s ∉ intL i := by
  unfold intL
  split
  · exact numL_free (by omega)
  · intro hm
    rcases List.mem_cons.mp hm with z | z
    · omega
    · exact absurd z (numL_free (by omega))
/-- the signs of the text of a fraction -/
def txL (a b : Int) : List Nat := if b = 1 then intL a else intL a ++ 47 :: intL b
/-- the text of a fraction in lowest terms -/
def Can (l : List Nat) (a b : Int) : Prop := RT.Nf a b ∧ l = txL a b
theorem intL_pos {i : Int} (h : 0 ≤ i) : intL i = numL i.toNat := if_pos h
theorem intL_neg {i : Int} (h : i < 0) : intL i = 45 :: numL (-i).toNat := if_neg (by omega)
theorem num_no45 (n : Nat) : ∀ r, numL n ≠ 45 :: r := fun r e => by
  have := (numL_digits n) 45 (by rw [e]; exact List.mem_cons_self)
  omega
/-- all signs of a split, joined -/
theorem join_spl : ∀ (l acc : List Nat), joinL [47] (spl [47] 0 acc l) = acc ++ l
  | [], acc => by rw [spl_nil]; simp [joinL]
  | c :: r, acc => by
    by_cases h : c = 47
    · subst h
      have hp : pre [47] (47 :: r) = true := pre_self [47] r
      rw [spl_hit hp]
      have ih := join_spl r []
      show joinL [47] (acc :: spl [47] 0 [] r) = _
      cases e : spl [47] 0 [] r with
      | nil =>
        exfalso
        have : ∀ (l acc : List Nat), spl [47] 0 acc l ≠ [] := by
          intro l
          induction l with
          | nil => intro acc; rw [spl_nil]; simp
          | cons c r ih2 =>
            intro acc
            by_cases h : c = 47
            · subst h; rw [spl_hit (show pre [47] (47 :: r) = true from pre_self [47] r)]; simp
            · rw [spl_miss (pre_of_head [] r h)]; exact ih2 _
        exact this _ _ e
      | cons x y =>
        rw [e] at ih
        show acc ++ ([47] ++ joinL [47] (x :: y)) = _
        rw [ih]
        simp
    · rw [spl_miss (pre_of_head [] r h), join_spl r (acc ++ [c])]
      simp
theorem spl_ne : ∀ (l acc : List Nat), spl [47] 0 acc l ≠ [] := by
  intro l
  induction l with
  | nil => intro acc; rw [spl_nil]; simp
  | cons c r ih2 =>
    intro acc
    by_cases h : c = 47
    · subst h; rw [spl_hit (show pre [47] (47 :: r) = true from pre_self [47] r)]; simp
    · rw [spl_miss (pre_of_head [] r h)]; exact ih2 _
/-- the text of a fraction -/
def txS (a b : Int) : Str := if b = 1 then Str.ofString (toString a) else Str.ofString (toString a) ++ Str.ofString "/" ++ Str.ofString (toString b)
theorem tl_slash : tl (Str.ofString "/") = [47] := by decide +kernel
theorem tl_txS (a b : Int) : tl (txS a b) = txL a b := by
  unfold txS txL
  split
  · exact tl_int a
  · rw [tl_append, tl_append, tl_int, tl_int, tl_slash, List.append_assoc]
    rfl
theorem eq_txS {z : Str} {a b : Int} (h : tl z = txL a b) : z = txS a b := ext_tl (h.trans (tl_txS a b).symm)
theorem part_txS {a b : Int} : Txt.partition (txS a b) (Str.ofString "/") = if b = 1 then (Str.ofString (toString a), Str.empty, Str.empty) else (Str.ofString (toString a), Str.ofString "/", Str.ofString (toString b)) := by
  have h : 47 ∉ tl (Str.ofString (toString a)) := by rw [tl_int]; exact int_free (by decide)
  unfold txS
  split
  · exact partition_none tl_slash h
  · exact partition_app tl_slash h
theorem par_len {S : List Nat} : ∀ (l acc a b : List Nat), par S acc l = some (a, b) → a.length + b.length ≤ acc.length + l.length
  | [], acc, a, b, h => by simp [par] at h
  | c :: r, acc, a, b, h => by
    cases hp : pre S (c :: r) with
    | true =>
      rw [par_hit hp] at h
      cases h
      rw [List.length_drop]
      omega
    | false =>
      rw [par_miss hp] at h
      have := par_len r _ _ _ h
      rw [List.length_append] at this
      simp at this ⊢
      omega
theorem part_len (x y : Str) (hy : tl y ≠ []) : (Txt.partition x y).1.length ≤ x.length ∧ (Txt.partition x y).2.2.length ≤ x.length := by
  rw [partition_par x y hy]
  have hx := len_tl x
  cases h : par (tl y) [] (tl x) with
  | none => exact ⟨Nat.le_refl _, Nat.zero_le _⟩
  | some p =>
    obtain ⟨a, b⟩ := p
    have := par_len _ _ _ _ h
    rw [List.length_nil] at this
    refine ⟨?_, ?_⟩
    · show a.toArray.size ≤ _; rw [List.size_toArray]; omega
    · show b.toArray.size ≤ _; rw [List.size_toArray]; omega
/-- the number in some signs -/
theorem num_int {z : Str} {n : Nat} (h : tl z = numL n) (hl : z.length ≤ 4300) : PySem.intText? z = some (n : Int) := by
  have h1 := numL_digits n
  have h2 := numL_ne n
  rw [intText_digits (x := z) (by show AllDigits (tl z); rw [h]; exact h1) (by show tl z ≠ []; rw [h]; exact h2) hl]
  show some ((digitsVal (tl z) : Nat) : Int) = _
  rw [h, numL_val]
theorem fig_mem {c : Nat} : c ∈ (Str.ofString "0123456789").cps.toList ↔ 48 ≤ c ∧ c ≤ 57 := by
  have : (Str.ofString "0123456789").cps.toList = [48, 49, 50, 51, 52, 53, 54, 55, 56, 57] := by decide +kernel
  rw [this]
  simp only [List.mem_cons, List.not_mem_nil, or_false]
  omega
theorem num_lt : ∀ n : Nat, n < 10 ^ (numL n).length := by
  intro n
  induction n using Nat.strongRecOn with
  | _ n ih =>
    by_cases h : n < 10
    · rw [numL_lt h]
      simpa using h
    · rw [numL_step (by omega), List.length_append]
      have := ih (n / 10) (by omega)
      show n < 10 ^ ((numL (n / 10)).length + 1)
      rw [Nat.pow_succ]
      omega
theorem int_lt {i : Int} {L : Nat} (h : (intL i).length ≤ L) : i.natAbs < 10 ^ L := by
  unfold intL at h
  split at h
  · have := num_lt i.toNat
    have e : i.natAbs = i.toNat := by omega
    rw [e]
    exact Nat.lt_of_lt_of_le this (Nat.pow_le_pow_right (by decide) h)
  · have := num_lt (-i).toNat
    have e : i.natAbs = (-i).toNat := by omega
    rw [e]
    rw [List.length_cons] at h
    exact Nat.lt_of_lt_of_le this (Nat.pow_le_pow_right (by decide) (by omega))
theorem intL_inj {i j : Int} (h : intL i = intL j) : i = j := by
  unfold intL at h
  split at h
  · split at h
    · have := numL_inj h
      omega
    · exact absurd h (num_no45 _ _)
  · split at h
    · exact absurd h.symm (num_no45 _ _)
    · have := numL_inj (List.cons.inj h).2
      omega
theorem log_ten {n : Nat} (h : n < 10 ^ 2000) : n.log2 < 8000 := by
  by_cases z : n = 0
  · subst z; decide
  · refine (Nat.log2_lt z).mpr (Nat.lt_of_lt_of_le h ?_)
    have : (10 : Nat) ^ 2000 ≤ 2 ^ 8000 := by
      rw [show (8000 : Nat) = 4 * 2000 from rfl, Nat.pow_mul]
      exact Nat.pow_le_pow_left (by decide) _
    exact this
theorem ten_le {n : Nat} (h : n < 10 ^ 2000) : n < 10 ^ 4300 := Nat.lt_of_lt_of_le h (Nat.pow_le_pow_right (by decide) (by decide))
theorem tl_len (z : Str) : (tl z).length = z.length := (len_tl z).symm
end TX
set_option Elab.async false
set_option linter.all false
set_option maxRecDepth 100000
set_option maxHeartbeats 2000000
namespace TX
open PySem PySem.NumText L2 TL
/-- a text's signs, whether it begins with a minus, and the rest -/
def Link (z r : List Nat) (m : Bool) : Prop := (m = true ∧ z = 45 :: r) ∨ (m = false ∧ z = r ∧ ∀ r', z ≠ 45 :: r')
theorem num_no47 (n : Nat) : 47 ∉ numL n := numL_free (by omega)
theorem link_pos {z r : List Nat} {m : Bool} {n : Nat} {t : List Nat} (hl : Link z r m) (h : z = numL n ++ t) : m = false ∧ r = numL n ++ t := by
  rcases hl with ⟨e, e2⟩ | ⟨e, e2, _⟩
  · exfalso
    rw [h] at e2
    cases w : numL n with
    | nil => exact numL_ne n w
    | cons c s =>
      rw [w] at e2
      have : c = 45 := (List.cons.inj e2).1
      exact num_no45 n s (by rw [w, this])
  · exact ⟨e, e2 ▸ h⟩
theorem link_neg {z r t : List Nat} {m : Bool} (hl : Link z r m) (h : z = 45 :: t) : m = true ∧ r = t := by
  rcases hl with ⟨e, e2⟩ | ⟨e, e2, e3⟩
  · rw [h] at e2
    exact ⟨e, (List.cons.inj e2).2.symm⟩
  · exact absurd h (e3 _)
/-- the parts of the text of a fraction -/
theorem canon_parts {z r : List Nat} {m : Bool} {a b : Int} (nf : RT.Nf a b) (hz : z = txL a b) (hl : Link z r m) :
    m = decide (a < 0) ∧ ((b = 1 ∧ spl [47] 0 [] r = [numL a.natAbs]) ∨ (b ≠ 1 ∧ spl [47] 0 [] r = [numL a.natAbs, numL b.natAbs])) := by
  have hp := nf.pos
  have eb : intL b = numL b.natAbs := by rw [intL_pos (by omega)]; congr 1; omega
  have rest : m = decide (a < 0) ∧ r = if b = 1 then numL a.natAbs else numL a.natAbs ++ (47 :: numL b.natAbs) := by
    unfold txL at hz
    by_cases ha : a < 0
    · have e : (-a).toNat = a.natAbs := by omega
      rw [intL_neg ha, e, eb] at hz
      split at hz
      · rename_i h1
        obtain ⟨w1, w2⟩ := link_neg hl hz
        rw [decide_eq_true ha, if_pos h1]
        exact ⟨w1, w2⟩
      · rename_i h1
        obtain ⟨w1, w2⟩ := link_neg hl hz
        rw [decide_eq_true ha, if_neg h1]
        exact ⟨w1, w2⟩
    · have e : a.toNat = a.natAbs := by omega
      rw [intL_pos (by omega), e, eb] at hz
      split at hz
      · rename_i h1
        obtain ⟨w1, w2⟩ := link_pos (t := []) hl (by rw [List.append_nil]; exact hz)
        rw [decide_eq_false ha, if_pos h1]
        exact ⟨w1, by rw [w2, List.append_nil]⟩
      · rename_i h1
        obtain ⟨w1, w2⟩ := link_pos hl hz
        rw [decide_eq_false ha, if_neg h1]
        exact ⟨w1, w2⟩
  obtain ⟨h1, h2⟩ := rest
  refine ⟨h1, ?_⟩
  by_cases e : b = 1
  · rw [if_pos e] at h2
    refine .inl ⟨e, ?_⟩
    rw [h2, spl_last1 (num_no47 _)]
    rfl
  · rw [if_neg e] at h2
    refine .inr ⟨e, ?_⟩
    have := spl_part1 (s := 47) (S := []) (p := numL a.natAbs) (rest := numL b.natAbs) (acc := []) (num_no47 _)
    rw [spl_last1 (num_no47 _)] at this
    rw [h2]
    exact this
theorem canon_sign {z r t : List Nat} {m : Bool} {n : Nat} (hl : Link z r m) (hr : r = numL n ++ t) (h : ¬ (m = true ∧ n = 0)) : z = intL (if m = true then 0 - (n : Int) else n) ++ t := by
  rcases hl with ⟨e, e2⟩ | ⟨e, e2, _⟩
  · rw [if_pos e, intL_neg (by have : n ≠ 0 := fun w => h ⟨e, w⟩; omega), e2, hr]
    have : (-(0 - (n : Int))).toNat = n := by omega
    rw [this]
    rfl
  · rw [if_neg (by rw [e]; exact Bool.false_ne_true), intL_pos (by omega), e2, hr, Int.toNat_natCast]
theorem canon_one {z r : List Nat} {m : Bool} {n : Nat} (hl : Link z r m) (hr : r = numL n) (h : ¬ (m = true ∧ n = 0)) : z = txL (if m = true then 0 - (n : Int) else n) 1 := by
  have := canon_sign (t := []) hl (by rw [List.append_nil]; exact hr) h
  rw [List.append_nil] at this
  unfold txL
  rw [if_pos rfl]
  exact this
theorem canon_two {z r : List Nat} {m : Bool} {n k : Nat} (hl : Link z r m) (hr : r = numL n ++ 47 :: numL k) (h : ¬ (m = true ∧ n = 0)) (hk : (k : Int) ≠ 1) : z = txL (if m = true then 0 - (n : Int) else n) k := by
  unfold txL
  rw [if_neg hk, intL_pos (i := (k : Int)) (by omega), Int.toNat_natCast]
  exact canon_sign hl hr h
theorem nf_sign {n k : Nat} {m : Bool} (h : RT.Nf (n : Int) k) : RT.Nf (if m = true then 0 - (n : Int) else n) k := by
  cases m with
  | false => exact h
  | true =>
    refine ⟨h.pos, ?_⟩
    show Int.gcd (0 - (n : Int)) k = 1
    rw [Int.zero_sub, Int.neg_gcd]
    exact h.one
theorem nf_abs {a b : Int} (h : RT.Nf a b) : RT.Nf (a.natAbs : Int) (b.natAbs : Int) := by
  have hp := h.pos
  refine ⟨by omega, ?_⟩
  have := h.one
  unfold Int.gcd at *
  rw [Int.natAbs_natCast, Int.natAbs_natCast]
  exact this
theorem split_parts (r : Str) : (Txt.split r (Str.ofString "/")).map tl = spl [47] 0 [] (tl r) := by
  have := split_spl r (Str.ofString "/") (by rw [tl_slash]; exact fun w => by cases w) (kind_ok (by decide +kernel))
  rw [tl_slash] at this
  exact this
theorem split_join' (r : Str) : joinL [47] ((Txt.split r (Str.ofString "/")).map tl) = tl r := by
  rw [split_parts, join_spl]
  rfl
theorem split_len (r : Str) : ∀ p ∈ Txt.split r (Str.ofString "/"), p.length ≤ r.length := by
  intro p hp
  have key : ∀ (ps : List (List Nat)) (q : List Nat), q ∈ ps → q.length ≤ (joinL [47] ps).length := by
    intro ps
    induction ps with
    | nil => intro q hq; cases hq
    | cons x y ih =>
      intro q hq
      cases y with
      | nil =>
        rcases List.mem_cons.mp hq with e | e
        · rw [e]; exact Nat.le_refl _
        · cases e
      | cons u v =>
        have e0 : joinL [47] (x :: u :: v) = x ++ ([47] ++ joinL [47] (u :: v)) := rfl
        rw [e0, List.length_append, List.length_append]
        rcases List.mem_cons.mp hq with e | e
        · rw [e]; omega
        · have := ih q e
          omega
  have := key _ (tl p) (List.mem_map.mpr ⟨p, hp, rfl⟩)
  rw [split_join', tl_len, tl_len] at this
  exact this
end TX
set_option Elab.async false
set_option linter.all false
set_option maxRecDepth 100000
set_option maxHeartbeats 2000000
namespace TX
open PySem PySem.NumText L2 TL
theorem link_of (z : List Nat) : ∃ r m, Link z r m := by
  cases z with
  | nil => exact ⟨[], false, .inr ⟨rfl, rfl, fun r' h => by cases h⟩⟩
  | cons c r =>
    by_cases h : c = 45
    · subst h; exact ⟨r, true, .inl ⟨rfl, rfl⟩⟩
    · exact ⟨c :: r, false, .inr ⟨rfl, rfl, fun r' w => h (List.cons.inj w).1⟩⟩
/-- the text tells the fraction -/
theorem txL_inj {a b c d : Int} (h1 : RT.Nf a b) (h2 : RT.Nf c d) (h : txL a b = txL c d) : a = c ∧ b = d := by
  obtain ⟨r, m, hl⟩ := link_of (txL a b)
  have p1 := h1.pos
  have p2 := h2.pos
  obtain ⟨e1, w1⟩ := canon_parts h1 rfl hl
  obtain ⟨e2, w2⟩ := canon_parts h2 h hl
  have es : decide (a < 0) = decide (c < 0) := e1.symm.trans e2
  have sg : (a < 0) ↔ (c < 0) := decide_eq_decide.mp es
  rcases w1 with ⟨b1, w1⟩ | ⟨b1, w1⟩ <;> rcases w2 with ⟨d1, w2⟩ | ⟨d1, w2⟩
  · have := numL_inj (List.cons.inj (w1.symm.trans w2)).1
    omega
  · exact absurd (congrArg List.length (w1.symm.trans w2)) (by simp)
  · exact absurd (congrArg List.length (w1.symm.trans w2)) (by simp)
  · have w := w1.symm.trans w2
    injection w with x1 x2
    injection x2 with x2 _
    have y1 := numL_inj x1
    have y2 := numL_inj x2
    omega
theorem txS_inj {a b c d : Int} (h1 : RT.Nf a b) (h2 : RT.Nf c d) (h : txS a b = txS c d) : a = c ∧ b = d := txL_inj h1 h2 (by rw [← tl_txS, ← tl_txS, h])
theorem nines : ∀ k : Nat, numL (10 ^ (k + 1) - 1) = List.replicate (k + 1) 57
  | 0 => by decide +kernel
  | k + 1 => by
    have h1 : 10 ≤ 10 ^ (k + 1) := by
      rw [Nat.pow_succ]
      have : 0 < 10 ^ k := Nat.pow_pos (by decide)
      omega
    have h2 : 10 ^ (k + 1 + 1) = 10 * 10 ^ (k + 1) := by rw [Nat.pow_succ, Nat.mul_comm]
    rw [numL_step (by omega), show (10 ^ (k + 1 + 1) - 1) / 10 = 10 ^ (k + 1) - 1 by omega, show (10 ^ (k + 1 + 1) - 1) % 10 = 9 by omega, nines k]
    show List.replicate (k + 1) 57 ++ [57] = _
    rw [← List.replicate_succ']
theorem rep_list (x : Array Nat) : ∀ (n : Nat) (acc : Array Nat), ((List.replicate n x).foldl (· ++ ·) acc).toList = acc.toList ++ (List.replicate n x.toList).flatten
  | 0, acc => by simp
  | n + 1, acc => by
    rw [List.replicate_succ, List.foldl_cons, rep_list x n, Array.toList_append, List.replicate_succ, List.flatten_cons, List.append_assoc]
theorem tl_rep9 (n : Nat) : tl (DL.repS (Str.ofString "9") n) = List.replicate n 57 := by
  show ((List.replicate n (Str.ofString "9").cps).foldl (· ++ ·) #[]).toList = _
  rw [rep_list, show (Str.ofString "9").cps.toList = [57] by decide +kernel]
  show [] ++ (List.replicate n [57]).flatten = _
  rw [List.nil_append]
  induction n with
  | zero => rfl
  | succ n ih => rw [List.replicate_succ, List.flatten_cons, ih, List.replicate_succ]; rfl
/-- the far text -/
def far : Str := DL.repS (Str.ofString "9") 1998 ++ Str.ofString "/2"
def farN : Int := ((10 ^ (1997 + 1) - 1 : Nat) : Int)
theorem far_nf : RT.Nf farN 2 := by
  refine ⟨by decide, ?_⟩
  unfold farN Int.gcd
  rw [Int.natAbs_natCast, Nat.pow_succ]
  have : 0 < 10 ^ 1997 := Nat.pow_pos (by decide)
  generalize 10 ^ 1997 = q at *
  show Nat.gcd (q * 10 - 1) 2 = 1
  rw [Nat.gcd_comm, Nat.gcd_rec, show (q * 10 - 1) % 2 = 1 by omega]
  rfl
theorem tl_far : tl far = txL farN 2 := by
  unfold far txL
  rw [tl_append, tl_rep9, if_neg (by decide), intL_pos (by unfold farN; omega), intL_pos (by decide)]
  unfold farN
  rw [Int.toNat_natCast, nines 1997]
  have : tl (Str.ofString "/2") = 47 :: numL (2 : Int).toNat := by decide +kernel
  rw [this]
theorem far_txS : far = txS farN 2 := eq_txS tl_far
theorem far_len : far.length = 2000 := by
  rw [← tl_len, far, tl_append, tl_rep9, List.length_append, List.length_replicate]
  have : (tl (Str.ofString "/2")).length = 2 := by decide +kernel
  omega
theorem txS_short {a b : Int} (ha : a.natAbs < 10 ^ 41) (hb : b.natAbs < 10 ^ 41) : (txS a b).length ≤ 90 := by
  have h1 := PySem.int_text_length_le10 (a := a) (k := 41) (by decide) ha
  have h2 := PySem.int_text_length_le10 (a := b) (k := 41) (by decide) hb
  have h3 : (Str.ofString "/").length = 1 := by decide +kernel
  rw [← PySem.ofString_length] at h1 h2
  clear ha hb
  unfold txS
  split
  · omega
  · rw [Str.length_append, Str.length_append]; omega
theorem empty_no {a b : Int} : Str.ofString "" ≠ txS a b := fun w => by
  have h := congrArg tl w
  rw [tl_txS] at h
  have e : tl (Str.ofString "") = [] := by decide +kernel
  rw [e] at h
  unfold txL intL at h
  have n0 : ∀ n, numL n ≠ [] := numL_ne
  split at h <;> split at h <;> first | exact n0 _ h.symm | (cases h; done) | exact absurd (congrArg List.length h) (by simp)
end TX
set_option Elab.async false
set_option linter.all false
set_option maxRecDepth 100000
set_option maxHeartbeats 2000000
namespace DL
open PySem PySem.Spec PyProof.Rows L2
/-- what the clause 'except x as n' wishes of an exception of the body; it takes it -/
def wT1 (K : PySem.W.Frag) (c : Value) (i nn : Nat) (ts : Addr → Value → Option Addr → TS) (D : Ends) : WX := fun cls d σ H =>
  PySem.W.exmOne K cls c = some true ∧ (σ.length = nn → ∀ a, H a = none → ts a cls d { nx := fun σ' H' => D.nx (σ'.set i none) H', rt := D.rt, bk := fun σ' H' => D.bk (σ'.set i none) H', ct := fun σ' H' => D.ct (σ'.set i none) H' } (σ.set i (some (.ref a))) H)
section
variable {X : Cx} {x1 n : Str} {c1 : Value} {i : Nat} {body suite : List Stmt} {b₀ : Stmt} {q1 pos pos' : Pos} {tb : WX → TS} {ts : Addr → Value → Option Addr → TS}
theorem ps_try1 (hs : X.stack = X.env :: X.outer) (hf : X.env.frame = some X.env.locals) (hN : X.N.Nodup) (hi : X.N[i]? = some n) (hln : X.env.kindOf n = some .local) (g1 : Gl X x1) (m1 : X.mg x1 = some c1)
    (hb : ∀ (W : WX) (pn : List (Addr × Obj)) (xe : Value → Shared → Prop), Takes (X.tr pn xe) W → PSs (X.tr pn xe) body (tb W))
    (hsu : ∀ (a : Addr) (oe : Obj) (cls : Value) (d : Option Addr) (pn : List (Addr × Obj)), Zc cls d oe → (∃ vs, oe.data = .fields vs) → PSs (X.suite a ((a, oe) :: pn)) (b₀ :: suite) (ts a cls d))
    (d1 : (x1 == ("__debug__" : Str)) = false := by decide) :
    PS X (.Try body [.ExceptHandler (some (.Name x1 q1)) (some n) (b₀ :: suite) pos'] [] [] pos) (fun D σ H => tb (wT1 X.K c1 i X.N.length ts D) D σ H) := by
  refine ⟨fun pins s σ H D I h => ?_⟩
  have okX := I.ok
  have frames : X.A.frames = some (X.env :: X.outer) := by rw [okX.frames, hs]
  let caught : Value → Shared → Prop := fun e s₁ => wpAny (model X.prog X.w) X.A (noteFrame e X.env) (fun _ s₂ => wpAny (model X.prog X.w) X.A (setFlight e none) (fun _ s₃ =>
    wpAny (model X.prog X.w) X.A (handleBy e X.env [.ExceptHandler (some (.Name x1 q1)) (some n) (b₀ :: suite) pos']) (SP X pins D) X.xe s₃) X.xe s₂) X.xe s₁
  have tk : Takes (X.tr (X.pn ++ pins) caught) (wT1 X.K c1 i X.N.length ts D) := by
    intro u s' xx
    obtain ⟨a, B, sI, pins', σ1, H1, cls, d, rfl, J', nb, up, sky, na, os, ag, hm, hw⟩ := xx
    have J : Inv X pins σ1 H1 sI := J'.ofTry okX
    have hw := hw J.len
    have sky' : Sky B (X.env :: X.outer) a (Zc cls d) X.env.locals s'.heap := by rw [← hs]; exact sky
    show wpAny (model X.prog X.w) X.A (noteFrame (.ref a) X.env) _ _ _
    refine Sky.land Zc.steady frames hf sky' fun h3 fl up3 => ?_
    have outside : ∀ {h : Heap} {o : Obj} {vs : Array Value}, h.FunFrames B (X.env :: X.outer) → h.get? a = some o → o.data = .fields vs → a ∉ frs (X.env :: X.outer) := by
      intro h o vs ff e dd hm
      obtain ⟨_, o2, e2, nf⟩ := ff.mem hm
      rw [e] at e2
      cases e2
      exact nf _ dd
    obtain ⟨oe, vs, he, hz, hd⟩ := fl.there
    have out := outside fl.2.2.1 he hd
    have noL : a ≠ X.env.locals := fun z => out (List.mem_filterMap.mpr ⟨X.env, List.mem_cons_self, by rw [hf, z]⟩)
    have noF : a ∉ X.fs := by
      intro hm
      obtain ⟨e2, he2, q⟩ := List.mem_filterMap.mp hm
      exact out (List.mem_filterMap.mpr ⟨e2, List.mem_cons_of_mem _ he2, q⟩)
    have J3 : Inv X pins σ1 H1 { s' with heap := h3 } := J.landed nb fl.1 (up.trans up3) os ag
    have S3 := J3.suite he hd na noL noF
    refine wpAny_handleBy_cons (codeAny_handlers_test ?_) (by intro q; cases q)
    have ty : PySem.W.Looks (model X.prog X.w) h3 (typeOf (.ref a)) cls := fun A Q E s k q => wpAny_typeOf_ref (k _ _ he) (by rw [hz.1]; exact q)
    refine ld_glob (X := X.suite a ((a, oe) :: (X.pn ++ pins))) S3 g1 m1 ?_ d1
    refine (PySem.W.exm_one (M := model X.prog X.w) J3.kIn ty hm).here ?_
    refine codeAny_handlers_suite_as ?_
    refine HandSPX.lands_againZ fl fun h4 fl4 up4 => ?_
    have J4 : Inv X pins σ1 H1 { s' with heap := h4 } := J.landed nb fl4.1 ((up.trans up3).trans up4) os ag
    obtain ⟨oe4, vs4, he4, hz4, hd4⟩ := fl4.there
    have S4 := J4.suite he4 hd4 na noL noF
    refine store_ok (X := X.suite a ((a, oe4) :: (X.pn ++ pins))) (v := .ref a) S4 hN hi (.inl hln) rfl (fun s5 S5 => ?_) (.inr hln)
    refine wpAny_mono ((hsu a oe4 cls d (X.pn ++ pins) hz4 ⟨_, hd4⟩).run [] s5 _ H1 _ S5 (hw a na)) (fun fl s6 hsp => ?_) (fun _ _ z => False.elim z)
    have gone : ∀ {σ6 : L2.St} {H6 : Hp} {Q : Shared → Prop}, Inv (X.suite a ((a, oe4) :: (X.pn ++ pins))) [] σ6 H6 s6 → (∀ s7, Inv X pins (σ6.set i none) H6 s7 → Q s7) →
        wpAny (model X.prog X.w) X.A (do bindName X.env n .none; unbindBehindTheSuite X.env n pos') (fun _ s7 => Q s7) X.xe s6 := fun S6 hq => gone_ok (S6.unsuite okX) hN hi hln hq
    match fl, hsp with
    | .next, ⟨_, _, S6, q6⟩ => exact gone S6 fun s7 J7 => ⟨_, _, J7, q6⟩
    | .brk, ⟨_, _, S6, q6⟩ => exact gone S6 fun s7 J7 => ⟨_, _, J7, q6⟩
    | .cont, ⟨_, _, S6, q6⟩ => exact gone S6 fun s7 J7 => ⟨_, _, J7, q6⟩
    | .ret u, ⟨_, _, _, S6, r6, q6⟩ => exact gone S6 fun s7 J7 => ⟨_, _, _, J7, r6, q6⟩
  refine wpAny_Try_except (wpAny_mono ((hb _ (X.pn ++ pins) caught tk).run [] s σ H D (I.toTry _) h) (fun fl s1 hsp => ?_) fun e s1 he => he)
  match fl, hsp with
  | .next, ⟨σ', H', J', q⟩ => exact wpAny_execs_nil ⟨σ', H', J'.ofTry okX, q⟩
  | .brk, ⟨σ', H', J', q⟩ => exact ⟨σ', H', J'.ofTry okX, q⟩
  | .cont, ⟨σ', H', J', q⟩ => exact ⟨σ', H', J'.ofTry okX, q⟩
  | .ret u, ⟨v, σ', H', J', r, q⟩ => exact ⟨v, σ', H', J'.ofTry okX, r, q⟩
end
/-- what is known of the class that the clause takes -/
structure GoodL (K : PySem.W.Frag) (c : Value) (C : Addr) : Prop where
  xf : XfC K C
  ex : PySem.W.exmOne K (.ref C) c = some true
  no : PySem.W.findIn K (.ref C) "line" = some none
/-- what _law_line_try makes of an error -/
def noKL (Good : Addr → Prop) (k : DK) : DX := fun C fs M1 => Good C ∧ ∃ v, List.lookup ("line" : Str) fs = some v ∧ k (.tup [.str "no", v]) M1
/-- _law_line_try(lambda: e) -/
def dTryL (P : Addr) (q : Str) (Good : Addr → Prop) (τ : DE) : DE := fun ρ M k _ => M P = some (.tbl q) ∧ τ ρ M (fun d M1 => k (.tup [.str "told", d]) M1) (noKL Good k)
def τSuiteL (a dd : Addr) : DS := dRet (dTup (dCons (dC (.str "no")) (dCons (dXf a dd "line" (dVar 1)) dNil)))
theorem suite_L {X : Cx} {a C dd : Addr} {oe : Obj} {c : Value} {j1 kk : Nat} {p1 p2 p3 p4 p5 : Pos} (hN : X.N[1]? = some ("e" : Str)) (hv : Vis X.env.scope "e") (hp : (a, oe) ∈ X.pn) (G : GoodL X.K c C) (hz : Zc (.ref C) (some dd) oe) (hf : ∃ vs, oe.data = .fields vs)
    (hat : attributeBase (.Name "e" p3) "line" X.env (eval (.Name "e" p3) X.env) = eval (.Name "e" p3) X.env)
    (hs1 : starEach [.Constant (.str "no") j1 p2, .Attribute (.Name "e" p3) "line" p4] X.env = (false, eval (.Constant (.str "no") j1 p2) X.env) :: starEach [.Attribute (.Name "e" p3) "line" p4] X.env)
    (hs2 : starEach [.Attribute (.Name "e" p3) "line" p4] X.env = (false, eval (.Attribute (.Name "e" p3) "line" p4) X.env) :: starEach [] X.env) :
    DPB X (fun _ _ _ => False) [.Return (some (.Tuple [.Constant (.str "no") j1 p2, .Attribute (.Name "e" p3) "line" p4] kk p5)) p1] (τSuiteL a dd) := by
  have v : ∀ {q : Pos}, DP X (fun _ _ _ => False) (.Name "e" q) (dVar 1) := fun {q} => dv 1 hN hv
  exact b_one (s_ret (d_tup (a_cons d_str (a_cons (d_xf G.xf G.no hp hz hf v hat) a_nil hs2) hs1)))
/-- the body of _law_line_try -/
abbrev lineBody (j1 j2 k1 k3 : Nat) (p1 p2 p3 p4 p5 p6 q1 q2 q3 q4 q5 r1 r2 : Pos) : List Stmt :=
  [.Try [.Return (some (.Tuple [.Constant (.str "told") j1 p1, .Call (.Name "_law_ask" p2) [] [] p3] k1 p4)) p5]
    [.ExceptHandler (some (.Name "InvalidText" p6)) (some "e")
      [.Return (some (.Tuple [.Constant (.str "no") j2 q2, .Attribute (.Name "e" q3) "line" q4] k3 q5)) q1] r1] [] [] r2]
/-- what a law's _law_line_try must have -/
structure LineF (P : Program) (w : World) (K : PySem.W.Frag) (mg : Str → Option Value) (base : Heap) (c1 : Value) (g : Addr) : Prop where
  m : mg "_law_line_try" = some (.ref g)
  k : PySem.W.keepIn K (.ref g) = true
  f : ∃ (pg : Arguments) (sg : Scope) (dV kV doc pm cdv ct oc : Value) (an od : Option Addr) (osl : Array (Option Value)) (j1 j2 k1 k3 : Nat) (p1 p2 p3 p4 p5 p6 q1 q2 q3 q4 q5 r1 r2 : Pos),
    K.lookup g = some ⟨oc, od, .func (PySem.W.fnOf "_law_line_try" "_law_line_try" pg (lineBody j1 j2 k1 k3 p1 p2 p3 p4 p5 p6 q1 q2 q3 q4 q5 r1 r2) sg dV kV doc pm an cdv ct), osl⟩ ∧ PySem.W.codeIn K cdv "_law_line_try" = true ∧
      Binds K (PySem.W.fnOf "_law_line_try" "_law_line_try" pg (lineBody j1 j2 k1 k3 p1 p2 p3 p4 p5 p6 q1 q2 q3 q4 q5 r1 r2) sg dV kV doc pm an cdv ct) ["_law_ask"] [] ∧ FnScope ["_law_ask", "e"] ["_law_ask"] sg ∧
      (sg.names.lookup ("_law_ask" : Str) = some .local ∧ sg.names.lookup ("e" : Str) = some .local ∧ sg.names.lookup ("InvalidText" : Str) = some .globalImplicit)
  cls : mg "InvalidText" = some c1
section
variable {X : Cx} {E : XK} {c1 : Value} {g c P : Addr} {k : Nat} {params : Arguments} {body : Expr} {scope : Scope} {τ : DE} {p lpos pos : Pos}
theorem d_trylamL (TF : LineF X.prog X.w X.K X.mg X.base c1 g) (hg : Gl X "_law_line_try") (TB : LamX.TabB X.base X.mg c P) (hcode : X.env.code = .ref c) (hr : Room (k + 2) X.A) (L : LamX.LamS X.env.scope scope) (hdef : defaultsOf params X.env = ([], []))
    (hbind : ∀ (q : Str) (cl : List (Str × Addr)) (pm cv ctv : Value), bindArgs (PySem.W.kla_fn "<lambda>" q params body scope cl pm cv ctv) ⟨[], []⟩ = pure [])
    (hbody : ∀ (A : Around) (outer : List Env) (s : Shared) (H : Hp) (E : XK) (f c' : Addr), Room k (A.deeper (LamX.lamEnv X scope s.heap.objs.size f c')) → Passes (L2.CX X.prog X.w) (LamX.lamCx X A outer s H E scope f c') E → DP (LamX.lamCx X A outer s H E scope f c') E body τ) :
    DP X E (.Call (.Name "_law_line_try" p) [.Lambda params body scope lpos] [] pos) (dTryL P (X.env.qual ++ "<lambda>") (GoodL X.K c1) τ) := by
  refine ⟨fun pins s σ H Q I h => ?_⟩
  obtain ⟨ρ, s0, kk, xx, rfl, er, ⟨hM, q⟩, pp, px⟩ := h
  obtain ⟨ps, eP, ht, ha⟩ := er.ok.cells P _ hM
  obtain ⟨pg, sg, dV, kV, doc, pm, cdv, ct, oc, an, od, osl, j1, j2, k1, k3, p1, p2, p3, p4, p5, p6, q1, q2, q3, q4, q5, r1, r2, lk, hcg, hb, Sg, n1, n2, n3⟩ := TF.f
  have m1 := TF.cls
  refine wpAny_Call_Name_kw (ld_glob I hg TF.m ?_ (by decide))
  refine PySem.W.callWith_K (h₀ := X.base) I.ok.mod.kin TF.k ?_ (by rfl) (by rfl)
  show wpAny _ _ (spliced ((false, eval (.Lambda params body scope lpos) X.env) :: backTo pos (starEach [] X.env))) _ _ s
  refine Calls.spliced_cons (lam_made I TB hcode eP ht (fun p cv z => let ⟨c, e1, e2⟩ := ha p cv z; ⟨c, e1, er.ok.sub _ _ e2⟩) hdef (L.has I.ok) fun f c' pm' ctv H1 s' I1 hH hf hfn hfr _ => ?_)
  refine Calls.spliced_nil ⟨I1.kIn, ?_⟩
  obtain ⟨s1, rfl, st1, ok1, eM, hc1⟩ := lam_data (X := X) er.ok hM eP ha hH
  have er1 := er.step st1 ok1
  have rc : codeAny (model X.prog X.w) X.A (.call (.ref g) ⟨[.ref f], []⟩) (CR (L2.CX X.prog X.w) X.stack X.prog X.w s1.H s' Q (fun _ _ _ => False)) s' := by
    refine LamX.run_ofS (N := ["_law_ask", "e"]) (ps := ["_law_ask"]) (us := [.ref f]) (vs := [.ref f]) (k := k + 1) lk hcg Sg hr I1.env0 (hb s' [.ref f] I1.kIn rfl) (.cons rfl .nil) rfl fun hr' => ?_
    -- what an exception of the lambda must bring
    let Ech : XK := fun cls d H' => ∃ C dd, cls = .ref C ∧ d = some dd ∧ GoodL X.K c1 C ∧ ∀ (σ' : L2.St), σ'.length = 2 → ∀ a, H' a = none → upS X.K (fun _ _ _ => False) (τSuiteL a dd) { nx := fun _ H' => Q .non H', rt := Q } (σ'.set 1 (some (.ref a))) H'
    let ts : Addr → Value → Option Addr → TS := fun a cls d D σ' H' => ∃ C dd, cls = .ref C ∧ d = some dd ∧ GoodL X.K c1 C ∧ upS X.K (fun _ _ _ => False) (τSuiteL a dd) D σ' H'
    have hsu : ∀ (a : Addr) (oe : Obj) (cls : Value) (d : Option Addr) (pn : List (Addr × Obj)), Zc cls d oe → (∃ vs, oe.data = .fields vs) →
        PSs ((cxOf (L2.CX X.prog X.w) X.prog X.w X.K X.mg X.base ["_law_ask", "e"] "_law_line_try" sg g cdv X.A X.stack s' s1.H (fun _ _ _ => False)).suite a ((a, oe) :: pn))
          [.Return (some (.Tuple [.Constant (.str "no") j2 q2, .Attribute (.Name "e" q3) "line" q4] k3 q5)) q1] (ts a cls d) := by
      intro a oe cls d pn hz hfl
      refine ⟨fun pins2 s2 σ2 H2 D2 I2 h2 => ?_⟩
      obtain ⟨C, dd, rfl, rfl, hG, hu⟩ := h2
      exact (suite_L (X := (cxOf (L2.CX X.prog X.w) X.prog X.w X.K X.mg X.base ["_law_ask", "e"] "_law_line_try" sg g cdv X.A X.stack s' s1.H (fun _ _ _ => False)).suite a ((a, oe) :: pn)) rfl (.inl n2) List.mem_cons_self hG hz hfl rfl rfl rfl).run pins2 s2 σ2 H2 D2 I2 hu
    refine ⟨_, pss_one (ps_try1 (X := cxOf (L2.CX X.prog X.w) X.prog X.w X.K X.mg X.base ["_law_ask", "e"] "_law_line_try" sg g cdv X.A X.stack s' s1.H (fun _ _ _ => False)) (i := 1) (n := "e")
      (tb := fun W D σ' H' => (∀ cls d σ'' H'', Ech cls d H'' → W cls d σ'' H'') ∧ σ'[0]? = some (some (.ref f)) ∧ H' c' = some (LamX.CodeO c' (X.env.qual ++ "<lambda>")) ∧ up X.K Ech τ σ H' fun v H'' => ∀ p, H'' p = none → D.rt (.ref p) (upd H'' p (.tup [.str "told", v]))) (ts := ts)
      rfl rfl Sg.nd rfl n2 n3 m1 (fun W pn xe tk => ?_) hsu), ?_⟩
    · refine ⟨fun pins2 s2 σ2 H2 D2 I2 h2 => ?_⟩
      obtain ⟨hW, e1, e2, e3⟩ := h2
      have act := LamX.pe_act (CXg := L2.CX X.prog X.w) (Eg := fun _ _ _ => False) (Ng := ["_law_ask", "e"]) (qg := "_law_line_try") (sg := sg) (g := g) (cdg := cdv) (k := k) (i := 0) (a := "_law_ask") (pn := pn) (xe := xe) (W := W) (E := Ech) (tb := up X.K Ech τ) (p1 := p2) (p2 := p3)
        I1 L hf hfn hfr (hbind _ _ _ _ _) tk hW hr' (fun A outer s H hr2 => hbody A outer s H Ech f c' hr2 (pass_own rfl rfl rfl rfl)) rfl (.inl n1)
      refine (pss_one (ps_ret (pos := p5) (pe_tup (x1 := k1) (pos := p4) (pa_cons (pe_str (x := "told") (j := j1) (pos := p1)) (pa_cons act pa_nil rfl) rfl)))).run pins2 s2 σ2 H2 D2 I2 ?_
      refine ⟨e1, e2, ?_⟩
      obtain ⟨ρ', t0, kk', xx', e4, er', q', pp', px'⟩ := e3
      exact ⟨ρ', t0, kk', xx', e4, er', q', fun d t hk st ok v r => ⟨by show 2 ≤ sizeLine; decide, fun p hp => pp' d t hk st ok v r p hp⟩, px'⟩
    · refine ⟨fun cls d σ'' H'' hE => ?_, rfl, ok1.sub _ _ hc1, ?_⟩
      · obtain ⟨C, dd, rfl, rfl, hG, hs⟩ := hE
        exact ⟨hG.ex, fun hl a hn => ⟨C, dd, rfl, rfl, hG, hs σ'' hl a hn⟩⟩
      · rw [← eM] at q
        refine ⟨ρ, s1, _, _, rfl, er1, q, fun d t hk st ok v r p hp => ?_, fun C fs t hx st ok dx fvs e1 e2 e3 e4 r => ?_⟩
        · refine (pp.step (st1.trans st)).tup hk ok ?_ hp
          exact .cons .str (.cons r .nil)
        · obtain ⟨hG, lv, l1, hk⟩ := hx
          refine ⟨C, dx, rfl, rfl, hG, fun σ' hl a hn => ?_⟩
          have new : ¬ s0.hidden dx := fun ⟨o, z1, z2, z3⟩ => e4 ⟨o, st1.hid dx o z1 z2 z3⟩
          obtain ⟨oku, stu, sau⟩ := ok.shown2 (st1.trans st) new e2 e3 e1
          obtain ⟨v0, v1, rfl⟩ : ∃ v0 v1, σ' = [v0, v1] := by
            match σ', hl with
            | [v0, v1], _ => exact ⟨v0, v1, rfl⟩
          refine ⟨[none, some (.exc a dx fs)], ⟨t.H, upd t.G dx (.xd fvs), t.M⟩, { nx := fun _ _ => False, rt := kk, m0 := t.M }, fun _ _ _ => False, rfl, ⟨oku, rfl, fun i d hd => ?_⟩, ?_, ⟨fun _ _ z => z.elim, ⟨_, Step.refl _, oku, rfl, pp.step stu⟩, fun _ _ z => z.elim, fun _ _ z => z.elim⟩, PostX.never⟩
          · match i, hd with
            | 1, hd =>
              cases hd
              exact ⟨.ref a, rfl, .exc upd_same (r.same sau)⟩
          · exact ⟨_, rfl, fs, lv, rfl, l1, by show 2 ≤ sizeLine; decide, hk⟩
  refine wpAny_call (codeAny_mono rc fun r s2 hq => ?_)
  match r, hq with
  | .error e, hq =>
    obtain ⟨_, _, _, _, _, _, _, _, _, _, _, _, z⟩ := hq
    exact z.elim
  | .ok (.ret u), hq => exact I1.after hq
  | .ok .next, hq => exact hq.elim
  | .ok .brk, hq => exact hq.elim
  | .ok .cont, hq => exact hq.elim
end
section
variable {X : Cx} {c1 : Value} {g f c' : Addr} {t0 : Option Addr} {k : Nat} {params : Arguments} {body : Expr} {scope : Scope} {τ : DE} {pins : List (Addr × Obj)} {σ : L2.St} {s : Shared} {s1 : Sta} {ρ : DEnv} {kk : DK} {Q : VK}
/-- _law_try(f), f a tracked lambda of X, called where X holds -/
theorem run_tryTL (TF : LineF X.prog X.w X.K X.mg X.base c1 g) (I1 : Inv X pins σ s1.H s) (er1 : ER X.K s1 σ ρ) (hlam : s1.G f = some (.ext (lamP X params body scope f c' t0))) (hT : ∀ b, t0 = some b → s1.G b = some (.tup [.int 0])) (hc1 : s1.G c' = some (LamX.CodeO c' (X.env.qual ++ "<lambda>"))) (hr : Room (k + 2) X.A) (L : LamN X.N X.env.scope scope) (hbind : LamB t0.isSome params body scope)
    (hbody : ∀ (A : Around) (outer : List Env) (s : Shared) (H : Hp) (E : XK) (f c' : Addr), Room k (A.deeper (LamX.lamEnv X scope s.heap.objs.size f c')) → Passes (L2.CX X.prog X.w) (LamX.lamCx X A outer s H E scope f c') E → DP (LamX.lamCx X A outer s H E scope f c') E body τ)
    (q : τ ρ s1.M (fun d M1 => kk (.tup [.str "told", d]) M1) (noKL (GoodL X.K c1) kk)) (pp : Post X.K s1 kk Q) :
    codeAny (model X.prog X.w) X.A (.call (.ref g) ⟨[.ref f], []⟩) (CR (L2.CX X.prog X.w) X.stack X.prog X.w s1.H s Q (fun _ _ _ => False)) s := by
  obtain ⟨pg, sg, dV, kV, doc, pm, cdv, ct, oc, an, od, osl, j1, j2, k1, k3, p1, p2, p3, p4, p5, p6, q1, q2, q3, q4, q5, r1, r2, lk, hcg, hb, Sg, n1, n2, n3⟩ := TF.f
  have m1 := TF.cls
  have ok1 := er1.ok
  refine LamX.run_ofS (N := ["_law_ask", "e"]) (ps := ["_law_ask"]) (us := [.ref f]) (vs := [.ref f]) (k := k + 1) lk hcg Sg hr I1.env0 (hb s [.ref f] I1.kIn rfl) (.cons rfl .nil) rfl fun hr' => ?_
  let Ech : XK := fun cls d H' => ∃ C dd, cls = .ref C ∧ d = some dd ∧ GoodL X.K c1 C ∧ ∀ (σ' : L2.St), σ'.length = 2 → ∀ a, H' a = none → upS X.K (fun _ _ _ => False) (τSuiteL a dd) { nx := fun _ H' => Q .non H', rt := Q } (σ'.set 1 (some (.ref a))) H'
  let ts : Addr → Value → Option Addr → TS := fun a cls d D σ' H' => ∃ C dd, cls = .ref C ∧ d = some dd ∧ GoodL X.K c1 C ∧ upS X.K (fun _ _ _ => False) (τSuiteL a dd) D σ' H'
  have hsu : ∀ (a : Addr) (oe : Obj) (cls : Value) (d : Option Addr) (pn : List (Addr × Obj)), Zc cls d oe → (∃ vs, oe.data = .fields vs) →
      PSs ((cxOf (L2.CX X.prog X.w) X.prog X.w X.K X.mg X.base ["_law_ask", "e"] "_law_line_try" sg g cdv X.A X.stack s s1.H (fun _ _ _ => False)).suite a ((a, oe) :: pn))
        [.Return (some (.Tuple [.Constant (.str "no") j2 q2, .Attribute (.Name "e" q3) "line" q4] k3 q5)) q1] (ts a cls d) := by
    intro a oe cls d pn hz hfl
    refine ⟨fun pins2 s2 σ2 H2 D2 I2 h2 => ?_⟩
    obtain ⟨C, dd, rfl, rfl, hG, hu⟩ := h2
    exact (suite_L (X := (cxOf (L2.CX X.prog X.w) X.prog X.w X.K X.mg X.base ["_law_ask", "e"] "_law_line_try" sg g cdv X.A X.stack s s1.H (fun _ _ _ => False)).suite a ((a, oe) :: pn)) rfl (.inl n2) List.mem_cons_self hG hz hfl rfl rfl rfl).run pins2 s2 σ2 H2 D2 I2 hu
  refine ⟨_, pss_one (ps_try1 (X := cxOf (L2.CX X.prog X.w) X.prog X.w X.K X.mg X.base ["_law_ask", "e"] "_law_line_try" sg g cdv X.A X.stack s s1.H (fun _ _ _ => False)) (i := 1) (n := "e")
    (tb := fun W D σ' H' => (∀ cls d σ'' H'', Ech cls d H'' → W cls d σ'' H'') ∧ σ'[0]? = some (some (.ref f)) ∧ H' f = some (.ext (lamP X params body scope f c' t0)) ∧ (∀ b, t0 = some b → H' b = some (.tup [.int 0])) ∧ H' c' = some (LamX.CodeO c' (X.env.qual ++ "<lambda>")) ∧ up X.K Ech τ σ H' fun v H'' => ∀ p, H'' p = none → D.rt (.ref p) (upd H'' p (.tup [.str "told", v]))) (ts := ts)
    rfl rfl Sg.nd rfl n2 n3 m1 (fun W pn xe tk => ?_) hsu), ?_⟩
  · refine ⟨fun pins2 s2 σ2 H2 D2 I2 h2 => ?_⟩
    obtain ⟨hW, e1, e0, eT, e2, e3⟩ := h2
    have act := pe_actT (CXg := L2.CX X.prog X.w) (Eg := fun _ _ _ => False) (Ng := ["_law_ask", "e"]) (qg := "_law_line_try") (sg := sg) (g := g) (cdg := cdv) (k := k) (i := 0) (a := "_law_ask") (pn := pn) (xe := xe) (W := W) (E := Ech) (tb := up X.K Ech τ) (f := f) (c' := c') (t := t0) (p1 := p2) (p2 := p3)
      I1 L hbind tk hW hr' (fun A outer s H hr2 => hbody A outer s H Ech f c' hr2 (pass_own rfl rfl rfl rfl)) rfl (.inl n1)
    refine (pss_one (ps_ret (pos := p5) (pe_tup (x1 := k1) (pos := p4) (pa_cons (pe_str (x := "told") (j := j1) (pos := p1)) (pa_cons act pa_nil rfl) rfl)))).run pins2 s2 σ2 H2 D2 I2 ?_
    refine ⟨e1, e0, eT, e2, ?_⟩
    obtain ⟨ρ', t0, kk', xx', e4, er', q', pp', px'⟩ := e3
    exact ⟨ρ', t0, kk', xx', e4, er', q', fun d t hk st ok v r => ⟨by show 2 ≤ sizeLine; decide, fun p hp => pp' d t hk st ok v r p hp⟩, px'⟩
  · refine ⟨fun cls d σ'' H'' hE => ?_, rfl, ok1.sub _ _ hlam, fun b e => ok1.sub _ _ (hT b e), ok1.sub _ _ hc1, ?_⟩
    · obtain ⟨C, dd, rfl, rfl, hG, hs⟩ := hE
      exact ⟨hG.ex, fun hl a hn => ⟨C, dd, rfl, rfl, hG, hs σ'' hl a hn⟩⟩
    · refine ⟨ρ, s1, _, _, rfl, er1, q, fun d t hk st ok v r p hp => (pp.step st).tup hk ok (.cons .str (.cons r .nil)) hp, fun C fs t hx st ok dx fvs e1 e2 e3 e4 r => ?_⟩
      obtain ⟨hG, lv, l1, hk⟩ := hx
      refine ⟨C, dx, rfl, rfl, hG, fun σ' hl a hn => ?_⟩
      obtain ⟨oku, stu, sau⟩ := ok.shown2 st e4 e2 e3 e1
      obtain ⟨v0, v1, rfl⟩ : ∃ v0 v1, σ' = [v0, v1] := by
        match σ', hl with
        | [v0, v1], _ => exact ⟨v0, v1, rfl⟩
      refine ⟨[none, some (.exc a dx fs)], ⟨t.H, upd t.G dx (.xd fvs), t.M⟩, { nx := fun _ _ => False, rt := kk, m0 := t.M }, fun _ _ _ => False, rfl, ⟨oku, rfl, fun i d hd => ?_⟩, ?_, ⟨fun _ _ z => z.elim, ⟨_, Step.refl _, oku, rfl, pp.step stu⟩, fun _ _ z => z.elim, fun _ _ z => z.elim⟩, PostX.never⟩
      · match i, hd with
        | 1, hd =>
          cases hd
          exact ⟨.ref a, rfl, .exc upd_same (r.same sau)⟩
      · exact ⟨_, rfl, fs, lv, rfl, l1, by show 2 ≤ sizeLine; decide, hk⟩
end
/-- _law_try(y), y the slot i of the block: one of the lambdas LK -/
def dTryVL (X : Cx) (Good : Addr → Prop) (LK : Bool → Arguments → Expr → Scope → DE → Prop) (i : Nat) : DEnv → DE := fun ρX ρ M k _ => ∃ f c t params body scope τ, ρ[i]? = some (some (.lam f c (X.env.qual ++ "<lambda>") (lamP X params body scope f c t) t)) ∧ LK t.isSome params body scope τ ∧ τ ρX M (fun d M1 => k (.tup [.str "told", d]) M1) (noKL Good k)
section
variable {X : Cx} {c1 : Value} {g : Addr} {k i : Nat} {LK : Bool → Arguments → Expr → Scope → DE → Prop} {y : Str} {sB : Shared} {HB : Hp} {scopeB : Scope} {ce : Env} {fp : List Addr} {pins0 : List (Addr × Obj)} {σX : L2.St} {p py pos : Pos}
theorem p_tryInL (TF : LineF X.prog X.w X.K X.mg X.base c1 g) (hL : ∀ d params body scope τ, LK d params body scope τ → LamK X k d params body scope τ) (hr : Room (k + 2) X.A) (hg : Gl (X.blk sB HB scopeB ce fp) "_law_line_try") (hN : X.N[i]? = some y) (hv : Vis ce.scope y)
    (back : ∀ (pins' : List (Addr × Obj)) (σ' : L2.St) (H' : Hp) (s' : Shared), Inv (X.blk sB HB scopeB ce fp) pins' σ' H' s' → Inv X pins0 σX H' s') (hd : (y == ("__debug__" : Str)) = false := by decide) (hcd : (y == ("__classdict__" : Str)) = false := by decide) :
    PE (X.blk sB HB scopeB ce fp) (.Call (.Name "_law_line_try" p) [.Name y py] [] pos) (upX X.K E0 (dTryVL X (GoodL X.K c1) LK i) σX) := by
  refine ⟨fun pins s σ H Q I h => ?_⟩
  obtain ⟨ρX, ρ, s0, kk, xx, rfl, erX, er, ⟨f, c, t, params, body, scope, τ, hi, hk, q⟩, pp, px⟩ := h
  obtain ⟨v, hv1, rv⟩ := er.at_ i _ hi
  cases rv with
  | lam hG hcG hT =>
  have LL := hL _ _ _ _ _ hk
  refine wpAny_Call_Name_kw (ld_glob I hg TF.m ?_ (by decide))
  refine PySem.W.callWith_K (h₀ := X.base) I.ok.mod.kin TF.k ?_ (by rfl) (by rfl)
  show wpAny _ _ (spliced ((false, eval (.Name y py) (X.blk sB HB scopeB ce fp).env) :: backTo pos (starEach [] (X.blk sB HB scopeB ce fp).env))) _ _ s
  refine Calls.spliced_cons (thn ((pe_var (X := X.blk sB HB scopeB ce fp) (pos := py) (i := i) hN hv hd hcd).run pins s σ s0.H (fun v H1 => v = .ref f ∧ H1 = s0.H) I ⟨.ref f, hv1, rfl, rfl⟩) fun u s1 ⟨v', H1, I1, r1, e1, e2⟩ => ?_)
  subst e1
  rw [e2] at I1
  obtain rfl : u = Value.ref f := r1
  refine Calls.spliced_nil ⟨I1.kIn, ?_⟩
  have rc := run_tryTL TF (back _ _ _ _ I1) erX hG hT hcG hr LL.L LL.bind LL.body q pp
  refine wpAny_call (codeAny_mono rc fun r s2 hq => ?_)
  match r, hq with
  | .error e, hq =>
    obtain ⟨_, _, _, _, _, _, _, _, _, _, _, _, z⟩ := hq
    exact z.elim
  | .ok (.ret u), hq => exact I1.after hq
  | .ok .next, hq => exact hq.elim
  | .ok .brk, hq => exact hq.elim
  | .ok .cont, hq => exact hq.elim
end
end DL
set_option Elab.async false
set_option linter.all false
set_option maxRecDepth 100000
set_option maxHeartbeats 2000000
namespace DL
open PySem PySem.Spec PyProof.Rows L2
theorem takes_no {X : Cx} : Takes X (fun _ _ _ _ => False) := fun u s' h => by
  obtain ⟨_, _, _, _, _, _, _, _, _, _, _, _, _, _, _, _, z⟩ := h
  exact z.elim
theorem takes_mono {X : Cx} {W W' : WX} (tk : Takes X W') (h : ∀ cls d σ H, W cls d σ H → W' cls d σ H) : Takes X W := fun u s' z => by
  obtain ⟨a, B, sI, pins, σ, H, cls, d, e, J, nb, up, sky, na, os, ag, hw⟩ := z
  exact tk u s' ⟨a, B, sI, pins, σ, H, cls, d, e, J, nb, up, sky, na, os, ag, h _ _ _ _ hw⟩
/-- try: body / except x: return None -/
def dTryN (Good : Addr → Prop) (τb : DS) : DS := fun k _ ρ M => τb k (fun C _ M1 => Good C ∧ k.rt .non M1) ρ M
section
variable {X : Cx} {E : XK} {x : Str} {c : Value} {body : List Stmt} {τb : DS} {j : Nat} {np p2 p3 pos pos' : Pos} {Good : Addr → Prop}
theorem s_tryN (hs : X.stack = X.env :: X.outer) (hf : X.env.frame = some X.env.locals) (hg : Gl X x) (hm : X.mg x = some c) (hG : ∀ C, Good C → PySem.W.exmOne X.K (.ref C) c = some true)
    (hb : ∀ (pn : List (Addr × Obj)) (xe : Value → Shared → Prop) (E' : XK), Takes (X.tr pn xe) (fun cls d _ H' => E' cls d H') → Passes (L2.CX X.prog X.w) (X.tr pn xe) E' → DPB (X.tr pn xe) E' body τb)
    (hdb : (x == ("__debug__" : Str)) = false := by decide) :
    DPS X E (.Try body [.ExceptHandler (some (.Name x np)) none [.Return (some (.Constant .none j p3)) p2] pos'] [] [] pos) (dTryN Good τb) := by
  refine ps_mono (ps_try_only hs hf ⟨hg, hdb, .inl hm⟩ takes_no (tb := fun W D σ H => ∃ E' : XK, (∀ cls d σ'' H'', E' cls d H'' → W cls d σ'' H'') ∧ upS X.K E' τb D σ H) (ts := fun a cls d D σ H => D.rt .non H) (fun W pn xe tk _ => ?_) (fun a oe cls d pn hz hfl => ?_)) fun D σ H h => ?_
  · refine ⟨fun pins s σ H D I ⟨E', hW, h⟩ => ?_⟩
    exact (hb pn xe E' (takes_mono tk fun cls d σ H h => hW _ _ _ _ h) (passes_call tk hW)).run pins s σ H D I h
  · exact pss_one (ps_ret pe_non)
  · obtain ⟨ρ, s, k, x, rfl, er, q, p, px⟩ := h
    refine ⟨fun cls d H' => ∃ C, cls = .ref C ∧ Good C ∧ D.rt .non H', fun cls d σ'' H'' ⟨C, e, hg, hr⟩ => ?_, ρ, s, k, _, rfl, er, q, p, fun C fs t hx st ok dx fvs e1 e2 e3 e4 r => ?_⟩
    · subst e; exact ⟨true, hG C hg, fun _ a hn => hr, fun z => by cases z⟩
    · obtain ⟨b, s1, o, m, q2⟩ := p.rt
      exact ⟨C, rfl, hx.1, q2 .non t hx.2 (s1.trans st) ok _ .non⟩
end
end DL
set_option Elab.async false
set_option linter.all false
set_option maxRecDepth 100000
set_option maxHeartbeats 2000000
namespace DL
open PySem PySem.Spec PyProof.Rows L2
/-- a hidden object becomes a changing one -/
theorem Ok.shownM {K : PySem.W.Frag} {s b : Sta} {p : Addr} {o : HO} {mo : MO} (k : Ok K s) (st : Step b s) (hb : b.H p = none) (hg : s.G p = none) (hm : s.M p = none) (ho : s.H p = some o) (r : MRep K s.G (some o) mo) : Ok K ⟨s.H, s.G, mup s.M p mo⟩ ∧ Step b ⟨s.H, s.G, mup s.M p mo⟩ := by
  refine ⟨⟨k.sub, fun a mo' e => ?_, fun a mo' e => ?_⟩, ⟨st.same, fun a x => ?_, fun a u h1 h2 h3 => ?_⟩⟩
  · by_cases ea : a = p
    · subst ea; exact hg
    · have e' : mup s.M p mo a = some mo' := e
      rw [mup_ne ea] at e'
      exact k.apart a mo' e'
  · have e' : mup s.M p mo a = some mo' := e
    show MRep K s.G (s.H a) mo'
    by_cases ea : a = p
    · subst ea
      rw [mup_same] at e'
      cases e'
      rw [ho]
      exact r
    · rw [mup_ne ea] at e'
      exact k.cells a mo' e'
  · show (mup s.M p mo a).isSome = true
    by_cases ea : a = p
    · subst ea; rw [mup_same]; rfl
    · rw [mup_ne ea]; exact st.dom a x
  · have ne : a ≠ p := ne_of_none h1 hb
    obtain ⟨g1, g2, g3⟩ := st.hid a u h1 h2 h3
    exact ⟨g1, g2, by show mup s.M p mo a = none; rw [mup_ne ne]; exact g3⟩
section
variable {X : Cx} {E : XK} {tg iter : Expr} {pos : Pos}
/-- the comprehension as a changing list -/
def dLcM (ι : DI) (g : DG) (θ : DT) (ε : DE) (vs : List Nat) : DE := fun ρ M k x => dLc ι g θ ε vs ρ M (fun d M1 => ∃ ds, d = .lst ds ∧ ∀ p, M1 p = none → k (.cel p) (mup M1 p (.lst ds))) x
theorem up_lcM {K : PySem.W.Frag} {ι : DI} {g : TG} {γ : DG} {θ : DT} {ε : DE} {vs : List Nat} {σ : L2.St} {H : Hp} {Q : VK} (gp : GPair K g γ vs) (h : up K E (dLcM ι γ θ ε vs) σ H Q) : tLc (upI K E ι) g (upT K E0 θ) (up K E0 ε) vs σ H Q := by
  obtain ⟨ρ, s, k, x, rfl, er, q, p, px⟩ := h
  refine ⟨ρ, s, _, x, rfl, er, q, px, fun ds s1 q1 st1 ok1 J it => ?_⟩
  rcases q1 with ⟨hlen, I, i0, turn, fin⟩ | z
  case no => exact z.elim
  intro L hL
  -- the list at L is hidden while it grows
  have inv0 : ∃ (acc : List D) (vs' : List V) (s' : Sta), s'.H = upd s1.H L (.lst []) ∧ Ok K s' ∧ Step s1 s' ∧ s'.G L = none ∧ s'.M L = none ∧ s'.H L = some (.lst vs') ∧ Reps K s'.G vs' acc ∧ acc.length ≤ 0 ∧ I 0 acc s'.M := by
    obtain ⟨k1, st⟩ := ok1.hide (o := .lst []) (Step.refl s1) hL (ok1.freeG hL) (ok1.freeM hL)
    exact ⟨[], [], ⟨_, _, _⟩, rfl, k1, st, ok1.freeG hL, ok1.freeM hL, upd_same, .nil, Nat.le_refl _, i0⟩
  refine ⟨fun j m H' => m = ds.length - j ∧ j ≤ ds.length ∧ ∃ (acc : List D) (vs' : List V) (s' : Sta), s'.H = H' ∧ Ok K s' ∧ Step s1 s' ∧ s'.G L = none ∧ s'.M L = none ∧ s'.H L = some (.lst vs') ∧ Reps K s'.G vs' acc ∧ acc.length ≤ j ∧ I j acc s'.M,
    ⟨ds.length, rfl, Nat.zero_le _, inv0⟩, ?_⟩
  rintro j m H' ⟨rfl, hj, acc, vs', s', rfl, ok', st', gL, mL, hL', rs, hal, ij⟩
  by_cases hlt : j < ds.length
  · refine .inr ⟨it.go j s' st' ok' hlt, fun H2 => ∃ (acc : List D) (vs' : List V) (s' : Sta), s'.H = H2 ∧ Ok K s' ∧ Step s1 s' ∧ s'.G L = none ∧ s'.M L = none ∧ s'.H L = some (.lst vs') ∧ Reps K s'.G vs' acc ∧ acc.length ≤ j + 1 ∧ I (j + 1) acc s'.M,
      fun H2 z => ⟨ds.length - (j + 1), by omega, rfl, hlt, z⟩, fun v H2 y => ?_⟩
    obtain ⟨d, hd⟩ : ∃ d, ds[j]? = some d := ⟨ds[j], by simp [hlt]⟩
    obtain ⟨u, rfl, eM, stu, oku, ru⟩ := it.yld j s' v H2 st' ok' y d hd
    have ij' : I j acc u.M := by rw [eM]; exact ij
    obtain ⟨hLu, gLu, mLu⟩ := stu.hid L _ hL' gL mL
    have eru : ER K u (wipe σ vs) (wipeD ρ vs) := (er.step ((st1.trans st').trans stu) oku).wipe vs
    refine gp.run v d _ _ u _ _ eru ru (turn j d acc u.M hd ij') fun ρ3 σ3 q3 er3 w3 => ⟨w3.trans (wipe_wipe σ vs), ?_⟩
    refine ⟨ρ3, u, _, _, rfl, er3, q3, fun b s4 q4 st4 ok4 => ?_, PostX.never⟩
    obtain ⟨hL4, gL4, mL4⟩ := st4.hid L _ hLu gLu mLu
    cases b with
    | true =>
      rw [if_pos rfl] at q4 ⊢
      refine ⟨ρ3, s4, _, _, rfl, er3.step st4 ok4, q4, fun yd s5 q5 st5 ok5 yv ry => ?_, PostX.never⟩
      obtain ⟨hL5, gL5, mL5⟩ := st5.hid L _ hL4 gL4 mL4
      have rs5 : Reps K s5.G vs' acc := rs.same ((stu.trans st4).trans st5).same
      refine ⟨vs', hL5, by rw [rs5.length]; omega, ?_⟩
      obtain ⟨k6, st6⟩ := ok5.hide (o := .lst (vs' ++ [yv])) (((st'.trans stu).trans st4).trans st5) hL gL5 mL5
      exact ⟨acc ++ [yd], vs' ++ [yv], ⟨_, _, _⟩, rfl, k6, st6, gL5, mL5, upd_same, rs5.append (.cons ry .nil), by simp; omega, q5⟩
    | false =>
      rw [if_neg Bool.false_ne_true] at q4 ⊢
      exact ⟨acc, vs', s4, rfl, ok4, (st'.trans stu).trans st4, gL4, mL4, hL4, rs.same (stu.trans st4).same, by omega, q4⟩
  · have ej : j = ds.length := by omega
    subst ej
    refine .inl ⟨it.stop s' st' ok', ?_⟩
    obtain ⟨es, ee, hk⟩ := fin acc s'.M ij
    cases ee
    obtain ⟨k6, st6⟩ := ok'.shownM (mo := .lst acc) st' hL gL mL hL' ⟨vs', rfl, rs⟩
    exact p _ ⟨s'.H, s'.G, mup s'.M L (.lst acc)⟩ (hk L mL) (st1.trans st6) k6 _ .cel
variable {elt : Expr} {ifs : List Expr} {scope : Scope} {own : List (Str × Nat)} {ι : DI} {g : TG} {γ : DG} {θ : DT} {ε : DE}
theorem s_setLcM {i : Nat} {y : Str} {py spos : Pos} (hc : X.calm = true) (hN : X.N.Nodup) (hy : X.N[i]? = some y) (hyl : X.env.scope.names.lookup y = some .local)
    (hsw : swapsWith (.ListComp elt [⟨tg, iter, ifs, 0⟩] scope pos) (some (.Name y py)) spos.line X.env = pure true) (hi : DPI X E tg iter ι) (ok : BlkOk X.N X.env.scope scope own) (gp : GPair X.K g γ (own.map (·.2)))
    (hg : ∀ (s : Shared) (H : Hp) (C : Addr) (cl : List (Str × Addr)) (fp : List Addr), PG (X.blk s H scope (compEnvC scope cl C X.env) fp) tg g) (ht : ∀ (s : Shared) (H : Hp) (C : Addr) (cl : List (Str × Addr)) (fp : List Addr), DPTs (X.blk s H scope (compEnvC scope cl C X.env) fp) E0 ifs θ)
    (he : ∀ (s : Shared) (H : Hp) (C : Addr) (cl : List (Str × Addr)) (fp : List Addr), DP (X.blk s H scope (compEnvC scope cl C X.env) fp) E0 elt ε) (hs : ∀ x, foldedSetIterable iter X.env x = pure x := by intro _; rfl) :
    DPS X E (.Assign [.Name y py] (.ListComp elt [⟨tg, iter, ifs, 0⟩] scope pos) spos) (dSet i (dLcM ι γ θ ε (own.map (·.2)))) := ps_mono (ps_setLc (tt := upT X.K E0 θ) (te := up X.K E0 ε) hc hN hy hyl hsw hi ok hg ht he hs) fun D σ H h => by
  obtain ⟨ρ, s, k, x, rfl, er, q, p, px⟩ := h
  refine up_lcM gp ⟨ρ, s, _, x, rfl, er, q, fun u s1 q1 st1 ok1 v1 r1 => p.nx _ s1 q1 st1 _ ((er.step st1 ok1).set i r1), px⟩
end
section
variable {X : Cx} {E : XK}
/-! ### order of data -/
inductive LtD : D → D → PyData → PyData → Prop where
  | mk {x y : D} {p q : PyData} (h1 : toP x = some p) (h2 : toP y = some q) (h3 : SeqAt.shaped p = true) (h4 : SeqAt.shaped q = true) (h5 : PySem.W.alike p q = true) (h6 : p ≠ .none) : LtD x y p q
def dLtD : D2 := fun x y M k _ => ∃ p q, LtD x y p q ∧ k (.bl (PySem.W.dataLt p q)) M
def dGtD : D2 := fun x y M k _ => ∃ p q, LtD x y p q ∧ k (.bl (PySem.W.dataLt q p)) M
def dLeD : D2 := fun x y M k _ => ∃ p q, LtD x y p q ∧ k (.bl (!PySem.W.dataLt q p)) M
def dGeD : D2 := fun x y M k _ => ∃ p q, LtD x y p q ∧ k (.bl (!PySem.W.dataLt p q)) M
theorem o_ltD (hu : X.A.units + 64 < cLine) : OpR X (compareOp .Lt) (r2 X.K E dLtD) := by
  intro pins s σ H x y u v Q I rx ry h
  obtain ⟨s0, dx, dy, k, xx, rfl, ok, hx, hy, ⟨p, q, ⟨h1, h2, h3, h4, h5, h6⟩, qq⟩, pp, px⟩ := h
  obtain ⟨as, r1⟩ := Dp.reads I _ _ _ (Dp.same ok.sub (dp_of hx h1)) rx
  obtain ⟨bs, r2⟩ := Dp.reads I _ _ _ (Dp.same ok.sub (dp_of hy h2)) ry
  exact PySem.W.lt_data r1 r2 h5 h6 (SeqAt.room_of_shaped h3 hu) ⟨.bl _, s0.H, I, rfl, pp.now qq ok .bl⟩
theorem o_gtD (hu : X.A.units + 64 < cLine) : OpR X (compareOp .Gt) (r2 X.K E dGtD) := by
  intro pins s σ H x y u v Q I rx ry h
  obtain ⟨s0, dx, dy, k, xx, rfl, ok, hx, hy, ⟨p, q, ⟨h1, h2, h3, h4, h5, h6⟩, qq⟩, pp, px⟩ := h
  obtain ⟨as, r1⟩ := Dp.reads I _ _ _ (Dp.same ok.sub (dp_of hx h1)) rx
  obtain ⟨bs, r2⟩ := Dp.reads I _ _ _ (Dp.same ok.sub (dp_of hy h2)) ry
  exact PySem.W.gt_data r1 r2 h5 h6 (SeqAt.room_of_shaped h3 hu) ⟨.bl _, s0.H, I, rfl, pp.now qq ok .bl⟩
theorem o_leD (hu : X.A.units + 64 < cLine) : OpR X (compareOp .LtE) (r2 X.K E dLeD) := by
  intro pins s σ H x y u v Q I rx ry h
  obtain ⟨s0, dx, dy, k, xx, rfl, ok, hx, hy, ⟨p, q, ⟨h1, h2, h3, h4, h5, h6⟩, qq⟩, pp, px⟩ := h
  obtain ⟨as, r1⟩ := Dp.reads I _ _ _ (Dp.same ok.sub (dp_of hx h1)) rx
  obtain ⟨bs, r2⟩ := Dp.reads I _ _ _ (Dp.same ok.sub (dp_of hy h2)) ry
  exact PySem.W.le_data r1 r2 h5 h6 (SeqAt.room_of_shaped h3 hu) ⟨.bl _, s0.H, I, rfl, pp.now qq ok .bl⟩
theorem o_geD (hu : X.A.units + 64 < cLine) : OpR X (compareOp .GtE) (r2 X.K E dGeD) := by
  intro pins s σ H x y u v Q I rx ry h
  obtain ⟨s0, dx, dy, k, xx, rfl, ok, hx, hy, ⟨p, q, ⟨h1, h2, h3, h4, h5, h6⟩, qq⟩, pp, px⟩ := h
  obtain ⟨as, r1⟩ := Dp.reads I _ _ _ (Dp.same ok.sub (dp_of hx h1)) rx
  obtain ⟨bs, r2⟩ := Dp.reads I _ _ _ (Dp.same ok.sub (dp_of hy h2)) ry
  exact PySem.W.ge_data r1 r2 h5 h6 (SeqAt.room_of_shaped h3 hu) ⟨.bl _, s0.H, I, rfl, pp.now qq ok .bl⟩
/-! ### in a list of data of any depth -/
def dInD (neg : Bool) : D2 := fun x y M k _ => ∃ d ds, toP x = some d ∧ toP y = some (.list ds) ∧ SeqAt.shaped d = true ∧ SeqAt.shaped (.list ds) = true ∧ k (.bl (if neg then !ds.any fun z => PyData.eqv z d else ds.any fun z => PyData.eqv z d)) M
theorem o_inD (hu : X.A.units + 65 < cLine) : OpR X (compareOp .In) (r2 X.K E (dInD false)) := by
  intro pins s σ H x y u v Q I rx ry h
  obtain ⟨s0, dx, dy, k, xx, rfl, ok, hx, hy, ⟨d, ds, h1, h2, h3, h4, qq⟩, pp, px⟩ := h
  exact op_inD hu pins s σ _ _ _ u v Q I rx ry ⟨_, _, Dp.same ok.sub (dp_of hx h1), Dp.same ok.sub (dp_of hy h2), h3, h4, pp.now qq ok .bl⟩
theorem o_notInD (hu : X.A.units + 65 < cLine) : OpR X (compareOp .NotIn) (r2 X.K E (dInD true)) := by
  intro pins s σ H x y u v Q I rx ry h
  obtain ⟨s0, dx, dy, k, xx, rfl, ok, hx, hy, ⟨d, ds, h1, h2, h3, h4, qq⟩, pp, px⟩ := h
  exact op_notInD hu pins s σ _ _ _ u v Q I rx ry ⟨_, _, Dp.same ok.sub (dp_of hx h1), Dp.same ok.sub (dp_of hy h2), h3, h4, pp.now qq ok .bl⟩
/-- l.index(x), data of any depth -/
def dIndexD : D → List D → Mm → DK → DX → Prop := fun x ds M k _ => ∃ (y : D) (d : PyData) (ps : List PyData) (j : Nat) (z : PyData), ds = [y] ∧ toP x = some (.list ps) ∧ toP y = some d ∧ SeqAt.shaped (.list ps) = true ∧ SeqAt.shaped d = true ∧
  ps[j]? = some z ∧ PyData.eqv z d = true ∧ (∀ (m : Nat) (z' : PyData), m < j → ps[m]? = some z' → PyData.eqv z' d = false) ∧ k (.int (j : Nat)) M
/-- list * int -/
def dMulL : D2
  | .lst xs, .int n, M, k, _ => -(2 ^ 63) ≤ n ∧ n < 2 ^ 63 ∧ xs.length * n.toNat ≤ sizeLine ∧ k (.lst (List.replicate n.toNat xs).flatten) M
  | _, _, _, _, _ => False
theorem reps_rep {K : PySem.W.Frag} {G : Hp} {vs : List V} {ds : List D} (h : Reps K G vs ds) : ∀ n : Nat, Reps K G (List.replicate n vs).flatten (List.replicate n ds).flatten
  | 0 => .nil
  | n + 1 => by
    rw [List.replicate_succ, List.replicate_succ, List.flatten_cons, List.flatten_cons]
    exact h.append (reps_rep h n)
theorem o_mulL : OpR X (binaryOp .Mult) (r2 X.K E dMulL) := by
  intro pins s σ H x y u v Q I rx ry h
  obtain ⟨s0, dx, dy, k, xx, rfl, ok, hx, hy, q, p, px⟩ := h
  unfold dMulL at q
  split at q
  · rename_i xs n
    obtain ⟨a, vs, rfl, ha, r⟩ := hx.lst_of
    cases hy
    obtain ⟨h1, h2, h3, q⟩ := q
    exact op_rep pins s σ _ _ _ u v Q I rx ry ⟨a, n, vs, rfl, rfl, ok.sub _ _ ha, h1, h2, by rw [r.length]; exact h3, fun z hz => p.lst q ok (reps_rep r _) hz⟩
  · exact q.elim
theorem units65 {k : Nat} {A : Around} (r : Room k A) : A.units + 65 < cLine := by have := r.un; omega
end
end DL
set_option Elab.async false
set_option linter.all false
set_option maxRecDepth 100000
set_option maxHeartbeats 2000000
namespace DL
open PySem PySem.Spec PyProof.Rows L2
/-! ### enumerate(list) -/
def enums (ds : List D) : List D := ds.mapIdx fun i d => .tup [.int (i : Nat), d]
theorem enums_length (ds : List D) : (enums ds).length = ds.length := List.length_mapIdx
theorem enums_get {ds : List D} {i : Nat} {d : D} (h : (enums ds)[i]? = some d) : ∃ e, ds[i]? = some e ∧ d = .tup [.int (i : Nat), e] := by
  unfold enums at h
  rw [List.getElem?_mapIdx] at h
  cases e : ds[i]? with
  | none => rw [e] at h; cases h
  | some v => rw [e] at h; cases h; exact ⟨v, rfl, rfl⟩
theorem itD_enum {K : PySem.W.Frag} {s : Sta} {l : Addr} {vs : List V} {ds : List D} (h : s.G l = some (.lst vs)) (r : Reps K s.G vs ds) : ItD K s (Ite K l) (enums ds) := by
  have at1 : ∀ t, Step s t → Ok K t → SqL K t.H l vs := fun t st ok => SqL.of (ok.sub _ _ (st.same _ _ h))
  have hl := r.length
  refine ⟨fun i t st ok hi => ?_, fun t st ok => ⟨vs, at1 t st ok, ?_⟩, fun i t x H' st ok y d hd => ?_⟩
  · rw [enums_length] at hi
    exact ⟨vs, vs[i]'(by omega), at1 t st ok, by simp⟩
  · rw [enums_length]; omega
  · obtain ⟨d1, e1, rfl⟩ := enums_get hd
    obtain ⟨T, x1, rfl, hT, rfl, y1⟩ := y
    obtain ⟨v1, w1, p1⟩ := r.get e1
    have q1 := y1 vs (at1 t st ok)
    rw [w1] at q1
    cases q1
    exact yld_pair ok hT .int (p1.same st.same)
def iEnumD (α : DA) : DI := fun ρ M k x => α ρ M (fun us M1 => ∃ ds, us = [.lst ds] ∧ k (enums ds) M1) x
section
variable {X : Cx} {E : XK} {a : Expr} {pos : Pos} {αa : DA}
theorem i_enum {p tpos : Pos} {elts : List Expr} {kk : Nat} (hg : Gl X "enumerate") (hm : X.mg "enumerate" = none) (ha : DPA X E [a] αa) (hs : starEach [a] X.env = [(false, eval a X.env)] := by rfl) :
    DPI X E (.Tuple elts kk tpos) (.Call (.Name "enumerate" p) [a] [] pos) (iEnumD αa) :=
  pi_mono (pi_enum hg hm ha hs) fun σ H R h => by
    obtain ⟨ρ, s, k, x, rfl, er, q, px, p⟩ := h
    refine ⟨ρ, s, _, x, rfl, er, q, fun us s1 q1 st1 ok1 vs r1 => ?_, px⟩
    obtain ⟨ds, rfl, q1⟩ := q1
    obtain ⟨v, rfl, rv⟩ := r1.one
    obtain ⟨c, ws, rfl, hc, rs⟩ := rv.lst_of
    exact ⟨c, ws, rfl, SqL.of (ok1.sub _ _ hc), p _ s1 q1 st1 ok1 _ (itD_enum hc rs)⟩
theorem m_indexD (hu : X.A.units + 65 < cLine) : MtR X "list.index" (rM X.K E dIndexD) := by
  intro pins s σ H x xs v us Q I rx rs h
  obtain ⟨s0, dx, ds, k, xx, rfl, ok, hx, hxs, ⟨y, d, ps, j, z, rfl, h1, h2, h3, h4, h5, h6, h7, q⟩, p, px⟩ := h
  obtain ⟨w, rfl, rw1⟩ := hxs.one
  have d1 := Dp.same ok.sub (dp_of hx h1)
  have d2 := Dp.same ok.sub (dp_of rw1 h2)
  cases d1 with
  | @lst a _ _ hs hr => exact mt_indexD hu pins s σ _ _ _ v us Q I rx rs ⟨a, w, d, ps, j, z, rfl, rfl, .lst hs hr, d2, h3, h4, h5, h6, h7, p.now q ok .int⟩
end
end DL
set_option Elab.async false
set_option linter.all false
set_option maxRecDepth 100000
set_option maxHeartbeats 2000000
namespace TX
open PySem PySem.NumText L2 TL
/-! ### a text cut at a sign -/
theorem cut1 (c : Nat) (l : List Nat) : c ∉ l ∨ ∃ x y, l = x ++ c :: y ∧ c ∉ x := by
  induction l with
  | nil => exact .inl (by simp)
  | cons d r ih =>
    by_cases e : d = c
    · exact .inr ⟨[], r, by rw [e]; rfl, by simp⟩
    · rcases ih with h | ⟨x, y, h, hx⟩
      · exact .inl (by simp only [List.mem_cons, not_or]; exact ⟨fun w => e w.symm, h⟩)
      · exact .inr ⟨d :: x, y, by rw [h]; rfl, by simp only [List.mem_cons, not_or]; exact ⟨fun w => e w.symm, hx⟩⟩
theorem cut_uniq {c : Nat} : ∀ {x y x' y' : List Nat}, x ++ c :: y = x' ++ c :: y' → c ∉ x → c ∉ x' → x = x' ∧ y = y'
  | [], y, [], y', h, _, _ => ⟨rfl, (List.cons.inj h).2⟩
  | [], y, d :: x', y', h, _, hx' => absurd (List.cons.inj h).1 fun e => hx' (by rw [e]; simp)
  | d :: x, y, [], y', h, hx, _ => absurd (List.cons.inj h).1 fun e => hx (by rw [← e]; simp)
  | d :: x, y, d' :: x', y', h, hx, hx' => by
    obtain ⟨h1, h2⟩ := List.cons.inj h
    obtain ⟨h3, h4⟩ := cut_uniq h2 (fun w => hx (List.mem_cons_of_mem _ w)) (fun w => hx' (List.mem_cons_of_mem _ w))
    exact ⟨by rw [h1, h3], h4⟩
theorem part_cases {sep : Str} {c : Nat} (hs : tl sep = [c]) (z : Str) : (c ∉ tl z ∧ Txt.partition z sep = (z, Str.empty, Str.empty)) ∨ ∃ x y : Str, tl z = tl x ++ c :: tl y ∧ c ∉ tl x ∧ x.length ≤ z.length ∧ y.length ≤ z.length ∧ Txt.partition z sep = (x, sep, y) := by
  rcases cut1 c (tl z) with h | ⟨x, y, h, hx⟩
  · exact .inl ⟨h, partition_none hs h⟩
  · have e : z = (⟨x.toArray⟩ : Str) ++ sep ++ ⟨y.toArray⟩ := ext_tl (by rw [tl_append, tl_append, hs, h, List.append_assoc]; rfl)
    have l := congrArg List.length h
    rw [tl_len, List.length_append, List.length_cons] at l
    refine .inr ⟨⟨x.toArray⟩, ⟨y.toArray⟩, h, hx, ?_, ?_, ?_⟩
    · show x.toArray.size ≤ _; rw [List.size_toArray]; omega
    · show y.toArray.size ≤ _; rw [List.size_toArray]; omega
    · rw [e]; exact partition_app hs hx
theorem spl_neC (c : Nat) : ∀ (l acc : List Nat), spl [c] 0 acc l ≠ [] := by
  intro l
  induction l with
  | nil => intro acc; rw [spl_nil]; simp
  | cons d r ih2 =>
    intro acc
    by_cases h : d = c
    · subst h; rw [spl_hit (show pre [d] (d :: r) = true from pre_self [d] r)]; simp
    · rw [spl_miss (pre_of_head [] r h)]; exact ih2 _
theorem join_splC (c : Nat) : ∀ (l acc : List Nat), joinL [c] (spl [c] 0 acc l) = acc ++ l
  | [], acc => by rw [spl_nil]; simp [joinL]
  | d :: r, acc => by
    by_cases h : d = c
    · subst h
      have hp : pre [d] (d :: r) = true := pre_self [d] r
      rw [spl_hit hp]
      have ih := join_splC d r []
      show joinL [d] (acc :: spl [d] 0 [] r) = _
      cases e : spl [d] 0 [] r with
      | nil => exact absurd e (spl_neC d r [])
      | cons x y =>
        rw [e] at ih
        show acc ++ ([d] ++ joinL [d] (x :: y)) = _
        rw [ih]
        simp
    · rw [spl_miss (pre_of_head [] r h), join_splC c r (acc ++ [d])]
      simp
theorem split_partsC {sep : Str} {c : Nat} (hs : tl sep = [c]) (hk : sep.cps.all (· < 256) = true) (r : Str) : (Txt.split r sep).map tl = spl [c] 0 [] (tl r) := by
  have := split_spl r sep (by rw [hs]; exact fun w => by cases w) (kind_ok hk)
  rw [hs] at this
  exact this
theorem split_joinC {sep : Str} {c : Nat} (hs : tl sep = [c]) (hk : sep.cps.all (· < 256) = true) (r : Str) : joinL [c] ((Txt.split r sep).map tl) = tl r := by
  rw [split_partsC hs hk, join_splC]
  rfl
theorem split_neC {sep : Str} {c : Nat} (hs : tl sep = [c]) (hk : sep.cps.all (· < 256) = true) (r : Str) : Txt.split r sep ≠ [] := fun w => by
  have := split_partsC hs hk r
  rw [w] at this
  exact spl_neC _ _ _ this.symm
theorem join_mem (c : Nat) : ∀ (ps : List (List Nat)) (q : List Nat), q ∈ ps → q.length ≤ (joinL [c] ps).length := by
  intro ps
  induction ps with
  | nil => intro q hq; cases hq
  | cons x y ih =>
    intro q hq
    cases y with
    | nil =>
      rcases List.mem_cons.mp hq with e | e
      · rw [e]; exact Nat.le_refl _
      · cases e
    | cons u v =>
      have e0 : joinL [c] (x :: u :: v) = x ++ ([c] ++ joinL [c] (u :: v)) := rfl
      rw [e0, List.length_append, List.length_append]
      rcases List.mem_cons.mp hq with e | e
      · rw [e]; omega
      · have := ih q e
        omega
theorem join_count (c : Nat) : ∀ (ps : List (List Nat)), ps.length ≤ (joinL [c] ps).length + 1
  | [] => Nat.zero_le _
  | [x] => by simp
  | x :: u :: v => by
    have e0 : joinL [c] (x :: u :: v) = x ++ ([c] ++ joinL [c] (u :: v)) := rfl
    have := join_count c (u :: v)
    rw [e0, List.length_append, List.length_append]
    simp only [List.length_cons, List.length_nil] at this ⊢
    omega
theorem split_lenC {sep : Str} {c : Nat} (hs : tl sep = [c]) (hk : sep.cps.all (· < 256) = true) (r : Str) : ∀ p ∈ Txt.split r sep, p.length ≤ r.length := by
  intro p hp
  have := join_mem c _ (tl p) (List.mem_map.mpr ⟨p, hp, rfl⟩)
  rw [split_joinC hs hk, tl_len, tl_len] at this
  exact this
theorem split_countC {sep : Str} {c : Nat} (hs : tl sep = [c]) (hk : sep.cps.all (· < 256) = true) (r : Str) : (Txt.split r sep).length ≤ r.length + 1 := by
  have := join_count c ((Txt.split r sep).map tl)
  rw [split_joinC hs hk, tl_len, List.length_map] at this
  exact this
theorem spl_two {c : Nat} {x y : List Nat} (hx : c ∉ x) (hy : c ∉ y) : spl [c] 0 [] (x ++ c :: y) = [x, y] := by
  have := TL.spl_join (S := []) (s := c) (parts := [x, y]) (by simp) (by simp only [List.forall_mem_cons, List.not_mem_nil, false_imp_iff, implies_true, and_true]; exact ⟨hx, hy⟩)
  simpa [joinL] using this
theorem split_two {sep : Str} {c : Nat} (hs : tl sep = [c]) (hk : sep.cps.all (· < 256) = true) {r : Str} {x y : List Nat} (h : tl r = x ++ c :: y) (hx : c ∉ x) (hy : c ∉ y) : (Txt.split r sep).map tl = [x, y] := by
  rw [split_partsC hs hk, h, spl_two hx hy]
theorem tl_cm : tl (Str.ofString ",") = [44] := by decide +kernel
theorem tl_cl : tl (Str.ofString ":") = [58] := by decide +kernel
theorem tl_at : tl (Str.ofString "@") = [64] := by decide +kernel
/-! ### pairs, sides, places -/
abbrev Pr := Int × Int
def prL (p : Pr) : List Nat := intL p.1 ++ 44 :: intL p.2
def sdL (p q : Pr) : List Nat := prL p ++ 58 :: prL q
def plL (p q : Pr) (a b : Int) : List Nat := sdL p q ++ 64 :: txL a b
theorem pr_free {p : Pr} {s : Nat} (h : 57 < s) : s ∉ prL p := by
  unfold prL
  simp only [List.mem_append, List.mem_cons, not_or]
  exact ⟨int_free (.inr (.inl h)), by omega, int_free (.inr (.inl h))⟩
theorem sd_free {p q : Pr} {s : Nat} (h : 58 < s) : s ∉ sdL p q := by
  unfold sdL
  simp only [List.mem_append, List.mem_cons, not_or]
  exact ⟨pr_free (by omega), by omega, pr_free (by omega)⟩
theorem tx_free {a b : Int} {s : Nat} (h : 57 < s) : s ∉ txL a b := by
  unfold txL
  split
  · exact int_free (.inr (.inl h))
  · simp only [List.mem_append, List.mem_cons, not_or]
    exact ⟨int_free (.inr (.inl h)), by omega, int_free (.inr (.inl h))⟩
theorem int_no44 {i : Int} : 44 ∉ intL i := int_free (.inl (by decide))
theorem prL_inj {p q : Pr} (h : prL p = prL q) : p = q := by
  obtain ⟨h1, h2⟩ := cut_uniq h int_no44 int_no44
  exact Prod.ext (intL_inj h1) (intL_inj h2)
theorem sdL_inj {p q p' q' : Pr} (h : sdL p q = sdL p' q') : p = p' ∧ q = q' := by
  obtain ⟨h1, h2⟩ := cut_uniq h (pr_free (by decide)) (pr_free (by decide))
  exact ⟨prL_inj h1, prL_inj h2⟩
theorem plL_inj {p q p' q' : Pr} {a b a' b' : Int} (n1 : RT.Nf a b) (n2 : RT.Nf a' b') (h : plL p q a b = plL p' q' a' b') : p = p' ∧ q = q' ∧ a = a' ∧ b = b' := by
  obtain ⟨h1, h2⟩ := cut_uniq h (sd_free (by decide)) (sd_free (by decide))
  obtain ⟨h3, h4⟩ := sdL_inj h1
  exact ⟨h3, h4, txL_inj n1 n2 h2⟩
/-- bounds -/
def Bd (i : Int) : Prop := -1000000 ≤ i ∧ i ≤ 1000000
def PB (p : Pr) : Prop := Bd p.1 ∧ Bd p.2
theorem int_len {i : Int} (h : Bd i) : (intL i).length ≤ 8 := by
  obtain ⟨h1, h2⟩ := h
  unfold intL
  split
  · have := numL_len (n := i.toNat) (k := 7) (by decide) (by omega)
    omega
  · have := numL_len (n := (-i).toNat) (k := 7) (by decide) (by omega)
    rw [List.length_cons]
    omega
theorem pr_len {p : Pr} (h : PB p) : (prL p).length ≤ 17 := by
  have h1 := int_len h.1
  have h2 := int_len h.2
  unfold prL
  rw [List.length_append, List.length_cons]
  omega
theorem sd_len {p q : Pr} (h : PB p) (h' : PB q) : (sdL p q).length ≤ 35 := by
  have h1 := pr_len h
  have h2 := pr_len h'
  unfold sdL
  rw [List.length_append, List.length_cons]
  omega
def mkS (l : List Nat) : Str := ⟨l.toArray⟩
theorem tl_mk (l : List Nat) : tl (mkS l) = l := rfl
theorem mk_len (l : List Nat) : (mkS l).length = l.length := List.size_toArray ..
theorem eq_mk {z : Str} {l : List Nat} (h : tl z = l) : z = mkS l := ext_tl h
/-- the order of pairs -/
def PLt (p q : Pr) : Prop := p.1 < q.1 ∨ (p.1 = q.1 ∧ p.2 < q.2)
instance (p q : Pr) : Decidable (PLt p q) := inferInstanceAs (Decidable (_ ∨ _))
def prP (p : Pr) : PyData := .tuple [.int p.1, .int p.2]
theorem lt_pr (p q : Pr) : PySem.W.dataLt (prP p) (prP q) = decide (PLt p q) := by
  have e : ∀ (a b : Int) (l m : List (Int ⊕ List Nat)), PyProof.Rows.lexLt PyProof.Rows.itemOrd (.inl a :: l) (.inl b :: m) = (if a = b then PyProof.Rows.lexLt PyProof.Rows.itemOrd l m else decide (a < b)) := by
    intro a b l m
    by_cases h : a = b
    · rw [if_pos h, h]; exact PyProof.Rows.lex_self (O := PyProof.Rows.itemOrd) _ _ _
    · rw [if_neg h, PyProof.Rows.lex_diff (O := PyProof.Rows.itemOrd) (fun w => h (by cases w; rfl))]; rfl
  show PyProof.Rows.lexLt PyProof.Rows.itemOrd (PySem.W.keyToksAll [.int p.1, .int p.2]) (PySem.W.keyToksAll [.int q.1, .int q.2]) = _
  simp only [PySem.W.keyToksAll, PySem.W.keyToks, List.cons_append, List.nil_append]
  rw [e, if_pos rfl, e]
  by_cases h : p.1 = q.1
  · rw [if_pos h, e, if_pos rfl, e]
    by_cases h2 : p.2 = q.2
    · rw [if_pos h2, e, if_pos rfl]
      rw [show PyProof.Rows.lexLt PyProof.Rows.itemOrd [] [] = false from rfl]
      refine (decide_eq_false ?_).symm
      unfold PLt
      omega
    · rw [if_neg h2]
      refine decide_eq_decide.mpr ?_
      unfold PLt
      omega
  · rw [if_neg h]
    refine decide_eq_decide.mpr ?_
    unfold PLt
    omega
end TX
set_option Elab.async false
set_option linter.all false
set_option maxRecDepth 100000
set_option maxHeartbeats 2000000
namespace TX
open PySem PySem.NumText L2 TL
theorem tl_nl : tl (Str.ofString "\n") = [10] := by decide +kernel
theorem tl_no : tl (Str.ofString "") = [] := by decide +kernel
theorem atI_last {α : Type} (xs : List α) (v : α) : atI (xs ++ [v]) (-1) = some v := by
  unfold atI
  have e : ixN (xs ++ [v]).length (-1) = some xs.length := by
    unfold ixN
    rw [if_neg (by decide), if_pos (by rw [List.length_append]; simp; omega)]
    congr 1
    rw [List.length_append, List.length_cons, List.length_nil]
    omega
  rw [e]
  simp
theorem cutD_init {α : Type} (xs : List α) (v : α) : DL.cutD (xs ++ [v]) none (some (-1)) = xs := by
  unfold DL.cutD
  have e : HT.sIx (xs ++ [v]).length (xs ++ [v]).length (some (-1)) = xs.length := by
    show (if (-1 : Int) < 0 then ((-1 : Int) + ((xs ++ [v]).length : Int)).toNat else min (-1 : Int).toNat (xs ++ [v]).length) = _
    rw [if_pos (by decide), List.length_append, List.length_cons, List.length_nil]
    omega
  rw [HT.sIx_none, e]
  simp
theorem flat_join : ∀ ys : List (List Nat), joinL [] ys = ys.flatten
  | [] => rfl
  | [x] => by simp [joinL]
  | x :: u :: v => by
    have e0 : joinL [] (x :: u :: v) = x ++ ([] ++ joinL [] (u :: v)) := rfl
    rw [e0, flat_join (u :: v)]
    rfl
theorem join_no (ys : List Str) : tl (Txt.join (Str.ofString "") ys) = (ys.map tl).flatten := by
  rw [TL.join_eq, TL.tl_join, tl_no, flat_join]
theorem sum_le {c : Nat} : ∀ ys : List Str, (∀ y ∈ ys, y.length ≤ c) → (ys.map (·.length)).sum ≤ ys.length * c
  | [], _ => by simp
  | y :: ys, h => by
    have h1 := h y (by simp)
    have h2 := sum_le ys fun z hz => h z (by simp [hz])
    simp only [List.map_cons, List.sum_cons, List.length_cons]
    rw [Nat.succ_mul]
    omega
theorem last_of {α : Type} : ∀ xs : List α, xs ≠ [] → ∃ ps l, xs = ps ++ [l]
  | [], h => absurd rfl h
  | [x], _ => ⟨[], x, rfl⟩
  | x :: y :: r, _ => by
    obtain ⟨ps, l, e⟩ := last_of (y :: r) (by simp)
    exact ⟨x :: ps, l, by rw [e]; rfl⟩
end TX
set_option Elab.async false
set_option linter.all false
set_option maxRecDepth 100000
set_option maxHeartbeats 4000000
set_option pp.deepTerms false
set_option pp.deepTerms.threshold 12
set_option pp.maxSteps 4000
namespace W58
open PySem PySem.Spec PyProof.Rows L2 DL
def topS (i : Nat) : Stmt := PySem.Challenge.pw_gustfloor_k58_texts_of_ways.main.body.getD i (.Pass ⟨0, 0, 0, 0⟩)
abbrev st_is_number : Stmt := topS 8
theorem sc_is_number : FnScope ["value"] ["value"] (defScope st_is_number) := ⟨rfl, rfl, rfl, by decide +kernel, rfl, by decide +kernel, by decide +kernel⟩
abbrev st_common_divisor : Stmt := topS 9
theorem sc_common_divisor : FnScope ["one", "other"] ["one", "other"] (defScope st_common_divisor) := ⟨rfl, rfl, rfl, by decide +kernel, rfl, by decide +kernel, by decide +kernel⟩
abbrev st_figures_number : Stmt := topS 10
theorem sc_figures_number : FnScope ["text", "sign"] ["text"] (defScope st_figures_number) := ⟨rfl, rfl, rfl, by decide +kernel, rfl, by decide +kernel, by decide +kernel⟩
abbrev st_signed_number : Stmt := topS 11
theorem sc_signed_number : FnScope ["text", "number"] ["text"] (defScope st_signed_number) := ⟨rfl, rfl, rfl, by decide +kernel, rfl, by decide +kernel, by decide +kernel⟩
abbrev st_Ratio___init__ : Stmt := inClass (topS 12) 0
theorem sc_Ratio___init__ : FnScope ["self", "top", "bottom", "by"] ["self", "top", "bottom"] (defScope st_Ratio___init__) := ⟨rfl, rfl, rfl, by decide +kernel, rfl, by decide +kernel, by decide +kernel⟩
abbrev st_Ratio_top : Stmt := inClass (topS 12) 1
theorem sc_Ratio_top : FnScope ["self"] ["self"] (defScope st_Ratio_top) := ⟨rfl, rfl, rfl, by decide +kernel, rfl, by decide +kernel, by decide +kernel⟩
abbrev st_Ratio_bottom : Stmt := inClass (topS 12) 2
theorem sc_Ratio_bottom : FnScope ["self"] ["self"] (defScope st_Ratio_bottom) := ⟨rfl, rfl, rfl, by decide +kernel, rfl, by decide +kernel, by decide +kernel⟩
abbrev st_Ratio___str__ : Stmt := inClass (topS 12) 12
theorem sc_Ratio___str__ : FnScope ["self"] ["self"] (defScope st_Ratio___str__) := ⟨rfl, rfl, rfl, by decide +kernel, rfl, by decide +kernel, by decide +kernel⟩
abbrev st_Ratio_read : Stmt := inClass (topS 12) 3
theorem sc_Ratio_read : FnScope ["cls", "text", "upper", "slash", "lower", "top", "bottom", "found"] ["cls", "text"] (defScope st_Ratio_read) := ⟨rfl, rfl, rfl, by decide +kernel, rfl, by decide +kernel, by decide +kernel⟩
abbrev st_Ratio_is_below : Stmt := inClass (topS 12) 5
theorem sc_Ratio_is_below : FnScope ["self", "other"] ["self", "other"] (defScope st_Ratio_is_below) := ⟨rfl, rfl, rfl, by decide +kernel, rfl, by decide +kernel, by decide +kernel⟩
abbrev st_zero : Stmt := topS 13
theorem sc_zero : FnScope [] [] (defScope st_zero) := ⟨rfl, rfl, rfl, by decide +kernel, rfl, by decide +kernel, by decide +kernel⟩
abbrev st_unit : Stmt := topS 14
theorem sc_unit : FnScope [] [] (defScope st_unit) := ⟨rfl, rfl, rfl, by decide +kernel, rfl, by decide +kernel, by decide +kernel⟩
abbrev st_is_point : Stmt := topS 17
theorem sc_is_point : FnScope ["value", "part"] ["value"] (defScope st_is_point) := ⟨rfl, rfl, rfl, by decide +kernel, rfl, by decide +kernel, by decide +kernel⟩
abbrev st_is_side : Stmt := topS 18
theorem sc_is_side : FnScope ["value"] ["value"] (defScope st_is_side) := ⟨rfl, rfl, rfl, by decide +kernel, rfl, by decide +kernel, by decide +kernel⟩
abbrev st_pair_text : Stmt := topS 21
theorem sc_pair_text : FnScope ["pair"] ["pair"] (defScope st_pair_text) := ⟨rfl, rfl, rfl, by decide +kernel, rfl, by decide +kernel, by decide +kernel⟩
abbrev st_side_text : Stmt := topS 22
theorem sc_side_text : FnScope ["side", "corner"] ["side"] (defScope st_side_text) := ⟨rfl, rfl, rfl, by decide +kernel, rfl, by decide +kernel, by decide +kernel⟩
abbrev st_place_text : Stmt := topS 23
theorem sc_place_text : FnScope ["place"] ["place"] (defScope st_place_text) := ⟨rfl, rfl, rfl, by decide +kernel, rfl, by decide +kernel, by decide +kernel⟩
abbrev st_pair_in : Stmt := topS 25
theorem sc_pair_in : FnScope ["text", "one", "comma", "other", "found"] ["text"] (defScope st_pair_in) := ⟨rfl, rfl, rfl, by decide +kernel, rfl, by decide +kernel, by decide +kernel⟩
abbrev st_side_in : Stmt := topS 26
theorem sc_side_in : FnScope ["text", "one", "colon", "other", "found"] ["text"] (defScope st_side_in) := ⟨rfl, rfl, rfl, by decide +kernel, rfl, by decide +kernel, by decide +kernel⟩
abbrev st_place_in : Stmt := topS 27
theorem sc_place_in : FnScope ["text", "word", "sign", "rest", "side", "ratio"] ["text"] (defScope st_place_in) := ⟨rfl, rfl, rfl, by decide +kernel, rfl, by decide +kernel, by decide +kernel⟩
abbrev st_way_text : Stmt := topS 24
theorem sc_way_text : FnScope ["places", "place"] ["places"] (defScope st_way_text) := ⟨rfl, rfl, rfl, by decide +kernel, rfl, by decide +kernel, by decide +kernel⟩
abbrev st_lines_of : Stmt := topS 28
theorem sc_lines_of : FnScope ["text", "rows"] ["text"] (defScope st_lines_of) := ⟨rfl, rfl, rfl, by decide +kernel, rfl, by decide +kernel, by decide +kernel⟩
abbrev st_read_way : Stmt := topS 29
theorem sc_read_way : FnScope ["text", "found", "at", "row", "place"] ["text"] (defScope st_read_way) := ⟨rfl, rfl, rfl, by decide +kernel, rfl, by decide +kernel, by decide +kernel⟩
abbrev st__law_start : Stmt := topS 31
theorem sc__law_start : FnScope ["_law_script"] ["_law_script"] (defScope st__law_start) := ⟨rfl, rfl, rfl, by decide +kernel, rfl, by decide +kernel, by decide +kernel⟩
abbrev st__law_pull : Stmt := topS 32
theorem sc__law_pull : FnScope ["_law_bag", "_law_many", "_law_cell", "_law_digit", "_law_seed"] ["_law_bag", "_law_many"] (defScope st__law_pull) := ⟨rfl, rfl, rfl, by decide +kernel, rfl, by decide +kernel, by decide +kernel⟩
abbrev st__law_pick : Stmt := topS 43
theorem sc__law_pick : FnScope ["_law_bag", "_law_some"] ["_law_bag", "_law_some"] (defScope st__law_pick) := ⟨rfl, rfl, rfl, by decide +kernel, rfl, by decide +kernel, by decide +kernel⟩
abbrev st__law_key : Stmt := topS 33
theorem sc__law_key : FnScope ["_law_p", "_law_q"] ["_law_p", "_law_q"] (defScope st__law_key) := ⟨rfl, rfl, rfl, by decide +kernel, rfl, by decide +kernel, by decide +kernel⟩
abbrev st__law_gcd : Stmt := topS 34
theorem sc__law_gcd : FnScope ["_law_a", "_law_b"] ["_law_a", "_law_b"] (defScope st__law_gcd) := ⟨rfl, rfl, rfl, by decide +kernel, rfl, by decide +kernel, by decide +kernel⟩
abbrev st__law_frac : Stmt := topS 35
theorem sc__law_frac : FnScope ["_law_a", "_law_b", "_law_by"] ["_law_a", "_law_b"] (defScope st__law_frac) := ⟨rfl, rfl, rfl, by decide +kernel, rfl, by decide +kernel, by decide +kernel⟩
abbrev st__law_pair_text : Stmt := topS 36
theorem sc__law_pair_text : FnScope ["_law_pair"] ["_law_pair"] (defScope st__law_pair_text) := ⟨rfl, rfl, rfl, by decide +kernel, rfl, by decide +kernel, by decide +kernel⟩
abbrev st__law_side_text : Stmt := topS 37
theorem sc__law_side_text : FnScope ["_law_edge"] ["_law_edge"] (defScope st__law_side_text) := ⟨rfl, rfl, rfl, by decide +kernel, rfl, by decide +kernel, by decide +kernel⟩
abbrev st__law_text : Stmt := topS 38
theorem sc__law_text : FnScope ["_law_p"] ["_law_p"] (defScope st__law_text) := ⟨rfl, rfl, rfl, by decide +kernel, rfl, by decide +kernel, by decide +kernel⟩
abbrev st__law_spot_text : Stmt := topS 39
theorem sc__law_spot_text : FnScope ["_law_spot"] ["_law_spot"] (defScope st__law_spot_text) := ⟨rfl, rfl, rfl, by decide +kernel, rfl, by decide +kernel, by decide +kernel⟩
abbrev st__law_sort : Stmt := topS 52
theorem sc__law_sort : FnScope ["_law_thing", "_law_marks"] ["_law_thing"] (defScope st__law_sort) := ⟨rfl, rfl, rfl, by decide +kernel, rfl, by decide +kernel, by decide +kernel⟩
abbrev st__law_same : Stmt := topS 53
theorem sc__law_same : FnScope ["_law_found", "_law_due", "_law_a", "_law_b"] ["_law_found", "_law_due"] (defScope st__law_same) := ⟨rfl, rfl, rfl, by decide +kernel, rfl, by decide +kernel, by decide +kernel⟩
abbrev st__law_ratio : Stmt := topS 40
theorem sc__law_ratio : FnScope ["_law_p"] ["_law_p"] (defScope st__law_ratio) := ⟨rfl, rfl, rfl, by decide +kernel, rfl, by decide +kernel, by decide +kernel⟩
abbrev st__law_made_place : Stmt := topS 41
theorem sc__law_made_place : FnScope ["_law_spot"] ["_law_spot"] (defScope st__law_made_place) := ⟨rfl, rfl, rfl, by decide +kernel, rfl, by decide +kernel, by decide +kernel⟩
abbrev st__law_bent_text : Stmt := topS 44
theorem sc__law_bent_text : FnScope ["_law_bag", "_law_text_z", "_law_at", "_law_far", "_law_sign", "_law_lots"] ["_law_bag", "_law_text_z"] (defScope st__law_bent_text) := ⟨rfl, rfl, rfl, by decide +kernel, rfl, by decide +kernel, by decide +kernel⟩
abbrev st__law_number_in : Stmt := topS 45
theorem sc__law_number_in : FnScope ["_law_word", "_law_good", "_law_sign"] ["_law_word"] (defScope st__law_number_in) := ⟨rfl, rfl, rfl, by decide +kernel, rfl, by decide +kernel, by decide +kernel⟩
abbrev st__law_signed : Stmt := topS 46
theorem sc__law_signed : FnScope ["_law_word", "_law_rest", "_law_n"] ["_law_word"] (defScope st__law_signed) := ⟨rfl, rfl, rfl, by decide +kernel, rfl, by decide +kernel, by decide +kernel⟩
abbrev st__law_pair_in : Stmt := topS 47
theorem sc__law_pair_in : FnScope ["_law_word", "_law_parts", "_law_found", "_law_part"] ["_law_word"] (defScope st__law_pair_in) := ⟨rfl, rfl, rfl, by decide +kernel, rfl, by decide +kernel, by decide +kernel⟩
abbrev st__law_side_in : Stmt := topS 48
theorem sc__law_side_in : FnScope ["_law_word", "_law_parts", "_law_part"] ["_law_word"] (defScope st__law_side_in) := ⟨rfl, rfl, rfl, by decide +kernel, rfl, by decide +kernel, by decide +kernel⟩
abbrev st__law_read : Stmt := topS 49
theorem sc__law_read : FnScope ["_law_text_z", "_law_minus", "_law_rest", "_law_parts", "_law_a", "_law_b"] ["_law_text_z"] (defScope st__law_read) := ⟨rfl, rfl, rfl, by decide +kernel, rfl, by decide +kernel, by decide +kernel⟩
abbrev st__law_spot_in : Stmt := topS 50
theorem sc__law_spot_in : FnScope ["_law_word", "_law_parts", "_law_edge", "_law_p"] ["_law_word"] (defScope st__law_spot_in) := ⟨rfl, rfl, rfl, by decide +kernel, rfl, by decide +kernel, by decide +kernel⟩
abbrev st__law_of_ratio : Stmt := topS 54
theorem sc__law_of_ratio : FnScope ["_law_found"] ["_law_found"] (defScope st__law_of_ratio) := ⟨rfl, rfl, rfl, by decide +kernel, rfl, by decide +kernel, by decide +kernel⟩
abbrev st__law_of_place : Stmt := topS 55
theorem sc__law_of_place : FnScope ["_law_found"] ["_law_found"] (defScope st__law_of_place) := ⟨rfl, rfl, rfl, by decide +kernel, rfl, by decide +kernel, by decide +kernel⟩
abbrev st__law_joined_rows : Stmt := topS 42
theorem sc__law_joined_rows : FnScope ["_law_rows", "_law_row"] ["_law_rows"] (defScope st__law_joined_rows) := ⟨rfl, rfl, rfl, by decide +kernel, rfl, by decide +kernel, by decide +kernel⟩
abbrev st__law_of_places : Stmt := topS 56
theorem sc__law_of_places : FnScope ["_law_found", "_law_one_p"] ["_law_found"] (defScope st__law_of_places) := ⟨rfl, rfl, rfl, by decide +kernel, rfl, by decide +kernel, by decide +kernel⟩
abbrev st_law : Stmt := topS 57
theorem sc_law : FnScope ["_law_script", "_law_bag", "_law_turn_k", "_law_spots", "_law_k", "_law_a", "_law_b", "_law_c", "_law_rows", "_law_handed", "_law_spot", "_law_at", "_law_bend", "_law_text_z", "_law_parts", "_law_found", "_law_part", "_law_due", "_law_told", "_law_odd"] ["_law_script"] (defScope st_law) := ⟨rfl, rfl, rfl, by decide +kernel, rfl, by decide +kernel, by decide +kernel⟩
abbrev st__law_line_try : Stmt := topS 51
theorem sc__law_line_try : FnScope ["_law_ask", "e"] ["_law_ask"] (defScope st__law_line_try) := ⟨rfl, rfl, rfl, by decide +kernel, rfl, by decide +kernel, by decide +kernel⟩
abbrev st_InvalidRatio___init__ : Stmt := inClass (topS 3) 0
theorem ss_InvalidRatio : XI.SupS ["self", "given"] (defArgs st_InvalidRatio___init__) (defScope st_InvalidRatio___init__) := ⟨rfl, rfl, rfl, by decide +kernel, by decide +kernel, by decide +kernel, by decide +kernel, rfl, rfl, rfl, ⟨_, rfl, rfl⟩⟩
abbrev st_InvalidText___init__ : Stmt := inClass (topS 4) 0
theorem ss_InvalidText : XI.SupS ["self", "line"] (defArgs st_InvalidText___init__) (defScope st_InvalidText___init__) := ⟨rfl, rfl, rfl, by decide +kernel, by decide +kernel, by decide +kernel, by decide +kernel, rfl, rfl, rfl, ⟨_, rfl, rfl⟩⟩
abbrev CS (cl : Nat → Addr) : List Addr := [cl 0]
structure Txt (K : PySem.W.Frag) (mg : Str → Option Value) (ad : Nat → Addr) (fd : Nat → FuncData) (cl : Nat → Addr) : Prop where
  m_Ratio : mg "Ratio" = some (.ref (cl 0))
  ci_Ratio : ClsI K (cl 0)
  sf_Ratio : PySem.W.selfFirst K (cl 0) = true
  isiC_Ratio : ∀ C ∈ CS cl, ClsI K C ∧ PySem.W.kitOne K (.ref C) (.ref (cl 0)) = some (decide (C = cl 0))
  isiB_Ratio : ∀ u : Kd, PySem.W.kitOne K (.type u.nm) (.ref (cl 0)) = some false
  fm_Ratio : PySem.W.findIn K (.ref (cl 0)) "__format__" = some (some (.builtin "object.__format__"))
  cr_Ratio : ClX.CRead K (cl 0) (.type "type")
  isi_bool : ∀ C ∈ CS cl, ClsI K C ∧ PySem.W.kitOne K (.ref C) (.type (Kd.nm .bl)) = some false
  isi_int : ∀ C ∈ CS cl, ClsI K C ∧ PySem.W.kitOne K (.ref C) (.type (Kd.nm .int)) = some false
  isi_list : ∀ C ∈ CS cl, ClsI K C ∧ PySem.W.kitOne K (.ref C) (.type (Kd.nm .lst)) = some false
  isi_str : ∀ C ∈ CS cl, ClsI K C ∧ PySem.W.kitOne K (.ref C) (.type (Kd.nm .str)) = some false
  isi_tuple : ∀ C ∈ CS cl, ClsI K C ∧ PySem.W.kitOne K (.ref C) (.type (Kd.nm .tup)) = some false
  na_Ratio_own_bottom : NoAttr K (cl 0) "own_bottom"
  na_Ratio_own_top : NoAttr K (cl 0) "own_top"
  m_is_number : mg "is_number" = some (.ref (ad 0))
  k_is_number : PySem.W.keepIn K (.ref (ad 0)) = true
  F_is_number : FunD K "is_number" "is_number" (defArgs st_is_number) (defBody st_is_number) (defScope st_is_number) [] [] (ad 0) (fd 0)
  kb_is_number_1 : KBd K (fd 0) ["value"] 1 [] (fun us _ => us)
  m_common_divisor : mg "common_divisor" = some (.ref (ad 1))
  k_common_divisor : PySem.W.keepIn K (.ref (ad 1)) = true
  F_common_divisor : FunD K "common_divisor" "common_divisor" (defArgs st_common_divisor) (defBody st_common_divisor) (defScope st_common_divisor) [] [] (ad 1) (fd 1)
  kb_common_divisor_2 : KBd K (fd 1) ["one", "other"] 2 [] (fun us _ => us)
  m_figures_number : mg "figures_number" = some (.ref (ad 2))
  k_figures_number : PySem.W.keepIn K (.ref (ad 2)) = true
  F_figures_number : FunD K "figures_number" "figures_number" (defArgs st_figures_number) (defBody st_figures_number) (defScope st_figures_number) [] [] (ad 2) (fd 2)
  kb_figures_number_1 : KBd K (fd 2) ["text"] 1 [] (fun us _ => us)
  m_signed_number : mg "signed_number" = some (.ref (ad 3))
  k_signed_number : PySem.W.keepIn K (.ref (ad 3)) = true
  F_signed_number : FunD K "signed_number" "signed_number" (defArgs st_signed_number) (defBody st_signed_number) (defScope st_signed_number) [] [] (ad 3) (fd 3)
  kb_signed_number_1 : KBd K (fd 3) ["text"] 1 [] (fun us _ => us)
  F_Ratio___init__ : FunD K "__init__" "Ratio.__init__" (defArgs st_Ratio___init__) (defBody st_Ratio___init__) (defScope st_Ratio___init__) [V.int 1] [] (ad 4) (fd 4)
  mk_Ratio : Mk K (cl 0) (ad 4)
  kb_Ratio___init___2 : KBd K (fd 4) ["self", "top", "bottom"] 2 [] (fun us ws => pickI (us ++ [(.int 1)] ++ ws) [0, 1, 2])
  kb_Ratio___init___3 : KBd K (fd 4) ["self", "top", "bottom"] 3 [] (fun us ws => pickI (us ++ [(.int 1)] ++ ws) [0, 1, 2])
  F_Ratio_top : FunD K "top" "Ratio.top" (defArgs st_Ratio_top) (defBody st_Ratio_top) (defScope st_Ratio_top) [] [] (ad 5) (fd 5)
  pp_Ratio_top : ∃ pa, PropOf K (cl 0) "top" pa (ad 5)
  bb_Ratio_top : Binds K (fd 5) ["self"] []
  F_Ratio_bottom : FunD K "bottom" "Ratio.bottom" (defArgs st_Ratio_bottom) (defBody st_Ratio_bottom) (defScope st_Ratio_bottom) [] [] (ad 6) (fd 6)
  pp_Ratio_bottom : ∃ pa, PropOf K (cl 0) "bottom" pa (ad 6)
  bb_Ratio_bottom : Binds K (fd 6) ["self"] []
  F_Ratio___str__ : FunD K "__str__" "Ratio.__str__" (defArgs st_Ratio___str__) (defBody st_Ratio___str__) (defScope st_Ratio___str__) [] [] (ad 7) (fd 7)
  sp_Ratio___str__ : PySem.W.findIn K (.ref (cl 0)) "__str__" = some (some (.ref (ad 7)))
  fn_Ratio___str__ : PySem.W.isFn K (.ref (ad 7)) = true
  kb_Ratio___str___1 : KBd K (fd 7) ["self"] 1 [] (fun us _ => us)
  F_Ratio_read : FunD K "read" "Ratio.read" (defArgs st_Ratio_read) (defBody st_Ratio_read) (defScope st_Ratio_read) [] [] (ad 8) (fd 8)
  cm_Ratio_read : ∃ pp, ClX.CMet K (cl 0) (.type "type") "read" pp (ad 8)
  bb_Ratio_read : Binds K (fd 8) ["cls", "text"] []
  F_Ratio_is_below : FunD K "is_below" "Ratio.is_below" (defArgs st_Ratio_is_below) (defBody st_Ratio_is_below) (defScope st_Ratio_is_below) [] [] (ad 9) (fd 9)
  mt_Ratio_is_below : Meth K (cl 0) "is_below" (ad 9)
  kb_Ratio_is_below_2 : KBd K (fd 9) ["self", "other"] 2 [] (fun us _ => us)
  m_zero : mg "zero" = some (.ref (ad 10))
  k_zero : PySem.W.keepIn K (.ref (ad 10)) = true
  F_zero : FunD K "zero" "zero" (defArgs st_zero) (defBody st_zero) (defScope st_zero) [] [] (ad 10) (fd 10)
  kb_zero_0 : KBd K (fd 10) [] 0 [] (fun us _ => us)
  m_unit : mg "unit" = some (.ref (ad 11))
  k_unit : PySem.W.keepIn K (.ref (ad 11)) = true
  F_unit : FunD K "unit" "unit" (defArgs st_unit) (defBody st_unit) (defScope st_unit) [] [] (ad 11) (fd 11)
  kb_unit_0 : KBd K (fd 11) [] 0 [] (fun us _ => us)
  m_is_point : mg "is_point" = some (.ref (ad 12))
  k_is_point : PySem.W.keepIn K (.ref (ad 12)) = true
  F_is_point : FunD K "is_point" "is_point" (defArgs st_is_point) (defBody st_is_point) (defScope st_is_point) [] [] (ad 12) (fd 12)
  kb_is_point_1 : KBd K (fd 12) ["value"] 1 [] (fun us _ => us)
  m_is_side : mg "is_side" = some (.ref (ad 13))
  k_is_side : PySem.W.keepIn K (.ref (ad 13)) = true
  F_is_side : FunD K "is_side" "is_side" (defArgs st_is_side) (defBody st_is_side) (defScope st_is_side) [] [] (ad 13) (fd 13)
  kb_is_side_1 : KBd K (fd 13) ["value"] 1 [] (fun us _ => us)
  m_pair_text : mg "pair_text" = some (.ref (ad 14))
  k_pair_text : PySem.W.keepIn K (.ref (ad 14)) = true
  F_pair_text : FunD K "pair_text" "pair_text" (defArgs st_pair_text) (defBody st_pair_text) (defScope st_pair_text) [] [] (ad 14) (fd 14)
  kb_pair_text_1 : KBd K (fd 14) ["pair"] 1 [] (fun us _ => us)
  m_side_text : mg "side_text" = some (.ref (ad 15))
  k_side_text : PySem.W.keepIn K (.ref (ad 15)) = true
  F_side_text : FunD K "side_text" "side_text" (defArgs st_side_text) (defBody st_side_text) (defScope st_side_text) [] [] (ad 15) (fd 15)
  kb_side_text_1 : KBd K (fd 15) ["side"] 1 [] (fun us _ => us)
  m_place_text : mg "place_text" = some (.ref (ad 16))
  k_place_text : PySem.W.keepIn K (.ref (ad 16)) = true
  F_place_text : FunD K "place_text" "place_text" (defArgs st_place_text) (defBody st_place_text) (defScope st_place_text) [] [] (ad 16) (fd 16)
  kb_place_text_1 : KBd K (fd 16) ["place"] 1 [] (fun us _ => us)
  m_pair_in : mg "pair_in" = some (.ref (ad 17))
  k_pair_in : PySem.W.keepIn K (.ref (ad 17)) = true
  F_pair_in : FunD K "pair_in" "pair_in" (defArgs st_pair_in) (defBody st_pair_in) (defScope st_pair_in) [] [] (ad 17) (fd 17)
  kb_pair_in_1 : KBd K (fd 17) ["text"] 1 [] (fun us _ => us)
  m_side_in : mg "side_in" = some (.ref (ad 18))
  k_side_in : PySem.W.keepIn K (.ref (ad 18)) = true
  F_side_in : FunD K "side_in" "side_in" (defArgs st_side_in) (defBody st_side_in) (defScope st_side_in) [] [] (ad 18) (fd 18)
  kb_side_in_1 : KBd K (fd 18) ["text"] 1 [] (fun us _ => us)
  m_place_in : mg "place_in" = some (.ref (ad 19))
  k_place_in : PySem.W.keepIn K (.ref (ad 19)) = true
  F_place_in : FunD K "place_in" "place_in" (defArgs st_place_in) (defBody st_place_in) (defScope st_place_in) [] [] (ad 19) (fd 19)
  kb_place_in_1 : KBd K (fd 19) ["text"] 1 [] (fun us _ => us)
  m_way_text : mg "way_text" = some (.ref (ad 20))
  k_way_text : PySem.W.keepIn K (.ref (ad 20)) = true
  F_way_text : FunD K "way_text" "way_text" (defArgs st_way_text) (defBody st_way_text) (defScope st_way_text) [] [] (ad 20) (fd 20)
  kb_way_text_0_places : KBd K (fd 20) ["places"] 0 ["places"] (fun us ws => pickA us ws [.inr 0])
  kb_way_text_1 : KBd K (fd 20) ["places"] 1 [] (fun us _ => us)
  m_lines_of : mg "lines_of" = some (.ref (ad 21))
  k_lines_of : PySem.W.keepIn K (.ref (ad 21)) = true
  F_lines_of : FunD K "lines_of" "lines_of" (defArgs st_lines_of) (defBody st_lines_of) (defScope st_lines_of) [] [] (ad 21) (fd 21)
  kb_lines_of_1 : KBd K (fd 21) ["text"] 1 [] (fun us _ => us)
  m_read_way : mg "read_way" = some (.ref (ad 22))
  k_read_way : PySem.W.keepIn K (.ref (ad 22)) = true
  F_read_way : FunD K "read_way" "read_way" (defArgs st_read_way) (defBody st_read_way) (defScope st_read_way) [] [] (ad 22) (fd 22)
  kb_read_way_0_text : KBd K (fd 22) ["text"] 0 ["text"] (fun us ws => pickA us ws [.inr 0])
  kb_read_way_1 : KBd K (fd 22) ["text"] 1 [] (fun us _ => us)
  m__law_start : mg "_law_start" = some (.ref (ad 23))
  k__law_start : PySem.W.keepIn K (.ref (ad 23)) = true
  F__law_start : FunD K "_law_start" "_law_start" (defArgs st__law_start) (defBody st__law_start) (defScope st__law_start) [] [] (ad 23) (fd 23)
  kb__law_start_1 : KBd K (fd 23) ["_law_script"] 1 [] (fun us _ => us)
  m__law_pull : mg "_law_pull" = some (.ref (ad 24))
  k__law_pull : PySem.W.keepIn K (.ref (ad 24)) = true
  F__law_pull : FunD K "_law_pull" "_law_pull" (defArgs st__law_pull) (defBody st__law_pull) (defScope st__law_pull) [] [] (ad 24) (fd 24)
  kb__law_pull_2 : KBd K (fd 24) ["_law_bag", "_law_many"] 2 [] (fun us _ => us)
  m__law_pick : mg "_law_pick" = some (.ref (ad 25))
  k__law_pick : PySem.W.keepIn K (.ref (ad 25)) = true
  F__law_pick : FunD K "_law_pick" "_law_pick" (defArgs st__law_pick) (defBody st__law_pick) (defScope st__law_pick) [] [] (ad 25) (fd 25)
  kb__law_pick_2 : KBd K (fd 25) ["_law_bag", "_law_some"] 2 [] (fun us _ => us)
  m__law_key : mg "_law_key" = some (.ref (ad 26))
  k__law_key : PySem.W.keepIn K (.ref (ad 26)) = true
  F__law_key : FunD K "_law_key" "_law_key" (defArgs st__law_key) (defBody st__law_key) (defScope st__law_key) [] [] (ad 26) (fd 26)
  kb__law_key_2 : KBd K (fd 26) ["_law_p", "_law_q"] 2 [] (fun us _ => us)
  m__law_gcd : mg "_law_gcd" = some (.ref (ad 27))
  k__law_gcd : PySem.W.keepIn K (.ref (ad 27)) = true
  F__law_gcd : FunD K "_law_gcd" "_law_gcd" (defArgs st__law_gcd) (defBody st__law_gcd) (defScope st__law_gcd) [] [] (ad 27) (fd 27)
  kb__law_gcd_2 : KBd K (fd 27) ["_law_a", "_law_b"] 2 [] (fun us _ => us)
  m__law_frac : mg "_law_frac" = some (.ref (ad 28))
  k__law_frac : PySem.W.keepIn K (.ref (ad 28)) = true
  F__law_frac : FunD K "_law_frac" "_law_frac" (defArgs st__law_frac) (defBody st__law_frac) (defScope st__law_frac) [] [] (ad 28) (fd 28)
  kb__law_frac_2 : KBd K (fd 28) ["_law_a", "_law_b"] 2 [] (fun us _ => us)
  m__law_pair_text : mg "_law_pair_text" = some (.ref (ad 29))
  k__law_pair_text : PySem.W.keepIn K (.ref (ad 29)) = true
  F__law_pair_text : FunD K "_law_pair_text" "_law_pair_text" (defArgs st__law_pair_text) (defBody st__law_pair_text) (defScope st__law_pair_text) [] [] (ad 29) (fd 29)
  kb__law_pair_text_1 : KBd K (fd 29) ["_law_pair"] 1 [] (fun us _ => us)
  m__law_side_text : mg "_law_side_text" = some (.ref (ad 30))
  k__law_side_text : PySem.W.keepIn K (.ref (ad 30)) = true
  F__law_side_text : FunD K "_law_side_text" "_law_side_text" (defArgs st__law_side_text) (defBody st__law_side_text) (defScope st__law_side_text) [] [] (ad 30) (fd 30)
  kb__law_side_text_1 : KBd K (fd 30) ["_law_edge"] 1 [] (fun us _ => us)
  m__law_text : mg "_law_text" = some (.ref (ad 31))
  k__law_text : PySem.W.keepIn K (.ref (ad 31)) = true
  F__law_text : FunD K "_law_text" "_law_text" (defArgs st__law_text) (defBody st__law_text) (defScope st__law_text) [] [] (ad 31) (fd 31)
  kb__law_text_1 : KBd K (fd 31) ["_law_p"] 1 [] (fun us _ => us)
  m__law_spot_text : mg "_law_spot_text" = some (.ref (ad 32))
  k__law_spot_text : PySem.W.keepIn K (.ref (ad 32)) = true
  F__law_spot_text : FunD K "_law_spot_text" "_law_spot_text" (defArgs st__law_spot_text) (defBody st__law_spot_text) (defScope st__law_spot_text) [] [] (ad 32) (fd 32)
  kb__law_spot_text_1 : KBd K (fd 32) ["_law_spot"] 1 [] (fun us _ => us)
  m__law_sort : mg "_law_sort" = some (.ref (ad 33))
  k__law_sort : PySem.W.keepIn K (.ref (ad 33)) = true
  F__law_sort : FunD K "_law_sort" "_law_sort" (defArgs st__law_sort) (defBody st__law_sort) (defScope st__law_sort) [] [] (ad 33) (fd 33)
  kb__law_sort_1 : KBd K (fd 33) ["_law_thing"] 1 [] (fun us _ => us)
  m__law_same : mg "_law_same" = some (.ref (ad 34))
  k__law_same : PySem.W.keepIn K (.ref (ad 34)) = true
  F__law_same : FunD K "_law_same" "_law_same" (defArgs st__law_same) (defBody st__law_same) (defScope st__law_same) [] [] (ad 34) (fd 34)
  kb__law_same_2 : KBd K (fd 34) ["_law_found", "_law_due"] 2 [] (fun us _ => us)
  m__law_ratio : mg "_law_ratio" = some (.ref (ad 35))
  k__law_ratio : PySem.W.keepIn K (.ref (ad 35)) = true
  F__law_ratio : FunD K "_law_ratio" "_law_ratio" (defArgs st__law_ratio) (defBody st__law_ratio) (defScope st__law_ratio) [] [] (ad 35) (fd 35)
  kb__law_ratio_1 : KBd K (fd 35) ["_law_p"] 1 [] (fun us _ => us)
  m__law_made_place : mg "_law_made_place" = some (.ref (ad 36))
  k__law_made_place : PySem.W.keepIn K (.ref (ad 36)) = true
  F__law_made_place : FunD K "_law_made_place" "_law_made_place" (defArgs st__law_made_place) (defBody st__law_made_place) (defScope st__law_made_place) [] [] (ad 36) (fd 36)
  kb__law_made_place_1 : KBd K (fd 36) ["_law_spot"] 1 [] (fun us _ => us)
  m__law_bent_text : mg "_law_bent_text" = some (.ref (ad 37))
  k__law_bent_text : PySem.W.keepIn K (.ref (ad 37)) = true
  F__law_bent_text : FunD K "_law_bent_text" "_law_bent_text" (defArgs st__law_bent_text) (defBody st__law_bent_text) (defScope st__law_bent_text) [] [] (ad 37) (fd 37)
  kb__law_bent_text_2 : KBd K (fd 37) ["_law_bag", "_law_text_z"] 2 [] (fun us _ => us)
  m__law_number_in : mg "_law_number_in" = some (.ref (ad 38))
  k__law_number_in : PySem.W.keepIn K (.ref (ad 38)) = true
  F__law_number_in : FunD K "_law_number_in" "_law_number_in" (defArgs st__law_number_in) (defBody st__law_number_in) (defScope st__law_number_in) [] [] (ad 38) (fd 38)
  kb__law_number_in_1 : KBd K (fd 38) ["_law_word"] 1 [] (fun us _ => us)
  m__law_signed : mg "_law_signed" = some (.ref (ad 39))
  k__law_signed : PySem.W.keepIn K (.ref (ad 39)) = true
  F__law_signed : FunD K "_law_signed" "_law_signed" (defArgs st__law_signed) (defBody st__law_signed) (defScope st__law_signed) [] [] (ad 39) (fd 39)
  kb__law_signed_1 : KBd K (fd 39) ["_law_word"] 1 [] (fun us _ => us)
  m__law_pair_in : mg "_law_pair_in" = some (.ref (ad 40))
  k__law_pair_in : PySem.W.keepIn K (.ref (ad 40)) = true
  F__law_pair_in : FunD K "_law_pair_in" "_law_pair_in" (defArgs st__law_pair_in) (defBody st__law_pair_in) (defScope st__law_pair_in) [] [] (ad 40) (fd 40)
  kb__law_pair_in_1 : KBd K (fd 40) ["_law_word"] 1 [] (fun us _ => us)
  m__law_side_in : mg "_law_side_in" = some (.ref (ad 41))
  k__law_side_in : PySem.W.keepIn K (.ref (ad 41)) = true
  F__law_side_in : FunD K "_law_side_in" "_law_side_in" (defArgs st__law_side_in) (defBody st__law_side_in) (defScope st__law_side_in) [] [] (ad 41) (fd 41)
  kb__law_side_in_1 : KBd K (fd 41) ["_law_word"] 1 [] (fun us _ => us)
  m__law_read : mg "_law_read" = some (.ref (ad 42))
  k__law_read : PySem.W.keepIn K (.ref (ad 42)) = true
  F__law_read : FunD K "_law_read" "_law_read" (defArgs st__law_read) (defBody st__law_read) (defScope st__law_read) [] [] (ad 42) (fd 42)
  kb__law_read_1 : KBd K (fd 42) ["_law_text_z"] 1 [] (fun us _ => us)
  m__law_spot_in : mg "_law_spot_in" = some (.ref (ad 43))
  k__law_spot_in : PySem.W.keepIn K (.ref (ad 43)) = true
  F__law_spot_in : FunD K "_law_spot_in" "_law_spot_in" (defArgs st__law_spot_in) (defBody st__law_spot_in) (defScope st__law_spot_in) [] [] (ad 43) (fd 43)
  kb__law_spot_in_1 : KBd K (fd 43) ["_law_word"] 1 [] (fun us _ => us)
  m__law_of_ratio : mg "_law_of_ratio" = some (.ref (ad 44))
  k__law_of_ratio : PySem.W.keepIn K (.ref (ad 44)) = true
  F__law_of_ratio : FunD K "_law_of_ratio" "_law_of_ratio" (defArgs st__law_of_ratio) (defBody st__law_of_ratio) (defScope st__law_of_ratio) [] [] (ad 44) (fd 44)
  kb__law_of_ratio_1 : KBd K (fd 44) ["_law_found"] 1 [] (fun us _ => us)
  m__law_of_place : mg "_law_of_place" = some (.ref (ad 45))
  k__law_of_place : PySem.W.keepIn K (.ref (ad 45)) = true
  F__law_of_place : FunD K "_law_of_place" "_law_of_place" (defArgs st__law_of_place) (defBody st__law_of_place) (defScope st__law_of_place) [] [] (ad 45) (fd 45)
  kb__law_of_place_1 : KBd K (fd 45) ["_law_found"] 1 [] (fun us _ => us)
  m__law_joined_rows : mg "_law_joined_rows" = some (.ref (ad 46))
  k__law_joined_rows : PySem.W.keepIn K (.ref (ad 46)) = true
  F__law_joined_rows : FunD K "_law_joined_rows" "_law_joined_rows" (defArgs st__law_joined_rows) (defBody st__law_joined_rows) (defScope st__law_joined_rows) [] [] (ad 46) (fd 46)
  kb__law_joined_rows_1 : KBd K (fd 46) ["_law_rows"] 1 [] (fun us _ => us)
  m__law_of_places : mg "_law_of_places" = some (.ref (ad 47))
  k__law_of_places : PySem.W.keepIn K (.ref (ad 47)) = true
  F__law_of_places : FunD K "_law_of_places" "_law_of_places" (defArgs st__law_of_places) (defBody st__law_of_places) (defScope st__law_of_places) [] [] (ad 47) (fd 47)
  kb__law_of_places_1 : KBd K (fd 47) ["_law_found"] 1 [] (fun us _ => us)
  m_law : mg "law" = some (.ref (ad 48))
  k_law : PySem.W.keepIn K (.ref (ad 48)) = true
  F_law : FunD K "law" "law" (defArgs st_law) (defBody st_law) (defScope st_law) [] [] (ad 48) (fd 48)
  b_abs : mg "abs" = none
  b_all : mg "all" = none
  b_bool : mg "bool" = none
  b_enumerate : mg "enumerate" = none
  b_int : mg "int" = none
  b_isinstance : mg "isinstance" = none
  b_len : mg "len" = none
  b_list : mg "list" = none
  b_range : mg "range" = none
  b_str : mg "str" = none
  b_tuple : mg "tuple" = none
  b_zip : mg "zip" = none
  c_FARTHEST : ∃ u, mg "FARTHEST" = some u ∧ KC (.int 1000000) u
  c_FIGURES : ∃ u, mg "FIGURES" = some u ∧ KC (.str "0123456789") u
  c_LONGEST : ∃ u, mg "LONGEST" = some u ∧ KC (.int 2000) u
  c_LONGEST_PAIR : ∃ u, mg "LONGEST_PAIR" = some u ∧ KC (.int 20) u
  dg : PySem.W.nsIn K cStatics "sys.int_max_str_digits" = some none
end W58
set_option Elab.async false
set_option linter.all false
set_option maxRecDepth 100000
set_option maxHeartbeats 4000000
set_option pp.deepTerms false
set_option pp.deepTerms.threshold 12
set_option pp.maxSteps 4000
namespace W58
open PySem PySem.Spec PyProof.Rows L2 DL
local macro_rules | `(tactic| walk_at "sc") => `(tactic| first | assumption | rfl | exact Nat.le_of_ble_eq_true rfl | decide | omega | exact mul_small (by omega) (by omega) | exact mul_smallR (by omega) (by omega) | exact ⟨by decide, by decide, by decide⟩ | exact ⟨by omega, by assumption⟩ | exact ⟨by decide, log2_small (by decide) (by decide)⟩)
local macro_rules | `(tactic| walk_at "go1") => `(tactic| first | refine ⟨_, rfl, ?_⟩ | refine ⟨rfl, ?_⟩ | refine ⟨_, by assumption, ?_⟩ | refine ⟨_, mup_same, ?_⟩ | refine eqI ?_ | refine neI ?_ | refine iteT ?_ | refine iteF ?_ | refine ⟨(by walk_at "sc"), ?_⟩)
local macro_rules | `(tactic| walk_at "go") => `(tactic| repeat walk_at "go1")

/-- a ratio -/
def rat (cl : Nat → Addr) (a b : Int) : D := .obj (cl 0) [("own_top", .int a), ("own_bottom", .int b)]
def Lg (n : Int) : Prop := n.natAbs.log2 < 8000
theorem mul_lg {i j : Int} (h1 : Lg i) (h2 : Lg j) : DL.MulOk i j := .inr (by unfold CMulW; unfold Lg at h1 h2; omega)
theorem fmod_lt' {i j : Int} (h : 0 < j) : 0 ≤ i.fmod j ∧ i.fmod j < j := by
  rw [Int.fmod_eq_emod_of_nonneg _ (Int.le_of_lt h)]
  exact ⟨Int.emod_nonneg _ (by omega), Int.emod_lt_of_pos _ h⟩
theorem gcd_step {x y : Int} (h : 0 < y) : Int.gcd y (x.fmod y) = Int.gcd x y := by
  rw [Int.fmod_eq_emod_of_nonneg _ (Int.le_of_lt h), Int.emod_def, Int.gcd_comm]
  rw [show x - y * (x / y) = x - (x / y) * y by rw [Int.mul_comm]]
  exact RT.gcd_sub
theorem log2_mono {a b : Nat} (h : a ≤ b) (hb : 0 < b) : a.log2 ≤ b.log2 := by
  by_cases z : a = 0
  · subst z; simp
  · exact (Nat.le_log2 (by omega)).mpr (Nat.le_trans (Nat.log2_self_le z) h)
theorem gcd_div {a b : Int} (h : b ≠ 0) (hb : Lg b) : DL.DivOk 0 (Int.gcd a b) ∧ DL.DivOk 0 (-(Int.gcd a b : Int)) := by
  have g0 := RT.gcd_pos (a := a) h
  have l : Int.gcd a b ≤ b.natAbs := Nat.le_of_dvd (by omega) (Int.gcd_dvd_natAbs_right a b)
  have l2 := log2_mono l (by omega)
  unfold Lg at hb
  refine ⟨⟨by omega, ?_⟩, ⟨by omega, ?_⟩⟩
  · rw [Int.natAbs_natCast]; omega
  · rw [Int.natAbs_neg, Int.natAbs_natCast]; omega
theorem abs_eq (a : Int) : (if a < 0 then -a else a) = (a.natAbs : Int) := by split <;> omega
theorem gcd_abs (a b : Int) : Int.gcd (a.natAbs : Int) (b.natAbs : Int) = Int.gcd a b := by
  show Nat.gcd _ _ = Nat.gcd _ _
  rw [Int.natAbs_natCast, Int.natAbs_natCast]
/-- a number that is not too great -/
def Sm (n : Int) : Prop := n.natAbs < 2 ^ 1000
theorem Sm.lg {n : Int} (h : Sm n) : Lg n := by
  unfold Lg
  by_cases z : n.natAbs = 0
  · rw [z]; decide
  · exact Nat.lt_trans ((Nat.log2_lt z).mpr h) (by decide)
theorem Sm.mul {a b : Int} (h1 : Sm a) (h2 : Sm b) : DL.MulOk a b := mul_lg h1.lg h2.lg
theorem Sm.lgm {a b : Int} (h1 : Sm a) (h2 : Sm b) : Lg (a * b) := by
  unfold Lg
  by_cases z : (a * b).natAbs = 0
  · rw [z]; decide
  · refine Nat.lt_of_lt_of_le ((Nat.log2_lt z).mpr ?_) (show 2000 ≤ 8000 by decide)
    rw [Int.natAbs_mul, show (2000 : Nat) = 1000 + 1000 from rfl, Nat.pow_add]
    exact Nat.mul_lt_mul'' h1 h2
theorem Sm.of {n B : Int} (h0 : 0 ≤ n) (h1 : n ≤ B) (hB : B < 2 ^ 1000) : Sm n := by
  unfold Sm
  have : (n.natAbs : Int) < (2 : Int) ^ 1000 := by omega
  exact_mod_cast this
theorem sm_one : Sm 1 := by unfold Sm; decide
theorem lg_one : Lg 1 := by unfold Lg; decide
theorem sm_le {n : Int} (h0 : -(10 ^ 40) ≤ n) (h1 : n ≤ 10 ^ 40) : Sm n := by
  unfold Sm
  omega
theorem mup_of {M : Mm} {p : Addr} {o : MO} (hm : M p = some o) : M = mup M p o := by
  funext a
  unfold mup
  split
  · rename_i e; rw [e]; exact hm
  · rfl
open TX TL in
theorem itlenB {a : Int} (h : a.natAbs < 10 ^ 4300) : (Str.ofString (toString a)).length ≤ 4301 := by
  have := PySem.int_text_length_le10 (a := a) (k := 4300) (by decide) h
  rw [PySem.ofString_length]
  exact this
theorem size_big : 100000 ≤ sizeLine := by decide
theorem l_sl : (Str.ofString "/").length = 1 := by decide +kernel
theorem txS_len {a b : Int} (ha : a.natAbs < 10 ^ 4300) (hb : b.natAbs < 10 ^ 4300) : (TX.txS a b).length ≤ 8700 := by
  unfold TX.txS
  have h1 := itlenB ha
  have h2 := itlenB hb
  have h3 := l_sl
  clear ha hb
  split
  · omega
  · rw [Str.length_append, Str.length_append]
    omega
def ph_is_number : Ct := fun ds M k _ => ∃ u v, ds = [u] ∧ kd u = some v ∧ k (.bl (decide (v = .int))) M
theorem numK {i : Int} {M : Mm} {k : DK} {x : DX} (q : k (.bl true) M) : ph_is_number [.int i] M k x := ⟨_, _, rfl, rfl, q⟩
theorem ok_is_number {K : PySem.W.Frag} {mg : Str → Option Value} {ad : Nat → Addr} {fd : Nat → FuncData} {cl : Nat → Addr} {P : Program} {w : World} {base : Heap} (T : Txt K mg ad fd cl) : FnOk P w K mg base (L2.CX P w) 1 (ad 0) (fd 0) ["value"] (spD K 1 ph_is_number) := by
  refine fn_D T.F_is_number sc_is_number rfl fun cdv A outer s H E hr hp ho => ⟨_, (b_one (s_ret (d_and (d_isi .int (CS cl) (by decide) T.isi_int rfl T.b_isinstance rfl T.b_int (by decide +kernel) (dv 0)) (d_one (d_not (d_isi .bl (CS cl) (by decide) T.isi_bool rfl T.b_isinstance rfl T.b_bool (by decide +kernel) (dv 0))))))), ?_⟩
  clear hp ho hr
  rintro ds M k x hl ⟨u, v, rfl, hv, q⟩
  cases u <;> cases hv <;> (walk_at "go"; exact q)
def ph_common_divisor : Ct := fun ds M k _ => ∃ a b : Int, ds = [.int a, .int b] ∧ 0 ≤ a ∧ 0 ≤ b ∧ k (.int (Int.gcd a b)) M
theorem ok_common_divisor {K : PySem.W.Frag} {mg : Str → Option Value} {ad : Nat → Addr} {fd : Nat → FuncData} {cl : Nat → Addr} {P : Program} {w : World} {base : Heap} (T : Txt K mg ad fd cl) : FnOk P w K mg base (L2.CX P w) 1 (ad 1) (fd 1) ["one", "other"] (spD K 2 ph_common_divisor) := by
  refine fn_D T.F_common_divisor sc_common_divisor rfl fun cdv A outer s H E hr hp ho => ⟨_, (b_cons (s_while ho (t_cmp o_gt (dv 1) d_int (nomark _))
  (b_one (s_par (i := 0) (j := 1) rfl sc_common_divisor.nd rfl rfl (by decide) rfl rfl (a_cons (dv 1) (a_cons (d_op o_mod (dv 0) (dv 1)) a_nil)) rfl)))
  (b_one (s_ret (dv 0)))), ?_⟩
  clear hp ho hr
  rintro ds M k x hl ⟨a, b, rfl, ha, hb, q⟩
  refine WhK.of (fun m ρ M' => ∃ x y : Int, M' = M ∧ ρ = [some (.int x), some (.int y)] ∧ 0 ≤ x ∧ 0 ≤ y ∧ Int.gcd x y = Int.gcd a b ∧ m = y.toNat) ⟨_, a, b, rfl, rfl, ha, hb, rfl, rfl⟩ ?_
  rintro m ρ M' ⟨x, y, rfl, rfl, hx, hy, hg, rfl⟩
  refine ⟨_, rfl, _, rfl, ?_⟩
  refine ite_b (fun e => ?_) (fun e => ?_)
  · have e := of_decide_eq_true e
    have f := fmod_lt' (i := x) e
    refine ⟨_, rfl, _, rfl, _, rfl, by show y ≠ 0; omega, _, _, rfl, _, ?_, y, x.fmod y, rfl, rfl, hy, f.1, (gcd_step e).trans hg, rfl⟩
    omega
  · have e : ¬ (0 < y) := of_decide_eq_false e
    have z : y = 0 := by omega
    subst z
    have : (Int.gcd a b : Int) = x := by rw [← hg, Int.gcd_zero_right]; omega
    refine ⟨_, rfl, ?_⟩
    rw [← this]
    exact q
def ph_figures_number : Ct := fun ds M k _ => ∃ z : Str, ds = [.str z] ∧ z.length ≤ 4300 ∧ (∀ n : Nat, TL.tl z = TL.numL n → k (.int n) M) ∧ ((∀ n : Nat, TL.tl z ≠ TL.numL n) → k .non M)
theorem ok_figures_number {K : PySem.W.Frag} {mg : Str → Option Value} {ad : Nat → Addr} {fd : Nat → FuncData} {cl : Nat → Addr} {P : Program} {w : World} {base : Heap} (T : Txt K mg ad fd cl) : FnOk P w K mg base (L2.CX P w) 1 (ad 2) (fd 2) ["text"] (spD K 1 ph_figures_number) := by
  refine fn_D T.F_figures_number sc_figures_number rfl fun cdv A outer s H E hr hp ho => ⟨_, (b_cons (s_if (DPW.t (w_or (t_cmp (o_eq hr.units) (dv 0) d_str (nomark _)) (w_or (t_not (t_val (d_callB (c_all rfl) rfl T.b_all boot_all' (a_cons (d_lc (own := [("sign", 1)]) rfl sc_figures_number.nd (i_seq (dv 0)) (blkOk_by (own := [("sign", 1)]) (N := ["text", "sign"]) (sc := (defScope st_figures_number)) (by decide +kernel)) (gp_name (by decide)) (fun _ _ _ _ _ => (pg_name (i := 1) sc_figures_number.nd rfl (Or.inl rfl))) (fun _ _ _ _ _ => ts_nil) (fun _ _ _ _ _ => (d_cmp o_in (dv 1) (d_globE rfl T.c_FIGURES) rfl))) a_nil)))) (w_or1 (DPW.t (w_and (t_cmp o_gt (d_callB c_len rfl T.b_len boot_len' (a_cons (dv 0) a_nil)) d_int (nomark _)) (w_and1 (t_cmp (o_eq hr.units) (d_ix x_ix (dv 0) d_int (fun _ _ => rfl)) d_str (nomark _))))))))) (b_one (s_ret d_non)) b_nil)
  (b_one (s_ret (d_callTy (c_orN (c_intS T.dg) c_int) rfl T.b_int boot_int' (a_cons (dv 0) a_nil))))), ?_⟩
  clear hp ho hr
  rintro ds M k x hl ⟨z, rfl, hz, q1, q2⟩
  have big := size_big
  have hz2 : z.length ≤ sizeLine := by omega
  have hlen : z.cps.toList.length = z.length := by simp [Str.length]
  have all_ : ∀ {K : DK} {vs : List Nat} {ρ : DEnv} {i : Nat} {τ : DE}, (∀ (c : Nat) (k : DK), k (.bl (decide (c ∈ (Str.ofString "0123456789").cps.toList))) M → τ ((wipeD ρ vs).set i (some (.str ⟨#[c]⟩))) M k (fun _ _ _ => False)) → K (.lst ((z.cps.toList.map fun c => decide (48 ≤ c ∧ c ≤ 57)).map .bl)) M → LcK (gN i) dYes τ vs ρ (DL.signs z) M K := by
    intro K vs ρ i τ hτ hK
    have hs : (DL.signs z).length < sizeLine := by
      unfold DL.signs
      rw [List.length_map, hlen]
      omega
    refine lc_map (fun d => match d with | .str y => .bl (decide (48 ≤ y.cps.toList.headD 0 ∧ y.cps.toList.headD 0 ≤ 57)) | _ => .non) hs (fun d hd K hK => ?_) (fun d K K' => gN_mono K K') ?_
    · unfold DL.signs at hd
      obtain ⟨c, _, rfl⟩ := List.mem_map.mp hd
      refine hτ c _ ?_
      rw [decide_eq_decide.mpr TX.fig_mem]
      exact hK
    · unfold DL.signs
      rw [List.map_map]
      rw [List.map_map] at hK
      exact hK
  have head_ : ∀ {c : Nat} {r : List Nat}, z.cps.toList = c :: r → atI z.cps.toList 0 = some c := fun {c r} e => by rw [e]; exact atI_nat (xs := c :: r) (j := 0) (v := c) rfl
  refine ⟨_, rfl, .of (eqD_str _ _) ⟨_, rfl, ?_⟩⟩
  by_cases e0 : z = Str.ofString ""
  · rw [decide_eq_true e0]
    refine iteT ?_
    refine q2 fun n hn => ?_
    subst e0
    exact absurd hn.symm (TL.numL_ne n)
  · rw [decide_eq_false e0]
    refine iteF ?_
    have ne : z.cps.toList ≠ [] := fun w => e0 (TL.ext_tl (by show z.cps.toList = _; rw [w]; decide +kernel))
    obtain ⟨c, r, hc⟩ : ∃ c r, z.cps.toList = c :: r := by
      cases w : z.cps.toList with
      | nil => exact absurd w ne
      | cons c r => exact ⟨c, r, rfl⟩
    refine ⟨_, rfl, all_ (fun c k hk => ⟨_, rfl, c, rfl, hk⟩) ⟨_, rfl, _, rfl, ?_⟩⟩
    by_cases e1 : NumText.AllDigits (TL.tl z)
    · have ea : ((z.cps.toList.map fun c => decide (48 ≤ c ∧ c ≤ 57)).all id) = true := by
        rw [List.all_map, List.all_eq_true]
        intro c hc
        exact decide_eq_true (e1 c hc)
      rw [ea]
      refine iteF ?_
      refine ⟨_, rfl, hz2, _, rfl, ?_⟩
      have fin : (z.cps.toList.length = 1 ∨ ∃ c r, z.cps.toList = c :: r ∧ 49 ≤ c) → k (.int (NumText.digitsVal (TL.tl z) : Nat)) M := fun h => q1 _ (TX.numL_back e1 ne h).symm
      have run : ∀ {K : Prop}, (k (.int (NumText.digitsVal (TL.tl z) : Nat)) M → K) → True := fun _ => True.intro
      have num : (z.cps.toList.length = 1 ∨ ∃ c r, z.cps.toList = c :: r ∧ 49 ≤ c) → PySem.intText? z = some ((NumText.digitsVal (TL.tl z) : Nat) : Int) := fun h => TX.num_int (TX.numL_back e1 ne h).symm hz
      by_cases e2 : (1 : Int) < z.length
      · rw [decide_eq_true e2]
        refine iteT ?_
        refine ⟨_, rfl, hz2, c, head_ hc, .of (eqD_str _ _) ⟨_, rfl, ?_⟩⟩
        by_cases e3 : c = 48
        · subst e3
          rw [show decide ((⟨#[48]⟩ : Str) = Str.ofString "0") = true by decide +kernel]
          refine iteT ?_
          refine q2 fun n hn => ?_
          rcases TX.numL_head n with h | ⟨c', r', h, h'⟩
          · rw [← hn] at h
            have h : z.cps.toList.length = 1 := h
            omega
          · have : z.cps.toList = c' :: r' := hn.trans h
            rw [hc] at this
            cases this
            omega
        · have e4 : ¬ (⟨#[c]⟩ : Str) = Str.ofString "0" := fun w => by
            have w2 : TL.tl ⟨#[c]⟩ = TL.tl (Str.ofString "0") := congrArg TL.tl w
            rw [show TL.tl (Str.ofString "0") = [48] by decide +kernel] at w2
            have w3 : [c] = [48] := w2
            cases w3
            exact e3 rfl
          rw [decide_eq_false e4]
          refine iteF ?_
          have h : z.cps.toList.length = 1 ∨ ∃ c r, z.cps.toList = c :: r ∧ 49 ≤ c := .inr ⟨c, r, hc, by have := (e1 c (by show c ∈ z.cps.toList; rw [hc]; exact List.mem_cons_self)).1; omega⟩
          exact ⟨_, rfl, .own ⟨_, num h, hz, fin h⟩⟩
      · rw [decide_eq_false e2]
        refine iteF ?_
        have h : z.cps.toList.length = 1 ∨ ∃ c r, z.cps.toList = c :: r ∧ 49 ≤ c := .inl (by rw [hlen]; have : 0 < z.cps.toList.length := List.length_pos_iff.mpr ne; omega)
        exact ⟨_, rfl, .own ⟨_, num h, hz, fin h⟩⟩
    · have ea : ((z.cps.toList.map fun c => decide (48 ≤ c ∧ c ≤ 57)).all id) = false := by
        rw [List.all_map, List.all_eq_false]
        have : ∃ c ∈ TL.tl z, ¬ (48 ≤ c ∧ c ≤ 57) := Classical.byContradiction fun w => e1 fun c hc => Classical.byContradiction fun w2 => w ⟨c, hc, w2⟩
        obtain ⟨c, hc, h⟩ := this
        exact ⟨c, hc, by simp only [Function.comp, id]; rw [decide_eq_false h]; exact Bool.false_ne_true⟩
      rw [ea]
      refine iteT ?_
      exact q2 fun n hn => e1 (hn ▸ TL.numL_digits n)
theorem tl_cut1 (z : Str) : TL.tl (cutS z none (some 1)) = (TL.tl z).take 1 := by
  show (((z.cps.toList.drop (HT.sIx z.length 0 none)).take (HT.sIx z.length z.length (some 1) - HT.sIx z.length 0 none)).toArray).toList = z.cps.toList.take 1
  have h : HT.sIx z.length z.length (some 1) = min 1 z.length := HT.sIx_nat z.length z.length 1
  have hl : z.cps.toList.length = z.length := by simp [Str.length]
  rw [HT.sIx_none, h, List.drop_zero, Nat.sub_zero, List.toList_toArray, ← hl]
  cases z.cps.toList with
  | nil => rfl
  | cons c r => simp
theorem tl_cut2 (z : Str) : TL.tl (cutS z (some 1) none) = (TL.tl z).drop 1 := by
  show (((z.cps.toList.drop (HT.sIx z.length 0 (some 1))).take (HT.sIx z.length z.length none - HT.sIx z.length 0 (some 1))).toArray).toList = z.cps.toList.drop 1
  have h : HT.sIx z.length 0 (some 1) = min 1 z.length := HT.sIx_nat z.length 0 1
  have hl : z.cps.toList.length = z.length := by simp [Str.length]
  rw [HT.sIx_none, h, List.toList_toArray, ← hl]
  cases z.cps.toList with
  | nil => rfl
  | cons c r => simp
theorem minus_iff (z : Str) : cutS z none (some 1) = Str.ofString "-" ↔ ∃ r, TL.tl z = 45 :: r := by
  have e : TL.tl (Str.ofString "-") = [45] := by decide +kernel
  constructor
  · intro h
    have h2 := congrArg TL.tl h
    rw [tl_cut1, e] at h2
    cases w : TL.tl z with
    | nil => rw [w] at h2; cases h2
    | cons c r => rw [w] at h2; cases h2; exact ⟨r, rfl⟩
  · rintro ⟨r, h⟩
    exact TL.ext_tl (by rw [tl_cut1, e, h]; rfl)
theorem tl_m0 : TL.tl (Str.ofString "-0") = [45, 48] := by decide +kernel
theorem numL0 : TL.numL 0 = [48] := by decide +kernel
def ph_signed_number : Ct := fun ds M k _ => ∃ z : Str, ds = [.str z] ∧ z.length ≤ 4300 ∧ (∀ i : Int, TL.tl z = TX.intL i → k (.int i) M) ∧ ((∀ i : Int, TL.tl z ≠ TX.intL i) → k .non M)
theorem ok_signed_number {K : PySem.W.Frag} {mg : Str → Option Value} {ad : Nat → Addr} {fd : Nat → FuncData} {cl : Nat → Addr} {P : Program} {w : World} {base : Heap} (T : Txt K mg ad fd cl) : FnOk P w K mg base (L2.CX P w) 3 (ad 3) (fd 3) ["text"] (spD K 1 ph_signed_number) := by
  have G_figures_number := ok_figures_number (P := P) (w := w) (base := base) T
  refine fn_D T.F_signed_number sc_signed_number rfl fun cdv A outer s H E hr hp ho => ⟨_, (b_cons (s_set (i := 1) sc_signed_number.nd rfl (Or.inl rfl) (d_call G_figures_number (hr.mono (by decide)) rfl T.m_figures_number T.k_figures_number T.kb_figures_number_1 (by intro _ _ h _; exact h) hp (a_cons (d_if (t_cmp (o_eq hr.units) (d_slice sl_D (dv 0) o_none (o_some d_int)) d_str (nomark _)) (d_slice sl_D (dv 0) (o_some d_int) o_none) (dv 0)) a_nil)))
  (b_cons (s_if (DPW.t (w_or (t_cmp o_isN (dv 1) d_non (nomark _)) (w_or1 (t_cmp (o_eq hr.units) (dv 0) d_str (nomark _))))) (b_one (s_ret d_non)) b_nil)
  (b_one (s_ret (d_if (t_cmp (o_eq hr.units) (d_slice sl_D (dv 0) o_none (o_some d_int)) d_str (nomark _)) (d_un o_neg (dv 1)) (dv 1)))))), ?_⟩
  clear hp ho hr G_figures_number
  rintro ds M k x hl ⟨z, rfl, hz, q1, q2⟩
  have big := size_big
  have hz2 : z.length ≤ sizeLine := by omega
  refine ⟨_, rfl, _, rfl, hz2, .of (eqD_str _ _) ⟨_, rfl, ?_⟩⟩
  by_cases hm : ∃ r, TL.tl z = 45 :: r
  · rw [decide_eq_true ((minus_iff z).mpr hm)]
    refine iteT ?_
    obtain ⟨r, hr⟩ := hm
    have hr2 : TL.tl (cutS z (some 1) none) = r := by rw [tl_cut2, hr]; rfl
    refine ⟨_, rfl, _, rfl, hz2, rfl, _, rfl, Nat.le_trans (cutS_length _ _ _) hz, fun n hn => ?_, fun hn => ?_⟩
    · rw [hr2] at hn
      refine ⟨_, rfl, rfl, _, rfl, iteF ?_⟩
      refine ⟨_, rfl, .of (eqD_str _ _) ⟨_, rfl, ?_⟩⟩
      by_cases n0 : n = 0
      · have : z = Str.ofString "-0" := TL.ext_tl (by rw [hr, hn, n0, tl_m0, numL0])
        rw [decide_eq_true this]
        refine iteT ?_
        refine q2 fun i hi => ?_
        rw [hr, hn, n0] at hi
        by_cases h : 0 ≤ i
        · rw [TX.intL_pos h] at hi
          exact TX.num_no45 _ _ hi.symm
        · rw [TX.intL_neg (by omega)] at hi
          have := TL.numL_inj (List.cons.inj hi).2
          omega
      · have : ¬ z = Str.ofString "-0" := fun w => n0 (TL.numL_inj (by
          have := congrArg TL.tl w
          rw [hr, hn, tl_m0] at this
          rw [(List.cons.inj this).2, numL0]))
        rw [decide_eq_false this]
        refine iteF ?_
        refine ⟨_, rfl, _, rfl, hz2, .of (eqD_str _ _) ⟨_, rfl, ?_⟩⟩
        rw [decide_eq_true ((minus_iff z).mpr ⟨r, hr⟩)]
        refine iteT ?_
        refine ⟨_, rfl, q1 (-n) ?_⟩
        rw [TX.intL_neg (by omega), hr, hn]
        congr 2
        omega
    · refine ⟨_, rfl, rfl, _, rfl, iteT ?_⟩
      refine q2 fun i hi => ?_
      rw [hr] at hi
      by_cases h : 0 ≤ i
      · rw [TX.intL_pos h] at hi
        exact TX.num_no45 _ _ hi.symm
      · rw [TX.intL_neg (by omega)] at hi
        exact hn _ (hr2.trans (List.cons.inj hi).2)
  · rw [decide_eq_false (fun w => hm ((minus_iff z).mp w))]
    refine iteF ?_
    refine ⟨_, rfl, rfl, _, rfl, hz, fun n hn => ?_, fun hn => ?_⟩
    · refine ⟨_, rfl, rfl, _, rfl, iteF ?_⟩
      refine ⟨_, rfl, .of (eqD_str _ _) ⟨_, rfl, ?_⟩⟩
      have : ¬ z = Str.ofString "-0" := fun w => hm ⟨[48], by rw [w, tl_m0]⟩
      rw [decide_eq_false this]
      refine iteF ?_
      refine ⟨_, rfl, _, rfl, hz2, .of (eqD_str _ _) ⟨_, rfl, ?_⟩⟩
      rw [decide_eq_false (fun w => hm ((minus_iff z).mp w))]
      refine iteF ?_
      exact ⟨_, rfl, q1 n (by rw [TX.intL_pos (by omega), hn]; rfl)⟩
    · refine ⟨_, rfl, rfl, _, rfl, iteT ?_⟩
      refine q2 fun i hi => ?_
      by_cases h : 0 ≤ i
      · rw [TX.intL_pos h] at hi
        exact hn _ hi
      · rw [TX.intL_neg (by omega)] at hi
        exact hm ⟨_, hi⟩
def ph_Ratio___init__ (cl : Nat → Addr) : Ct := fun ds M k _ => ∃ (p : Addr) (a b : Int), ds = [.cel p, .int a, .int b] ∧ M p = some (.ins (cl 0) []) ∧ b ≠ 0 ∧ Lg b ∧ k .non (mup M p (.ins (cl 0) [("own_top", .int (RT.nrm a b).1), ("own_bottom", .int (RT.nrm a b).2)]))
section
variable {cl : Nat → Addr} {M : Mm} {k : DK} {x : DX} {a b c d : Int}
/-- Ratio(a, b) -/
theorem mkR {gD : List D → List D → List D} {ds zs : List D} (h : ∀ p, gD (.cel p :: ds) zs = [.cel p, .int a, .int b]) (hb : b ≠ 0) (lb : Lg b) (q : k (rat cl (RT.nrm a b).1 (RT.nrm a b).2) M) : mkC (cl 0) (ph_Ratio___init__ cl) gD ds zs M k x := by
  intro p hp
  refine ⟨p, a, b, h p, mup_same, hb, lb, rfl, _, mup_same, ?_⟩
  rw [mup_mup, mdel_mup hp]
  exact q
end
theorem ok_Ratio___init__ {K : PySem.W.Frag} {mg : Str → Option Value} {ad : Nat → Addr} {fd : Nat → FuncData} {cl : Nat → Addr} {P : Program} {w : World} {base : Heap} (T : Txt K mg ad fd cl) : FnOk P w K mg base (L2.CX P w) 3 (ad 4) (fd 4) ["self", "top", "bottom"] (spD K 3 (ph_Ratio___init__ cl)) := by
  have G_is_number := ok_is_number (P := P) (w := w) (base := base) T
  have G_common_divisor := ok_common_divisor (P := P) (w := w) (base := base) T
  refine fn_D T.F_Ratio___init__ sc_Ratio___init__ rfl fun cdv A outer s H E hr hp ho => ⟨_, (b_cons (s_if (DPW.t (w_or (t_not (t_val (d_call G_is_number (hr.mono (by decide)) rfl T.m_is_number T.k_is_number T.kb_is_number_1 (by intro _ _ h _; exact h) hp (a_cons (dv 1) a_nil)))) (w_or (t_not (t_val (d_call G_is_number (hr.mono (by decide)) rfl T.m_is_number T.k_is_number T.kb_is_number_1 (by intro _ _ h _; exact h) hp (a_cons (dv 2) a_nil)))) (w_or1 (t_cmp (o_eq hr.units) (dv 2) d_int (nomark _)))))) (b_one s_never) b_nil)
  (b_cons (s_set (i := 3) sc_Ratio___init__.nd rfl (Or.inl rfl) (d_call G_common_divisor (hr.mono (by decide)) rfl T.m_common_divisor T.k_common_divisor T.kb_common_divisor_2 (by intro _ _ h _; exact h) hp (a_cons (d_callB c_abs rfl T.b_abs boot_abs' (a_cons (dv 1) a_nil)) (a_cons (d_callB c_abs rfl T.b_abs boot_abs' (a_cons (dv 2) a_nil)) a_nil))))
  (b_cons (s_if (t_cmp o_lt (dv 2) d_int (nomark _)) (b_one (s_set (i := 3) sc_Ratio___init__.nd rfl (Or.inl rfl) (d_un o_neg (dv 3)))) b_nil)
  (b_cons (s_fld [cl 0] (one_cls T.ci_Ratio.cl T.na_Ratio_own_top) (d_op o_fdiv (dv 1) (dv 3)) (dv 0) rfl)
  (b_one (s_fld [cl 0] (one_cls T.ci_Ratio.cl T.na_Ratio_own_bottom) (d_op o_fdiv (dv 2) (dv 3)) (dv 0) rfl)))))), ?_⟩
  clear hp ho hr G_is_number G_common_divisor
  rintro ds M k x hl ⟨p, a, b, rfl, hm, hb, lb, q⟩
  refine ⟨_, rfl, rfl, numK ⟨_, rfl, iteF ?_⟩⟩
  refine ⟨_, rfl, rfl, numK ⟨_, rfl, iteF ?_⟩⟩
  refine ⟨_, rfl, eqI ⟨_, rfl, ?_⟩⟩
  rw [decide_eq_false hb]
  refine iteF ?_
  obtain ⟨g1, g2⟩ := gcd_div (a := a) hb lb
  refine ⟨_, rfl, _, rfl, rfl, _, _, rfl, ?_, ?_, ?_⟩
  · rw [abs_eq]; omega
  · rw [abs_eq]; omega
  rw [abs_eq, abs_eq, gcd_abs]
  refine ⟨_, rfl, _, rfl, ?_⟩
  refine ite_b (fun e => ?_) (fun e => ?_)
  · have e := of_decide_eq_true e
    refine ⟨_, rfl, ?_⟩
    refine ⟨_, rfl, _, rfl, g2, _, rfl, p, _, _, rfl, hm, .head _, Nat.le_of_ble_eq_true rfl, ?_⟩
    refine ⟨_, rfl, _, rfl, g2, _, rfl, p, _, _, rfl, mup_same, .head _, Nat.le_of_ble_eq_true rfl, ?_⟩
    rw [mup_mup]
    have en : RT.nrm a b = (a.fdiv (-(Int.gcd a b : Int)), b.fdiv (-(Int.gcd a b : Int))) := by
      unfold RT.nrm
      rw [if_pos e, Int.zero_sub]
    rw [en] at q
    exact q
  · have e : ¬ b < 0 := of_decide_eq_false e
    refine ⟨_, rfl, _, rfl, g1, _, rfl, p, _, _, rfl, hm, .head _, Nat.le_of_ble_eq_true rfl, ?_⟩
    refine ⟨_, rfl, _, rfl, g1, _, rfl, p, _, _, rfl, mup_same, .head _, Nat.le_of_ble_eq_true rfl, ?_⟩
    rw [mup_mup]
    have en : RT.nrm a b = (a.fdiv (Int.gcd a b : Int), b.fdiv (Int.gcd a b : Int)) := by
      unfold RT.nrm
      rw [if_neg e]
    rw [en] at q
    exact q
def ph_Ratio_top (cl : Nat → Addr) : Ct := fun ds M k _ => ∃ a b : Int, ds = [rat cl a b] ∧ k (.int a) M
theorem ok_Ratio_top {K : PySem.W.Frag} {mg : Str → Option Value} {ad : Nat → Addr} {fd : Nat → FuncData} {cl : Nat → Addr} {P : Program} {w : World} {base : Heap} (T : Txt K mg ad fd cl) : FnOk P w K mg base (L2.CX P w) 1 (ad 5) (fd 5) ["self"] (spD K 1 (ph_Ratio_top cl)) := by
  refine fn_D T.F_Ratio_top sc_Ratio_top rfl fun cdv A outer s H E hr hp ho => ⟨_, (b_one (s_ret (d_fld [cl 0] (one_cls T.ci_Ratio.cl T.na_Ratio_own_top) (dv 0)))), ?_⟩
  clear hp ho hr
  rintro ds M k x hl ⟨a, b, rfl, q⟩
  exact ⟨_, rfl, _, _, _, rfl, .head _, rfl, q⟩
def ph_Ratio_bottom (cl : Nat → Addr) : Ct := fun ds M k _ => ∃ a b : Int, ds = [rat cl a b] ∧ k (.int b) M
theorem ok_Ratio_bottom {K : PySem.W.Frag} {mg : Str → Option Value} {ad : Nat → Addr} {fd : Nat → FuncData} {cl : Nat → Addr} {P : Program} {w : World} {base : Heap} (T : Txt K mg ad fd cl) : FnOk P w K mg base (L2.CX P w) 1 (ad 6) (fd 6) ["self"] (spD K 1 (ph_Ratio_bottom cl)) := by
  refine fn_D T.F_Ratio_bottom sc_Ratio_bottom rfl fun cdv A outer s H E hr hp ho => ⟨_, (b_one (s_ret (d_fld [cl 0] (one_cls T.ci_Ratio.cl T.na_Ratio_own_bottom) (dv 0)))), ?_⟩
  clear hp ho hr
  rintro ds M k x hl ⟨a, b, rfl, q⟩
  exact ⟨_, rfl, _, _, _, rfl, .head _, rfl, q⟩
def ph_Ratio___str__ (cl : Nat → Addr) : Ct := fun ds M k _ => ∃ a b : Int, ds = [rat cl a b] ∧ a.natAbs < 10 ^ 4300 ∧ b.natAbs < 10 ^ 4300 ∧ k (.str (TX.txS a b)) M
theorem ok_Ratio___str__ {K : PySem.W.Frag} {mg : Str → Option Value} {ad : Nat → Addr} {fd : Nat → FuncData} {cl : Nat → Addr} {P : Program} {w : World} {base : Heap} (T : Txt K mg ad fd cl) : FnOk P w K mg base (L2.CX P w) 1 (ad 7) (fd 7) ["self"] (spD K 1 (ph_Ratio___str__ cl)) := by
  refine fn_D T.F_Ratio___str__ sc_Ratio___str__ rfl fun cdv A outer s H E hr hp ho => ⟨_, (b_cons (s_if (t_cmp (o_eq hr.units) (d_fld [cl 0] (one_cls T.ci_Ratio.cl T.na_Ratio_own_bottom) (dv 0)) d_int (nomark _)) (b_one (s_ret (d_callTy (c_strB rfl T.dg) rfl T.b_str boot_str' (a_cons (d_fld [cl 0] (one_cls T.ci_Ratio.cl T.na_Ratio_own_top) (dv 0)) a_nil)))) b_nil)
  (b_one (s_ret (d_joined (j_cons (d_fmtB rfl T.dg (d_fld [cl 0] (one_cls T.ci_Ratio.cl T.na_Ratio_own_top) (dv 0))) (j_cons d_str (j_cons (d_fmtB rfl T.dg (d_fld [cl 0] (one_cls T.ci_Ratio.cl T.na_Ratio_own_bottom) (dv 0))) j_nil))))))), ?_⟩
  clear hp ho hr
  rintro ds M k x hl ⟨a, b, rfl, ha, hb, q⟩
  refine ⟨_, rfl, _, _, _, rfl, .head _, rfl, eqI ⟨_, rfl, ?_⟩⟩
  have l1 := itlenB ha
  have l2 := itlenB hb
  have big := size_big
  have l3 := l_sl
  unfold TX.txS at q
  refine ite_b (fun e => ?_) (fun e => ?_)
  · have e := of_decide_eq_true e
    rw [if_pos e] at q
    exact ⟨_, rfl, _, _, _, rfl, .head _, rfl, ha, q⟩
  · have e := of_decide_eq_false e
    rw [if_neg e] at q
    refine ⟨_, rfl, _, _, _, rfl, .head _, rfl, .inr ⟨_, rfl, ha, _, rfl, ?_, ?_⟩⟩
    · clear ha hb; rw [Str.empty_append]; omega
    refine ⟨_, rfl, ?_, _, rfl, _, _, _, rfl, .head _, rfl, .inr ⟨_, rfl, hb, _, rfl, ?_, ?_⟩⟩
    · clear ha hb; rw [Str.empty_append, Str.length_append]; omega
    · clear ha hb; rw [Str.empty_append, Str.length_append, Str.length_append]; omega
    · rw [Str.empty_append]
      exact q
def errR (u : D) : List (Str × D) := [("code", .str "InvalidRatio"), ("given", u)]
def ph_Ratio_read (cl : Nat → Addr) (CR : Addr) : Ct := fun ds M k x => ∃ u : D, ds = [.cel (cl 0), u] ∧
  ((∃ z : Str, u = .str z ∧ z.length ≤ 2000 ∧ (∀ a b, RT.Nf a b → z = TX.txS a b → k (rat cl a b) M) ∧ ((∀ a b, RT.Nf a b → z ≠ TX.txS a b) → x CR (errR u) M)) ∨
   (∃ z : Str, u = .str z ∧ 2000 < z.length ∧ z.length ≤ 100000 ∧ x CR (errR u) M) ∨ ∃ ku, kd u = some ku ∧ ku ≠ .str ∧ x CR (errR u) M)
theorem ok_Ratio_read {K : PySem.W.Frag} {mg : Str → Option Value} {ad : Nat → Addr} {fd : Nat → FuncData} {cl : Nat → Addr} {P : Program} {w : World} {base : Heap} (T : Txt K mg ad fd cl) {CR : Addr} (X_InvalidRatio : RaiseF P w K mg base "InvalidRatio" CR 1 (XI.fl1 "InvalidRatio" "given")) : FnOk P w K mg base (L2.CX P w) 5 (ad 8) (fd 8) ["cls", "text"] (spD K 2 (ph_Ratio_read cl CR)) := by
  have G_signed_number := ok_signed_number (P := P) (w := w) (base := base) T
  have G_figures_number := ok_figures_number (P := P) (w := w) (base := base) T
  have G_Ratio___init__ := ok_Ratio___init__ (P := P) (w := w) (base := base) T
  have G_Ratio___str__ := ok_Ratio___str__ (P := P) (w := w) (base := base) T
  refine fn_D T.F_Ratio_read sc_Ratio_read rfl fun cdv A outer s H E hr hp ho => ⟨_, (b_cons (s_if (DPW.t (w_or (t_not (t_val (d_isi .str (CS cl) (by decide) T.isi_str rfl T.b_isinstance rfl T.b_str (by decide +kernel) (dv 1)))) (w_or1 (t_cmp o_gt (d_callB c_len rfl T.b_len boot_len' (a_cons (dv 1) a_nil)) (d_globE rfl T.c_LONGEST) (nomark _))))) (b_one (s_raiseF (flD := fd1 "InvalidRatio" "given") X_InvalidRatio fr1 rfl (takes_of rfl rfl rfl rfl) (hr.mono (by decide)) (by decide) rfl (a_cons (dv 1) a_nil))) b_nil)
  (b_cons (s_asg (d_bm PySem.F.plainAttrs_str PySem.F.slot_str_partition PySem.F.type_str_partition m_partition (dv 1) (a_cons d_str a_nil)) (g_tup (n := 3) rfl (gs_cons (g_name (i := 2) sc_Ratio_read.nd rfl (Or.inl rfl)) (gs_cons (g_name (i := 3) sc_Ratio_read.nd rfl (Or.inl rfl)) (gs_cons (g_name (i := 4) sc_Ratio_read.nd rfl (Or.inl rfl)) gs_nil)))))
  (b_cons (s_set (i := 5) sc_Ratio_read.nd rfl (Or.inl rfl) (d_call G_signed_number (hr.mono (by decide)) rfl T.m_signed_number T.k_signed_number T.kb_signed_number_1 (by intro _ _ h _; exact h) hp (a_cons (dv 2) a_nil)))
  (b_cons (s_set (i := 6) sc_Ratio_read.nd rfl (Or.inl rfl) (d_if (t_cmp (o_ne hr.units) (dv 3) d_str (nomark _)) (d_call G_figures_number (hr.mono (by decide)) rfl T.m_figures_number T.k_figures_number T.kb_figures_number_1 (by intro _ _ h _; exact h) hp (a_cons (dv 4) a_nil)) d_int))
  (b_cons (s_if (DPW.t (w_or (t_cmp o_isN (dv 5) d_non (nomark _)) (w_or (t_cmp o_isN (dv 6) d_non (nomark _)) (w_or1 (t_cmp (o_eq hr.units) (dv 6) d_int (nomark _)))))) (b_one (s_raiseF (flD := fd1 "InvalidRatio" "given") X_InvalidRatio fr1 rfl (takes_of rfl rfl rfl rfl) (hr.mono (by decide)) (by decide) rfl (a_cons (dv 1) a_nil))) b_nil)
  (b_cons (s_set (i := 7) sc_Ratio_read.nd rfl (Or.inl rfl) (d_makeV (i := 0) T.mk_Ratio G_Ratio___init__ (hr.mono (by decide)) rfl (Or.inl rfl) T.kb_Ratio___init___3 (fun us ws h1 h2 => match us, ws, h1, h2 with | [_, _, _], [], _, _ => rfl) hp (a_cons (dv 5) (a_cons (dv 6) a_nil)) k_nil))
  (b_cons (s_if (t_cmp (o_ne hr.units) (d_callTy (c_sel (c_strO T.sp_Ratio___str__ T.fn_Ratio___str__ G_Ratio___str__ T.kb_Ratio___str___1 (hr.mono (by decide))) c_str) rfl T.b_str boot_str' (a_cons (dv 7) a_nil)) (dv 1) (nomark _)) (b_one (s_raiseF (flD := fd1 "InvalidRatio" "given") X_InvalidRatio fr1 rfl (takes_of rfl rfl rfl rfl) (hr.mono (by decide)) (by decide) rfl (a_cons (dv 1) a_nil))) b_nil)
  (b_one (s_ret (dv 7)))))))))), ?_⟩
  clear hp ho hr G_signed_number G_figures_number G_Ratio___init__ G_Ratio___str__
  rintro ds M k x hl ⟨u, rfl, h⟩
  have big := size_big
  rcases h with ⟨z, rfl, hz, q1, q2⟩ | ⟨z, rfl, hz1, hz2, q⟩ | ⟨ku, hu, hk, q⟩
  case inr.inr =>
    refine ⟨_, rfl, isiBk hu ⟨_, rfl, ?_⟩⟩
    rw [show isK .str ku = false by cases ku <;> first | rfl | exact absurd rfl hk]
    exact iteT ⟨_, rfl, rfl, q⟩
  case inr.inl =>
    refine ⟨_, rfl, ⟨_, rfl, iteF ?_⟩⟩
    refine ⟨_, rfl, by omega, _, rfl, ?_⟩
    rw [decide_eq_true (show (2000 : Int) < z.length by omega)]
    exact iteT ⟨_, rfl, rfl, q⟩
  refine ⟨_, rfl, ⟨_, rfl, iteF ?_⟩⟩
  refine ⟨_, rfl, by omega, _, rfl, ?_⟩
  rw [decide_eq_false (show ¬ (2000 : Int) < z.length by omega)]
  refine iteF ?_
  refine ⟨_, rfl, rfl, z, Str.ofString "/", rfl, rfl, by decide +kernel, by omega, ?_⟩
  have ne1 : TL.tl (Str.ofString "/") ≠ [] := by rw [TX.tl_slash]; exact fun w => by cases w
  obtain ⟨pl1, pl2⟩ := TX.part_len z (Str.ofString "/") ne1
  refine ⟨_, rfl, rfl, _, _, rfl, _, _, rfl, _, _, rfl, rfl, ?_⟩
  by_cases hc : ∃ a b, RT.Nf a b ∧ z = TX.txS a b
  · obtain ⟨a, b, nf, rfl⟩ := hc
    have q := q1 a b nf rfl
    have hp := nf.pos
    have la : (TX.intL a).length ≤ 2000 ∧ (b ≠ 1 → (TX.intL b).length ≤ 2000) := by
      rw [← TX.tl_len, TX.tl_txS] at hz
      unfold TX.txL at hz
      split at hz
      · exact ⟨hz, fun w => absurd (by assumption) w⟩
      · rw [List.length_append, List.length_cons] at hz
        exact ⟨by omega, fun _ => by omega⟩
    have ha := TX.int_lt la.1
    have hb : b.natAbs < 10 ^ 2000 := by
      by_cases e : b = 1
      · subst e; exact Nat.one_lt_pow (by decide) (by decide)
      · exact TX.int_lt (la.2 e)
    have fin : ∀ {k2 : DK} {x2 : DX}, k2 (rat cl a b) M → mkC (cl 0) (ph_Ratio___init__ cl) (fun us ws => pickI (us ++ [.int 1] ++ ws) [0, 1, 2]) [.int a, .int b] [] M k2 x2 := fun h => mkR (fun _ => rfl) (by omega) (TX.log_ten hb) (by rw [RT.nrm_of_nf nf]; exact h)
    rw [TX.part_txS]
    by_cases e : b = 1
    · rw [if_pos e]
      refine ⟨_, rfl, rfl, _, rfl, ?_, fun i hi => ?_, fun hi => absurd (TX.tl_int a) (hi a)⟩
      · rw [← TX.tl_len, TX.tl_int]; omega
      have hi := TX.intL_inj ((TX.tl_int a).symm.trans hi)
      subst hi
      refine ⟨_, rfl, .of (eqD_str _ _) ⟨_, rfl, ?_⟩⟩
      refine iteF ?_
      refine ⟨_, rfl, rfl, _, rfl, iteF ?_⟩
      refine ⟨_, rfl, rfl, _, rfl, iteF ?_⟩
      refine ⟨_, rfl, eqI ⟨_, rfl, iteF ?_⟩⟩
      subst e
      refine ⟨rfl, _, rfl, _, rfl, rfl, rfl, fin ?_⟩
      refine ⟨_, rfl, _, rfl, ⟨_, rfl⟩, a, 1, rfl, TX.ten_le ha, TX.ten_le hb, _, rfl, _, rfl, .of (eqD_str _ _) ⟨_, rfl, ?_⟩⟩
      rw [decide_eq_true rfl]
      exact iteF ⟨_, rfl, q⟩
    · rw [if_neg e]
      refine ⟨_, rfl, rfl, _, rfl, ?_, fun i hi => ?_, fun hi => absurd (TX.tl_int a) (hi a)⟩
      · rw [← TX.tl_len, TX.tl_int]; omega
      have hi := TX.intL_inj ((TX.tl_int a).symm.trans hi)
      subst hi
      refine ⟨_, rfl, .of (eqD_str _ _) ⟨_, rfl, ?_⟩⟩
      rw [show decide (Str.ofString "/" = Str.ofString "") = false by decide +kernel]
      refine iteT ?_
      have eb : TL.tl (Str.ofString (toString b)) = TL.numL b.toNat := (TX.tl_int b).trans (TX.intL_pos (by omega))
      refine ⟨_, rfl, rfl, _, rfl, ?_, fun n hn => ?_, fun hn => absurd eb (hn _)⟩
      · rw [← TX.tl_len, TX.tl_int]; have := la.2 e; omega
      have hn := TL.numL_inj (eb.symm.trans hn)
      have hn2 : (n : Int) = b := by omega
      refine ⟨_, rfl, rfl, _, rfl, iteF ?_⟩
      refine ⟨_, rfl, rfl, _, rfl, iteF ?_⟩
      refine ⟨_, rfl, eqI ⟨_, rfl, ?_⟩⟩
      rw [decide_eq_false (show ¬ (n : Int) = 0 by omega)]
      refine iteF ?_
      refine ⟨rfl, _, rfl, _, rfl, rfl, rfl, ?_⟩
      rw [hn2]
      refine fin ?_
      refine ⟨_, rfl, _, rfl, ⟨_, rfl⟩, a, b, rfl, TX.ten_le ha, TX.ten_le hb, _, rfl, _, rfl, .of (eqD_str _ _) ⟨_, rfl, ?_⟩⟩
      rw [decide_eq_true rfl]
      exact iteF ⟨_, rfl, q⟩
  · have q := q2 fun a b nf w => hc ⟨a, b, nf, w⟩
    have bad : ∀ {i n : Int}, n ≠ 0 → i.natAbs < 10 ^ 2000 → n.natAbs < 10 ^ 2000 → ∀ {ρ : DEnv} {kk : DEnds}, True := fun _ _ _ => fun {_ _} => True.intro
    refine ⟨_, rfl, rfl, _, rfl, by omega, fun i hi => ?_, fun hi => ?_⟩
    · have li : i.natAbs < 10 ^ 2000 := TX.int_lt (by rw [← hi, TX.tl_len]; omega)
      refine ⟨_, rfl, .of (eqD_str _ _) ⟨_, rfl, ?_⟩⟩
      have fin : ∀ {n : Int} {k2 : DK} {x2 : DX}, n ≠ 0 → n.natAbs < 10 ^ 2000 → (RT.Nf (RT.nrm i n).1 (RT.nrm i n).2 → (RT.nrm i n).1.natAbs < 10 ^ 4300 → (RT.nrm i n).2.natAbs < 10 ^ 4300 → k2 (rat cl (RT.nrm i n).1 (RT.nrm i n).2) M) → mkC (cl 0) (ph_Ratio___init__ cl) (fun us ws => pickI (us ++ [.int 1] ++ ws) [0, 1, 2]) [.int i, .int n] [] M k2 x2 := fun {n k2 x2} h1 h2 h3 => by
        obtain ⟨z1, z2⟩ := RT.nrm_sz (a := i) h1
        have nf := RT.nrm_nf (a := i) h1
        have pp := nf.pos
        exact mkR (fun _ => rfl) h1 (TX.log_ten h2) (h3 nf (TX.ten_le (Nat.lt_of_le_of_lt z1 li)) (TX.ten_le (by omega)))
      refine ite_b (fun e => ?_) (fun e => ?_)
      · refine ⟨_, rfl, rfl, _, rfl, by omega, fun n hn => ?_, fun hn => ?_⟩
        · have ln : (n : Int).natAbs < 10 ^ 2000 := by
            have h1 := TX.num_lt n
            rw [← hn, TX.tl_len] at h1
            exact Nat.lt_of_lt_of_le h1 (Nat.pow_le_pow_right (by decide) (by omega))
          refine ⟨_, rfl, rfl, _, rfl, iteF ?_⟩
          refine ⟨_, rfl, rfl, _, rfl, iteF ?_⟩
          refine ⟨_, rfl, eqI ⟨_, rfl, ?_⟩⟩
          refine ite_b (fun e => ?_) (fun e => ?_)
          · exact ⟨_, rfl, rfl, q⟩
          · have e := of_decide_eq_false e
            refine ⟨rfl, _, rfl, _, rfl, rfl, rfl, fin e ln fun nf l1 l2 => ?_⟩
            refine ⟨_, rfl, _, rfl, ⟨_, rfl⟩, _, _, rfl, l1, l2, _, rfl, _, rfl, .of (eqD_str _ _) ⟨_, rfl, ?_⟩⟩
            rw [decide_eq_false fun w => hc ⟨_, _, nf, w.symm⟩]
            exact iteT ⟨_, rfl, rfl, q⟩
        · refine ⟨_, rfl, rfl, _, rfl, iteF ?_⟩
          refine ⟨_, rfl, rfl, _, rfl, iteT ?_⟩
          exact ⟨_, rfl, rfl, q⟩
      · refine ⟨_, rfl, rfl, _, rfl, iteF ?_⟩
        refine ⟨_, rfl, rfl, _, rfl, iteF ?_⟩
        refine ⟨_, rfl, eqI ⟨_, rfl, iteF ?_⟩⟩
        refine ⟨rfl, _, rfl, _, rfl, rfl, rfl, fin (n := 1) (by decide) (Nat.one_lt_pow (by decide) (by decide)) fun nf l1 l2 => ?_⟩
        refine ⟨_, rfl, _, rfl, ⟨_, rfl⟩, _, _, rfl, l1, l2, _, rfl, _, rfl, .of (eqD_str _ _) ⟨_, rfl, ?_⟩⟩
        rw [decide_eq_false fun w => hc ⟨_, _, nf, w.symm⟩]
        exact iteT ⟨_, rfl, rfl, q⟩
    · refine ⟨_, rfl, .of (eqD_str _ _) ⟨_, rfl, ?_⟩⟩
      refine ite_b (fun e => ?_) (fun e => ?_)
      · refine ⟨_, rfl, rfl, _, rfl, by omega, fun n hn => ?_, fun hn => ?_⟩
        · exact ⟨_, rfl, rfl, _, rfl, iteT ⟨_, rfl, rfl, q⟩⟩
        · exact ⟨_, rfl, rfl, _, rfl, iteT ⟨_, rfl, rfl, q⟩⟩
      · exact ⟨_, rfl, rfl, _, rfl, iteT ⟨_, rfl, rfl, q⟩⟩
def ph_Ratio_is_below (cl : Nat → Addr) : Ct := fun ds M k _ => ∃ a b c d : Int, ds = [rat cl a b, rat cl c d] ∧ DL.MulOk a d ∧ DL.MulOk c b ∧ k (.bl (decide (a * d < c * b))) M
theorem ok_Ratio_is_below {K : PySem.W.Frag} {mg : Str → Option Value} {ad : Nat → Addr} {fd : Nat → FuncData} {cl : Nat → Addr} {P : Program} {w : World} {base : Heap} (T : Txt K mg ad fd cl) : FnOk P w K mg base (L2.CX P w) 1 (ad 9) (fd 9) ["self", "other"] (spD K 2 (ph_Ratio_is_below cl)) := by
  refine fn_D T.F_Ratio_is_below sc_Ratio_is_below rfl fun cdv A outer s H E hr hp ho => ⟨_, (b_one (s_ret (d_cmp o_lt (d_op o_mul (d_fld [cl 0] (one_cls T.ci_Ratio.cl T.na_Ratio_own_top) (dv 0)) (d_fld [cl 0] (one_cls T.ci_Ratio.cl T.na_Ratio_own_bottom) (dv 1))) (d_op o_mul (d_fld [cl 0] (one_cls T.ci_Ratio.cl T.na_Ratio_own_top) (dv 1)) (d_fld [cl 0] (one_cls T.ci_Ratio.cl T.na_Ratio_own_bottom) (dv 0))) (nomark _)))), ?_⟩
  clear hp ho hr
  rintro ds M k x hl ⟨a, b, c, d, rfl, h1, h2, q⟩
  refine ⟨_, rfl, _, _, _, rfl, .head _, rfl, _, rfl, _, _, _, rfl, .head _, rfl, h1, ?_⟩
  refine ⟨_, rfl, _, _, _, rfl, .head _, rfl, _, rfl, _, _, _, rfl, .head _, rfl, h2, ?_⟩
  exact q
def ph_zero (cl : Nat → Addr) : Ct := fun ds M k _ => ds = [] ∧ k (rat cl 0 1) M
theorem ok_zero {K : PySem.W.Frag} {mg : Str → Option Value} {ad : Nat → Addr} {fd : Nat → FuncData} {cl : Nat → Addr} {P : Program} {w : World} {base : Heap} (T : Txt K mg ad fd cl) : FnOk P w K mg base (L2.CX P w) 5 (ad 10) (fd 10) [] (spD K 0 (ph_zero cl)) := by
  have G_Ratio___init__ := ok_Ratio___init__ (P := P) (w := w) (base := base) T
  refine fn_D T.F_zero sc_zero rfl fun cdv A outer s H E hr hp ho => ⟨_, (b_one (s_ret (d_make T.mk_Ratio G_Ratio___init__ (hr.mono (by decide)) rfl T.m_Ratio T.kb_Ratio___init___2 (fun us ws h1 h2 => match us, ws, h1, h2 with | [_, _], [], _, _ => rfl) hp (a_cons d_int a_nil) k_nil))), ?_⟩
  clear hp ho hr G_Ratio___init__
  rintro ds M k x hl ⟨rfl, q⟩
  refine ⟨rfl, rfl, mkR (a := 0) (b := 1) (fun _ => rfl) (by decide) (by unfold Lg; decide) ?_⟩
  exact q
def ph_unit (cl : Nat → Addr) : Ct := fun ds M k _ => ds = [] ∧ k (rat cl 1 1) M
theorem ok_unit {K : PySem.W.Frag} {mg : Str → Option Value} {ad : Nat → Addr} {fd : Nat → FuncData} {cl : Nat → Addr} {P : Program} {w : World} {base : Heap} (T : Txt K mg ad fd cl) : FnOk P w K mg base (L2.CX P w) 5 (ad 11) (fd 11) [] (spD K 0 (ph_unit cl)) := by
  have G_Ratio___init__ := ok_Ratio___init__ (P := P) (w := w) (base := base) T
  refine fn_D T.F_unit sc_unit rfl fun cdv A outer s H E hr hp ho => ⟨_, (b_one (s_ret (d_make T.mk_Ratio G_Ratio___init__ (hr.mono (by decide)) rfl T.m_Ratio T.kb_Ratio___init___2 (fun us ws h1 h2 => match us, ws, h1, h2 with | [_, _], [], _, _ => rfl) hp (a_cons d_int a_nil) k_nil))), ?_⟩
  clear hp ho hr G_Ratio___init__
  rintro ds M k x hl ⟨rfl, q⟩
  refine ⟨rfl, rfl, mkR (a := 1) (b := 1) (fun _ => rfl) (by decide) (by unfold Lg; decide) ?_⟩
  exact q

end W58
set_option Elab.async false
set_option linter.all false
set_option maxRecDepth 100000
set_option maxHeartbeats 4000000
set_option pp.deepTerms false
set_option pp.deepTerms.threshold 12
set_option pp.maxSteps 4000
namespace W58
open PySem PySem.Spec PyProof.Rows L2 DL
local macro_rules | `(tactic| walk_at "sc") => `(tactic| first | assumption | rfl | exact Nat.le_of_ble_eq_true rfl | decide | omega | exact mul_small (by omega) (by omega) | exact mul_smallR (by omega) (by omega) | exact ⟨by decide, by decide, by decide⟩ | exact ⟨by omega, by assumption⟩ | exact ⟨by decide, log2_small (by decide) (by decide)⟩)
local macro_rules | `(tactic| walk_at "go1") => `(tactic| first | refine ⟨_, rfl, ?_⟩ | refine ⟨rfl, ?_⟩ | refine ⟨_, by assumption, ?_⟩ | refine ⟨_, mup_same, ?_⟩ | refine eqI ?_ | refine neI ?_ | refine iteT ?_ | refine iteF ?_ | refine ⟨(by walk_at "sc"), ?_⟩)
local macro_rules | `(tactic| walk_at "go") => `(tactic| repeat walk_at "go1")
def numOk : D → Bool
  | .int i => decide (-1000000 ≤ i) && decide (i ≤ 1000000)
  | _ => false
def isPt : D → Bool
  | .tup [a, b] => numOk a && numOk b
  | _ => false
def ph_is_point : Ct := fun ds M k _ => ∃ u v, ds = [u] ∧ kd u = some v ∧ (∀ es, u = .tup es → es.length ≤ 100 ∧ ∀ e ∈ es, (kd e).isSome = true) ∧ k (.bl (isPt u)) M
def pairD (p : TX.Pr) : D := .tup [.int p.1, .int p.2]
def sideD (p q : TX.Pr) : D := .tup [pairD p, pairD q]
theorem pt_pair {p : TX.Pr} (h : TX.PB p) : isPt (pairD p) = true := by
  obtain ⟨⟨h1, h2⟩, h3, h4⟩ := h
  simp [isPt, pairD, numOk, h1, h2, h3, h4]
def PtN (u : D) : Prop := u = .non ∨ ∃ p, TX.PB p ∧ u = pairD p
theorem ptN {u : D} {M : Mm} {k : DK} {x : DX} (h : PtN u) (q1 : (∃ p, TX.PB p ∧ u = pairD p) → k (.bl true) M) (q2 : u = .non → k (.bl false) M) : ph_is_point [u] M k x := by
  rcases h with rfl | ⟨p, bp, rfl⟩
  · exact ⟨_, _, rfl, rfl, (fun es h => by cases h), q2 rfl⟩
  · refine ⟨_, _, rfl, rfl, (fun es h => by cases h; exact ⟨Nat.le_of_ble_eq_true rfl, by simp [kd]⟩), ?_⟩
    rw [pt_pair bp]
    exact q1 ⟨p, bp, rfl⟩
theorem ok_is_point {K : PySem.W.Frag} {mg : Str → Option Value} {ad : Nat → Addr} {fd : Nat → FuncData} {cl : Nat → Addr} {P : Program} {w : World} {base : Heap} (T : Txt K mg ad fd cl) : FnOk P w K mg base (L2.CX P w) 3 (ad 12) (fd 12) ["value"] (spD K 1 ph_is_point) := by
  have G_is_number := ok_is_number (P := P) (w := w) (base := base) T
  refine fn_D T.F_is_point sc_is_point rfl fun cdv A outer s H E hr hp ho => ⟨_, (b_cons (s_if (DPW.t (w_or (t_not (t_val (d_isi .tup (CS cl) (by decide) T.isi_tuple rfl T.b_isinstance rfl T.b_tuple (by decide +kernel) (dv 0)))) (w_or1 (t_cmp (o_ne hr.units) (d_callB c_len rfl T.b_len boot_len' (a_cons (dv 0) a_nil)) d_int (nomark _))))) (b_one (s_ret d_bl)) b_nil)
  (b_one (s_ret (d_callB (c_all rfl) rfl T.b_all boot_all' (a_cons (d_lc (own := [("part", 1)]) rfl sc_is_point.nd (i_seq (dv 0)) (blkOk_by (own := [("part", 1)]) (N := ["value", "part"]) (sc := (defScope st_is_point)) (by decide +kernel)) (gp_name (by decide)) (fun _ _ _ _ _ => (pg_name (i := 1) sc_is_point.nd rfl (Or.inl rfl))) (fun _ _ _ _ _ => ts_nil) (fun _ _ _ _ _ => (d_and (d_call G_is_number (hr.mono (by decide)) rfl T.m_is_number T.k_is_number T.kb_is_number_1 (by intro _ _ h _; exact h) passL (a_cons (dv 1) a_nil)) (d_one (d_chain o_le o_le (d_un o_neg (d_globE rfl T.c_FARTHEST)) (dv 1) (d_globE rfl T.c_FARTHEST)))))) a_nil))))), ?_⟩
  clear hp ho hr G_is_number
  rintro ds M k x hl ⟨u, v, rfl, hv, hz, q⟩
  cases u with
  | tup es =>
    obtain ⟨hz, hk⟩ := hz es rfl
    refine ⟨_, rfl, ⟨_, rfl, iteF ⟨_, rfl, neI ⟨_, rfl, ?_⟩⟩⟩⟩
    refine ite_b (fun e1 => ?_) (fun e1 => ?_)
    · have e1 : ¬ es.length = 2 := by
        have e1 : ¬ (es.length : Int) = 2 := by simpa using e1
        omega
      have e : isPt (.tup es) = false := by
        match es, e1 with
        | [], _ => rfl
        | [_], _ => rfl
        | [_, _], h => exact absurd rfl h
        | _ :: _ :: _ :: _, _ => rfl
      rw [e] at q
      exact q
    · have e1 : es.length = 2 := by
        have e1 : (es.length : Int) = 2 := by simpa using e1
        omega
      refine ⟨_, rfl, ?_⟩
      refine lc_map (fun d => .bl (numOk d)) (Nat.lt_of_le_of_lt hz (by decide)) (fun d hd K hK => ?_) (fun d K K' => gN_mono K K') ?_
      · have hd2 := hk d hd
        obtain ⟨v2, hv2⟩ := Option.isSome_iff_exists.mp hd2
        refine ⟨_, rfl, rfl, d, v2, rfl, hv2, ⟨_, rfl, ?_⟩⟩
        cases d with
        | int i =>
          cases hv2
          refine iteT ⟨_, rfl, ⟨_, rfl, ?_⟩⟩
          have hK : K (.bl (decide (-1000000 ≤ i) && decide (i ≤ 1000000))) M := hK
          refine ite_b (fun e2 => ?_) (fun e2 => ?_)
          · have e2 : decide (-1000000 ≤ i) = true := e2
            rw [e2, Bool.true_and] at hK
            exact hK
          · have e2 : decide (-1000000 ≤ i) = false := e2
            rw [e2, Bool.false_and] at hK
            exact hK
        | _ => cases hv2 <;> exact iteF hK
      · match es, e1 with
        | [a, b], _ =>
          refine ⟨[numOk a, numOk b], rfl, ?_⟩
          have e : ([numOk a, numOk b].all id) = isPt (.tup [a, b]) := by simp [isPt]
          rw [e]
          exact q
  | _ => cases hv <;> (walk_at "go"; exact q)
def ph_is_side : Ct := fun ds M k _ => ∃ u v : D, ds = [.tup [u, v]] ∧ PtN u ∧ PtN v ∧ (∀ p q, u = pairD p → v = pairD q → k (.bl (decide (TX.PLt p q))) M) ∧ ((u = .non ∨ v = .non) → k (.bl false) M)
theorem ok_is_side {K : PySem.W.Frag} {mg : Str → Option Value} {ad : Nat → Addr} {fd : Nat → FuncData} {cl : Nat → Addr} {P : Program} {w : World} {base : Heap} (T : Txt K mg ad fd cl) : FnOk P w K mg base (L2.CX P w) 5 (ad 13) (fd 13) ["value"] (spD K 1 ph_is_side) := by
  have G_is_point := ok_is_point (P := P) (w := w) (base := base) T
  refine fn_D T.F_is_side sc_is_side rfl fun cdv A outer s H E hr hp ho => ⟨_, (b_cons (s_if (DPW.t (w_or (t_not (t_val (d_isi .tup (CS cl) (by decide) T.isi_tuple rfl T.b_isinstance rfl T.b_tuple (by decide +kernel) (dv 0)))) (w_or1 (t_cmp (o_ne hr.units) (d_callB c_len rfl T.b_len boot_len' (a_cons (dv 0) a_nil)) d_int (nomark _))))) (b_one (s_ret d_bl)) b_nil)
  (b_one (s_ret (d_and (d_call G_is_point (hr.mono (by decide)) rfl T.m_is_point T.k_is_point T.kb_is_point_1 (by intro _ _ h _; exact h) hp (a_cons (d_ix x_ix (dv 0) d_int (fun _ _ => rfl)) a_nil)) (d_and (d_call G_is_point (hr.mono (by decide)) rfl T.m_is_point T.k_is_point T.kb_is_point_1 (by intro _ _ h _; exact h) hp (a_cons (d_ix x_ix (dv 0) d_int (fun _ _ => rfl)) a_nil)) (d_one (d_cmp (o_ltD hr.units) (d_ix x_ix (dv 0) d_int (fun _ _ => rfl)) (d_ix x_ix (dv 0) d_int (fun _ _ => rfl)) (nomark _)))))))), ?_⟩
  clear hp ho hr G_is_point
  rintro ds M k x hl ⟨u, v, rfl, hu, hv, q1, q2⟩
  refine ⟨_, rfl, ⟨_, rfl, iteF ⟨_, rfl, neI ⟨_, rfl, iteF ?_⟩⟩⟩⟩
  refine ⟨_, rfl, _, rfl, rfl, ptN hu (fun ⟨p, bp, e⟩ => ⟨_, rfl, iteT ?_⟩) fun e => ⟨_, rfl, iteF (q2 (.inl e))⟩⟩
  refine ⟨_, rfl, _, rfl, rfl, ptN hv (fun ⟨p', bp', e'⟩ => ⟨_, rfl, iteT ?_⟩) fun e => ⟨_, rfl, iteF (q2 (.inr e))⟩⟩
  subst e e'
  refine ⟨_, rfl, _, rfl, _, rfl, _, rfl, TX.prP p, TX.prP p', ⟨rfl, rfl, rfl, rfl, rfl, fun w => by cases w⟩, ?_⟩
  rw [TX.lt_pr]
  exact q1 p p' rfl rfl
theorem bd43 {i : Int} (h : TX.Bd i) : i.natAbs < 10 ^ 4300 := by
  have h1 : i.natAbs < 10 ^ 7 := by have := h.1; have := h.2; omega
  exact Nat.lt_of_lt_of_le h1 (Nat.pow_le_pow_right (by decide) (by decide))
theorem l_cm1 : (Str.ofString ",").length = 1 := by decide +kernel
def ph_pair_text : Ct := fun ds M k _ => ∃ p : TX.Pr, ds = [pairD p] ∧ TX.PB p ∧ k (.str (TX.mkS (TX.prL p))) M
theorem ok_pair_text {K : PySem.W.Frag} {mg : Str → Option Value} {ad : Nat → Addr} {fd : Nat → FuncData} {cl : Nat → Addr} {P : Program} {w : World} {base : Heap} (T : Txt K mg ad fd cl) : FnOk P w K mg base (L2.CX P w) 1 (ad 14) (fd 14) ["pair"] (spD K 1 ph_pair_text) := by
  refine fn_D T.F_pair_text sc_pair_text rfl fun cdv A outer s H E hr hp ho => ⟨_, (b_one (s_ret (d_joined (j_cons (d_fmtB rfl T.dg (d_ix x_ix (dv 0) d_int (fun _ _ => rfl))) (j_cons d_str (j_cons (d_fmtB rfl T.dg (d_ix x_ix (dv 0) d_int (fun _ _ => rfl))) j_nil)))))), ?_⟩
  clear hp ho hr
  rintro ds M k x hl ⟨p, rfl, hp, q⟩
  have b1 := bd43 hp.1
  have b2 := bd43 hp.2
  have l1 := itlenB b1
  have l2 := itlenB b2
  have l3 := l_cm1
  have big := size_big
  have e : Str.ofString (toString p.1) ++ Str.ofString "," ++ Str.ofString (toString p.2) = TX.mkS (TX.prL p) := TX.eq_mk (by rw [TL.tl_append, TL.tl_append, TX.tl_int, TX.tl_int, TX.tl_cm, List.append_assoc]; rfl)
  rw [← e] at q
  refine ⟨_, rfl, _, rfl, .inr ⟨_, rfl, b1, _, rfl, ?_, ?_⟩⟩
  · clear b1 b2; rw [Str.empty_append]; omega
  refine ⟨_, rfl, ?_, _, rfl, _, rfl, .inr ⟨_, rfl, b2, _, rfl, ?_, ?_⟩⟩
  · clear b1 b2; rw [Str.empty_append, Str.length_append]; omega
  · clear b1 b2; rw [Str.empty_append, Str.length_append, Str.length_append]; omega
  · rw [Str.empty_append]
    exact q
def ph_side_text : Ct := fun ds M k _ => ∃ p q : TX.Pr, ds = [sideD p q] ∧ TX.PB p ∧ TX.PB q ∧ k (.str (TX.mkS (TX.sdL p q))) M
theorem ok_side_text {K : PySem.W.Frag} {mg : Str → Option Value} {ad : Nat → Addr} {fd : Nat → FuncData} {cl : Nat → Addr} {P : Program} {w : World} {base : Heap} (T : Txt K mg ad fd cl) : FnOk P w K mg base (L2.CX P w) 3 (ad 15) (fd 15) ["side"] (spD K 1 ph_side_text) := by
  have G_pair_text := ok_pair_text (P := P) (w := w) (base := base) T
  refine fn_D T.F_side_text sc_side_text rfl fun cdv A outer s H E hr hp ho => ⟨_, (b_one (s_ret (d_bm PySem.F.plainAttrs_str PySem.F.slot_str_join PySem.F.type_str_join m_join d_str (a_cons (d_lc (own := [("corner", 1)]) rfl sc_side_text.nd (i_seq (dv 0)) (blkOk_by (own := [("corner", 1)]) (N := ["side", "corner"]) (sc := (defScope st_side_text)) (by decide +kernel)) (gp_name (by decide)) (fun _ _ _ _ _ => (pg_name (i := 1) sc_side_text.nd rfl (Or.inl rfl))) (fun _ _ _ _ _ => ts_nil) (fun _ _ _ _ _ => (d_call G_pair_text (hr.mono (by decide)) rfl T.m_pair_text T.k_pair_text T.kb_pair_text_1 (by intro _ _ h _; exact h) passL (a_cons (dv 1) a_nil)))) a_nil)))), ?_⟩
  clear hp ho hr G_pair_text
  rintro ds M k x hl ⟨p, p', rfl, hp, hp', q⟩
  refine ⟨rfl, _, rfl, lc_map (fun d => match d with | .tup [.int a, .int b] => .str (TX.mkS (TX.prL (a, b))) | _ => .non) (by show 2 < sizeLine; decide) (fun d hd K hK => ?_) (fun d K K' => gN_mono K K') ?_⟩
  · simp only [List.mem_cons, List.not_mem_nil, or_false] at hd
    rcases hd with rfl | rfl
    · exact ⟨_, rfl, rfl, p, rfl, hp, hK⟩
    · exact ⟨_, rfl, rfl, p', rfl, hp', hK⟩
  · refine ⟨_, [TX.mkS (TX.prL p), TX.mkS (TX.prL p')], rfl, rfl, ?_, ?_⟩
    · have l1 := TX.pr_len hp
      have l2 := TX.pr_len hp'
      rw [← TX.mk_len] at l1 l2
      rw [show (Str.ofString ":").length = 1 by decide +kernel]
      simp only [List.map_cons, List.map_nil, List.sum_cons, List.sum_nil, List.length_cons, List.length_nil]
      omega
    · rw [show Txt.join (Str.ofString ":") [TX.mkS (TX.prL p), TX.mkS (TX.prL p')] = TX.mkS (TX.sdL p p') from TX.eq_mk (by rw [TL.join_eq, TL.tl_join, TX.tl_cl]; rfl)]
      exact q
def ph_place_text (cl : Nat → Addr) : Ct := fun ds M k _ => ∃ (p q : TX.Pr) (a b : Int), ds = [.tup [sideD p q, rat cl a b]] ∧ TX.PB p ∧ TX.PB q ∧ a.natAbs < 10 ^ 2000 ∧ b.natAbs < 10 ^ 2000 ∧ k (.str (TX.mkS (TX.plL p q a b))) M
theorem ok_place_text {K : PySem.W.Frag} {mg : Str → Option Value} {ad : Nat → Addr} {fd : Nat → FuncData} {cl : Nat → Addr} {P : Program} {w : World} {base : Heap} (T : Txt K mg ad fd cl) : FnOk P w K mg base (L2.CX P w) 5 (ad 16) (fd 16) ["place"] (spD K 1 (ph_place_text cl)) := by
  have G_side_text := ok_side_text (P := P) (w := w) (base := base) T
  have G_Ratio___str__ := ok_Ratio___str__ (P := P) (w := w) (base := base) T
  refine fn_D T.F_place_text sc_place_text rfl fun cdv A outer s H E hr hp ho => ⟨_, (b_one (s_ret (d_joined (j_cons (d_fmt (d_call G_side_text (hr.mono (by decide)) rfl T.m_side_text T.k_side_text T.kb_side_text_1 (by intro _ _ h _; exact h) hp (a_cons (d_ix x_ix (dv 0) d_int (fun _ _ => rfl)) a_nil))) (j_cons d_str (j_cons (d_fmtO T.fm_Ratio T.ci_Ratio.hm T.sp_Ratio___str__ T.fn_Ratio___str__ G_Ratio___str__ T.kb_Ratio___str___1 (hr.mono (by decide)) (d_ix x_ix (dv 0) d_int (fun _ _ => rfl))) j_nil)))))), ?_⟩
  clear hp ho hr G_side_text G_Ratio___str__
  rintro ds M k x hl ⟨p, p', a, b, rfl, hp, hp', ha, hb, q⟩
  have l1 := TX.sd_len hp hp'
  have l2 := txS_len (TX.ten_le ha) (TX.ten_le hb)
  have l3 : (Str.ofString "@").length = 1 := by decide +kernel
  have big := size_big
  have e : TX.mkS (TX.sdL p p') ++ Str.ofString "@" ++ TX.txS a b = TX.mkS (TX.plL p p' a b) := TX.eq_mk (by rw [TL.tl_append, TL.tl_append, TX.tl_txS, TX.tl_at, List.append_assoc]; rfl)
  rw [← TX.mk_len] at l1
  rw [← e] at q
  clear e
  refine ⟨_, rfl, _, rfl, rfl, p, p', rfl, hp, hp', .inl ⟨_, rfl, by clear ha hb; omega, _, rfl, by clear ha hb; rw [Str.empty_append]; omega, _, rfl, by clear ha hb; rw [Str.empty_append, Str.length_append]; omega, ?_⟩⟩
  refine ⟨_, rfl, _, rfl, ⟨_, rfl⟩, a, b, rfl, TX.ten_le ha, TX.ten_le hb, _, rfl, _, rfl, ?_, ?_⟩
  · clear ha hb; rw [Str.empty_append, Str.length_append, Str.length_append]; omega
  · rw [Str.empty_append]; exact q
def SN (x : Str) (r : D) : Prop := (∃ i, TL.tl x = TX.intL i ∧ r = .int i) ∨ ((∀ i, TL.tl x ≠ TX.intL i) ∧ r = .non)
theorem sgnK {x : Str} {M : Mm} {k : DK} {xx : DX} (h : x.length ≤ 4300) (q : ∀ r, SN x r → k r M) : ph_signed_number [.str x] M k xx :=
  ⟨x, rfl, h, fun i hi => q _ (.inl ⟨i, hi, rfl⟩), fun hi => q _ (.inr ⟨hi, rfl⟩)⟩
theorem SN.get {x : Str} {r : D} {i : Int} (h : SN x r) (e : TL.tl x = TX.intL i) : r = .int i := by
  rcases h with ⟨j, e1, rfl⟩ | ⟨n, rfl⟩
  · rw [TX.intL_inj (e1.symm.trans e)]
  · exact absurd e (n i)
theorem snK {x y : Str} {r1 r2 : D} (h1 : SN x r1) (h2 : SN y r2) : ∀ e ∈ [r1, r2], (kd e).isSome = true := by
  intro e he
  simp only [List.mem_cons, List.not_mem_nil, or_false] at he
  rcases he with rfl | rfl
  · rcases h1 with ⟨j, e1, rfl⟩ | ⟨n, rfl⟩ <;> rfl
  · rcases h2 with ⟨j, e1, rfl⟩ | ⟨n, rfl⟩ <;> rfl
def ph_pair_in : Ct := fun ds M k _ => ∃ z : Str, ds = [.str z] ∧ z.length ≤ 100000 ∧ (∀ p, TX.PB p → TL.tl z = TX.prL p → k (pairD p) M) ∧ ((∀ p, TX.PB p → TL.tl z ≠ TX.prL p) → k .non M)
theorem ok_pair_in {K : PySem.W.Frag} {mg : Str → Option Value} {ad : Nat → Addr} {fd : Nat → FuncData} {cl : Nat → Addr} {P : Program} {w : World} {base : Heap} (T : Txt K mg ad fd cl) : FnOk P w K mg base (L2.CX P w) 5 (ad 17) (fd 17) ["text"] (spD K 1 ph_pair_in) := by
  have G_signed_number := ok_signed_number (P := P) (w := w) (base := base) T
  have G_is_point := ok_is_point (P := P) (w := w) (base := base) T
  refine fn_D T.F_pair_in sc_pair_in rfl fun cdv A outer s H E hr hp ho => ⟨_, (b_cons (s_if (t_cmp o_gt (d_callB c_len rfl T.b_len boot_len' (a_cons (dv 0) a_nil)) (d_globE rfl T.c_LONGEST_PAIR) (nomark _)) (b_one (s_ret d_non)) b_nil)
  (b_cons (s_asg (d_bm PySem.F.plainAttrs_str PySem.F.slot_str_partition PySem.F.type_str_partition m_partition (dv 0) (a_cons d_str a_nil)) (g_tup (n := 3) rfl (gs_cons (g_name (i := 1) sc_pair_in.nd rfl (Or.inl rfl)) (gs_cons (g_name (i := 2) sc_pair_in.nd rfl (Or.inl rfl)) (gs_cons (g_name (i := 3) sc_pair_in.nd rfl (Or.inl rfl)) gs_nil)))))
  (b_cons (s_set (i := 4) sc_pair_in.nd rfl (Or.inl rfl) (d_tup (a_cons (d_call G_signed_number (hr.mono (by decide)) rfl T.m_signed_number T.k_signed_number T.kb_signed_number_1 (by intro _ _ h _; exact h) hp (a_cons (dv 1) a_nil)) (a_cons (d_call G_signed_number (hr.mono (by decide)) rfl T.m_signed_number T.k_signed_number T.kb_signed_number_1 (by intro _ _ h _; exact h) hp (a_cons (dv 3) a_nil)) a_nil))))
  (b_one (s_ret (d_if (DPW.t (w_and (t_cmp (o_ne hr.units) (dv 2) d_str (nomark _)) (w_and1 (t_val (d_call G_is_point (hr.mono (by decide)) rfl T.m_is_point T.k_is_point T.kb_is_point_1 (by intro _ _ h _; exact h) hp (a_cons (dv 4) a_nil)))))) (dv 4) d_non)))))), ?_⟩
  clear hp ho hr G_signed_number G_is_point
  rintro ds M k x hl ⟨z, rfl, hz, q1, q2⟩
  have big := size_big
  refine ⟨_, rfl, by omega, _, rfl, ?_⟩
  by_cases h20 : 20 < z.length
  · rw [decide_eq_true (show (20 : Int) < z.length by omega)]
    refine iteT (q2 fun p bp e => ?_)
    have := TX.pr_len bp
    rw [← e, TX.tl_len] at this
    omega
  rw [decide_eq_false (show ¬ (20 : Int) < z.length by omega)]
  refine iteF ?_
  refine ⟨_, rfl, rfl, z, Str.ofString ",", rfl, rfl, by decide +kernel, by omega, ?_⟩
  refine ⟨_, rfl, rfl, _, _, rfl, _, _, rfl, _, _, rfl, rfl, ?_⟩
  rcases TX.part_cases TX.tl_cm z with ⟨h, e⟩ | ⟨x1, y1, h, hx, lx, ly, e⟩
  · rw [e]
    refine ⟨_, rfl, rfl, sgnK (by show z.length ≤ 4300; omega) fun r1 s1 => ?_⟩
    refine ⟨_, rfl, rfl, sgnK (by show Str.empty.length ≤ 4300; decide) fun r2 s2 => ⟨Nat.le_of_ble_eq_true rfl, ?_⟩⟩
    refine ⟨_, rfl, .of (eqD_str _ _) ⟨_, rfl, ?_⟩⟩
    refine iteF (iteF (q2 fun p bp w => h ?_))
    rw [w]
    unfold TX.prL
    simp
  · rw [e]
    refine ⟨_, rfl, rfl, sgnK (by show x1.length ≤ 4300; omega) fun r1 s1 => ?_⟩
    refine ⟨_, rfl, rfl, sgnK (by show y1.length ≤ 4300; omega) fun r2 s2 => ⟨Nat.le_of_ble_eq_true rfl, ?_⟩⟩
    refine ⟨_, rfl, .of (eqD_str _ _) ⟨_, rfl, ?_⟩⟩
    refine iteT ?_
    refine ⟨_, rfl, rfl, _, _, rfl, rfl, (fun es w => by cases w; exact ⟨Nat.le_of_ble_eq_true rfl, snK s1 s2⟩), ?_⟩
    have uniq : ∀ p, TL.tl z = TX.prL p → TL.tl x1 = TX.intL p.1 ∧ TL.tl y1 = TX.intL p.2 := fun p w => TX.cut_uniq (h.symm.trans w) hx TX.int_no44
    by_cases hp : ∃ p, TX.PB p ∧ TL.tl z = TX.prL p
    · obtain ⟨p, bp, w⟩ := hp
      obtain ⟨u1, u2⟩ := uniq p w
      rw [s1.get u1, s2.get u2]
      rw [show isPt (.tup [.int p.1, .int p.2]) = true from pt_pair bp]
      exact ⟨_, rfl, iteT ⟨_, rfl, q1 p bp w⟩⟩
    · have hn : isPt (.tup [r1, r2]) = false := by
        rcases s1 with ⟨i, e1, rfl⟩ | ⟨_, rfl⟩
        · rcases s2 with ⟨j, e2, rfl⟩ | ⟨_, rfl⟩
          · refine Bool.eq_false_iff.mpr fun w => hp ⟨(i, j), ?_, by rw [h, e1, e2]; rfl⟩
            simp [isPt, numOk] at w
            exact ⟨⟨w.1.1, w.1.2⟩, w.2.1, w.2.2⟩
          · simp [isPt, numOk]
        · simp [isPt, numOk]
      rw [hn]
      exact ⟨_, rfl, iteF (q2 fun p bp w => hp ⟨p, bp, w⟩)⟩
def PN (x : Str) (r : D) : Prop := (∃ p, TX.PB p ∧ TL.tl x = TX.prL p ∧ r = pairD p) ∨ ((∀ p, TX.PB p → TL.tl x ≠ TX.prL p) ∧ r = .non)
theorem pinK {x : Str} {M : Mm} {k : DK} {xx : DX} (h : x.length ≤ 100000) (q : ∀ r, PN x r → k r M) : ph_pair_in [.str x] M k xx :=
  ⟨x, rfl, h, fun p bp hi => q _ (.inl ⟨p, bp, hi, rfl⟩), fun hi => q _ (.inr ⟨hi, rfl⟩)⟩
theorem pairD_inj {p q : TX.Pr} (h : pairD p = pairD q) : p = q := by
  cases p; cases q
  cases h
  rfl
theorem PN.get {x : Str} {r : D} {p : TX.Pr} (h : PN x r) (bp : TX.PB p) (e : TL.tl x = TX.prL p) : r = pairD p := by
  rcases h with ⟨j, _, e1, rfl⟩ | ⟨n, rfl⟩
  · rw [TX.prL_inj (e1.symm.trans e)]
  · exact absurd e (n p bp)
theorem PN.pt {x : Str} {r : D} (h : PN x r) : PtN r := by
  rcases h with ⟨j, bp, e1, rfl⟩ | ⟨n, rfl⟩
  · exact .inr ⟨j, bp, rfl⟩
  · exact .inl rfl
theorem PN.back {x : Str} {p : TX.Pr} (h : PN x (pairD p)) : TX.PB p ∧ TL.tl x = TX.prL p := by
  rcases h with ⟨j, bp, e1, e⟩ | ⟨n, e⟩
  · rw [pairD_inj e]; exact ⟨bp, e1⟩
  · cases e
def ph_side_in : Ct := fun ds M k _ => ∃ z : Str, ds = [.str z] ∧ z.length ≤ 100000 ∧ (∀ p q, TX.PB p → TX.PB q → TX.PLt p q → TL.tl z = TX.sdL p q → k (sideD p q) M) ∧ ((∀ p q, TX.PB p → TX.PB q → TX.PLt p q → TL.tl z ≠ TX.sdL p q) → k .non M)
theorem ok_side_in {K : PySem.W.Frag} {mg : Str → Option Value} {ad : Nat → Addr} {fd : Nat → FuncData} {cl : Nat → Addr} {P : Program} {w : World} {base : Heap} (T : Txt K mg ad fd cl) : FnOk P w K mg base (L2.CX P w) 7 (ad 18) (fd 18) ["text"] (spD K 1 ph_side_in) := by
  have G_pair_in := ok_pair_in (P := P) (w := w) (base := base) T
  have G_is_side := ok_is_side (P := P) (w := w) (base := base) T
  refine fn_D T.F_side_in sc_side_in rfl fun cdv A outer s H E hr hp ho => ⟨_, (b_cons (s_asg (d_bm PySem.F.plainAttrs_str PySem.F.slot_str_partition PySem.F.type_str_partition m_partition (dv 0) (a_cons d_str a_nil)) (g_tup (n := 3) rfl (gs_cons (g_name (i := 1) sc_side_in.nd rfl (Or.inl rfl)) (gs_cons (g_name (i := 2) sc_side_in.nd rfl (Or.inl rfl)) (gs_cons (g_name (i := 3) sc_side_in.nd rfl (Or.inl rfl)) gs_nil)))))
  (b_cons (s_set (i := 4) sc_side_in.nd rfl (Or.inl rfl) (d_tup (a_cons (d_call G_pair_in (hr.mono (by decide)) rfl T.m_pair_in T.k_pair_in T.kb_pair_in_1 (by intro _ _ h _; exact h) hp (a_cons (dv 1) a_nil)) (a_cons (d_call G_pair_in (hr.mono (by decide)) rfl T.m_pair_in T.k_pair_in T.kb_pair_in_1 (by intro _ _ h _; exact h) hp (a_cons (dv 3) a_nil)) a_nil))))
  (b_one (s_ret (d_if (DPW.t (w_and (t_cmp (o_ne hr.units) (dv 2) d_str (nomark _)) (w_and1 (t_val (d_call G_is_side (hr.mono (by decide)) rfl T.m_is_side T.k_is_side T.kb_is_side_1 (by intro _ _ h _; exact h) hp (a_cons (dv 4) a_nil)))))) (dv 4) d_non))))), ?_⟩
  clear hp ho hr G_pair_in G_is_side
  rintro ds M k x hl ⟨z, rfl, hz, q1, q2⟩
  have big := size_big
  refine ⟨_, rfl, rfl, z, Str.ofString ":", rfl, rfl, by decide +kernel, by omega, ?_⟩
  refine ⟨_, rfl, rfl, _, _, rfl, _, _, rfl, _, _, rfl, rfl, ?_⟩
  rcases TX.part_cases TX.tl_cl z with ⟨h, e⟩ | ⟨x1, y1, h, hx, lx, ly, e⟩
  · rw [e]
    refine ⟨_, rfl, rfl, pinK (by show z.length ≤ 100000; omega) fun r1 s1 => ?_⟩
    refine ⟨_, rfl, rfl, pinK (by show Str.empty.length ≤ 100000; decide) fun r2 s2 => ⟨Nat.le_of_ble_eq_true rfl, ?_⟩⟩
    refine ⟨_, rfl, .of (eqD_str _ _) ⟨_, rfl, ?_⟩⟩
    refine iteF (iteF (q2 fun p p' bp bp' _ w => h ?_))
    rw [w]
    unfold TX.sdL
    simp
  · rw [e]
    refine ⟨_, rfl, rfl, pinK (by show x1.length ≤ 100000; omega) fun r1 s1 => ?_⟩
    refine ⟨_, rfl, rfl, pinK (by show y1.length ≤ 100000; omega) fun r2 s2 => ⟨Nat.le_of_ble_eq_true rfl, ?_⟩⟩
    refine ⟨_, rfl, .of (eqD_str _ _) ⟨_, rfl, ?_⟩⟩
    refine iteT ?_
    have uniq : ∀ p p', TL.tl z = TX.sdL p p' → TL.tl x1 = TX.prL p ∧ TL.tl y1 = TX.prL p' := fun p p' w => TX.cut_uniq (h.symm.trans w) hx (TX.pr_free (by decide))
    refine ⟨_, rfl, rfl, r1, r2, rfl, s1.pt, s2.pt, fun p p' e1 e2 => ⟨_, rfl, ?_⟩, fun w => ⟨_, rfl, iteF (q2 fun p p' bp bp' _ w' => ?_)⟩⟩
    · subst e1 e2
      obtain ⟨b1, t1⟩ := s1.back
      obtain ⟨b2, t2⟩ := s2.back
      have ez : TL.tl z = TX.sdL p p' := by rw [h, t1, t2]; rfl
      by_cases hlt : TX.PLt p p'
      · rw [decide_eq_true hlt]
        exact iteT ⟨_, rfl, q1 p p' b1 b2 hlt ez⟩
      · rw [decide_eq_false hlt]
        refine iteF (q2 fun a a' _ _ hlt' w => hlt ?_)
        obtain ⟨w1, w2⟩ := TX.sdL_inj (w.symm.trans ez)
        rw [← w1, ← w2]
        exact hlt'
    · obtain ⟨u1, u2⟩ := uniq p p' w'
      rcases w with w | w
      · exact absurd (w.symm.trans (s1.get bp u1)) (by intro z; cases z)
      · exact absurd (w.symm.trans (s2.get bp' u2)) (by intro z; cases z)
theorem sizeZ {a b : Int} (hz : (TX.txS a b).length ≤ 2000) : a.natAbs < 10 ^ 2000 ∧ b.natAbs < 10 ^ 2000 := by
  have la : (TX.intL a).length ≤ 2000 ∧ (b ≠ 1 → (TX.intL b).length ≤ 2000) := by
    rw [← TX.tl_len, TX.tl_txS] at hz
    unfold TX.txL at hz
    split at hz
    · exact ⟨hz, fun w => absurd (by assumption) w⟩
    · rw [List.length_append, List.length_cons] at hz
      exact ⟨by omega, fun _ => by omega⟩
  refine ⟨TX.int_lt la.1, ?_⟩
  by_cases e : b = 1
  · subst e; exact Nat.one_lt_pow (by decide) (by decide)
  · exact TX.int_lt (la.2 e)
def SDN (x : Str) (r : D) : Prop := (∃ p q, TX.PB p ∧ TX.PB q ∧ TX.PLt p q ∧ TL.tl x = TX.sdL p q ∧ r = sideD p q) ∨ ((∀ p q, TX.PB p → TX.PB q → TX.PLt p q → TL.tl x ≠ TX.sdL p q) ∧ r = .non)
theorem sdK {x : Str} {M : Mm} {k : DK} {xx : DX} (h : x.length ≤ 100000) (q : ∀ r, SDN x r → k r M) : ph_side_in [.str x] M k xx :=
  ⟨x, rfl, h, fun p p' bp bp' hl hi => q _ (.inl ⟨p, p', bp, bp', hl, hi, rfl⟩), fun hi => q _ (.inr ⟨hi, rfl⟩)⟩
/-- a place's text -/
def PlT (l : List Nat) (p q : TX.Pr) (a b : Int) : Prop := TX.PB p ∧ TX.PB q ∧ TX.PLt p q ∧ RT.Nf a b ∧ 0 < a ∧ a < b ∧ (TX.txL a b).length ≤ 2000 ∧ l = TX.plL p q a b
def ph_place_in (cl : Nat → Addr) : Ct := fun ds M k _ => ∃ z : Str, ds = [.str z] ∧ z.length ≤ 100000 ∧ (∀ p q a b, PlT (TL.tl z) p q a b → k (.tup [sideD p q, rat cl a b]) M) ∧ ((∀ p q a b, ¬ PlT (TL.tl z) p q a b) → k .non M)
theorem ok_place_in {K : PySem.W.Frag} {mg : Str → Option Value} {ad : Nat → Addr} {fd : Nat → FuncData} {cl : Nat → Addr} {P : Program} {w : World} {base : Heap} (T : Txt K mg ad fd cl) {CR : Addr} (X_InvalidRatio : RaiseF P w K mg base "InvalidRatio" CR 1 (XI.fl1 "InvalidRatio" "given")) (XM : PySem.W.exmOne K (.ref CR) (.ref CR) = some true) : FnOk P w K mg base (L2.CX P w) 9 (ad 19) (fd 19) ["text"] (spD K 1 (ph_place_in cl)) := by
  have G_side_in := ok_side_in (P := P) (w := w) (base := base) T
  have G_Ratio_read := ok_Ratio_read (P := P) (w := w) (base := base) T X_InvalidRatio
  have G_Ratio_is_below := ok_Ratio_is_below (P := P) (w := w) (base := base) T
  have G_zero := ok_zero (P := P) (w := w) (base := base) T
  have G_unit := ok_unit (P := P) (w := w) (base := base) T
  refine fn_D T.F_place_in sc_place_in rfl fun cdv A outer s H E hr hp ho => ⟨_, (b_cons (s_asg (d_bm PySem.F.plainAttrs_str PySem.F.slot_str_partition PySem.F.type_str_partition m_partition (dv 0) (a_cons d_str a_nil)) (g_tup (n := 3) rfl (gs_cons (g_name (i := 1) sc_place_in.nd rfl (Or.inl rfl)) (gs_cons (g_name (i := 2) sc_place_in.nd rfl (Or.inl rfl)) (gs_cons (g_name (i := 3) sc_place_in.nd rfl (Or.inl rfl)) gs_nil)))))
  (b_cons (s_set (i := 4) sc_place_in.nd rfl (Or.inl rfl) (d_call G_side_in (hr.mono (by decide)) rfl T.m_side_in T.k_side_in T.kb_side_in_1 (by intro _ _ h _; exact h) hp (a_cons (dv 1) a_nil)))
  (b_cons (s_if (DPW.t (w_or (t_cmp o_isN (dv 4) d_non (nomark _)) (w_or1 (t_cmp (o_eq hr.units) (dv 2) d_str (nomark _))))) (b_one (s_ret d_non)) b_nil)
  (b_cons (s_tryN (Good := fun C => C = CR) rfl rfl rfl X_InvalidRatio.m (fun C h => by rw [h]; exact XM) (fun _ _ _ tk hp => (b_one (s_set (i := 5) sc_place_in.nd rfl (Or.inl rfl) (d_cmethF T.cr_Ratio T.cm_Ratio_read G_Ratio_read T.bb_Ratio_read (hr.mono (by decide)) rfl T.m_Ratio hp (a_cons (dv 3) a_nil))))))
  (b_one (s_ret (d_if (DPW.t (w_and (t_val (d_meth T.ci_Ratio.cl T.mt_Ratio_is_below G_Ratio_is_below (hr.mono (by decide)) T.kb_Ratio_is_below_2 (fun us ws h1 h2 => match us, ws, h1, h2 with | [_, _], [], _, _ => rfl) hp (d_call0 G_zero (hr.mono (by decide)) rfl T.m_zero T.k_zero T.kb_zero_0 rfl hp) (a_cons (dv 5) a_nil) k_nil)) (w_and1 (t_val (d_meth T.ci_Ratio.cl T.mt_Ratio_is_below G_Ratio_is_below (hr.mono (by decide)) T.kb_Ratio_is_below_2 (fun us ws h1 h2 => match us, ws, h1, h2 with | [_, _], [], _, _ => rfl) hp (dv 5) (a_cons (d_call0 G_unit (hr.mono (by decide)) rfl T.m_unit T.k_unit T.kb_unit_0 rfl hp) a_nil) k_nil))))) (d_tup (a_cons (dv 4) (a_cons (dv 5) a_nil))) d_non))))))), ?_⟩
  clear hp ho hr G_side_in G_Ratio_read G_Ratio_is_below G_zero G_unit
  rintro ds M k x hl ⟨z, rfl, hz, q1, q2⟩
  have big := size_big
  refine ⟨_, rfl, rfl, z, Str.ofString "@", rfl, rfl, by decide +kernel, by omega, ?_⟩
  refine ⟨_, rfl, rfl, _, _, rfl, _, _, rfl, _, _, rfl, rfl, ?_⟩
  rcases TX.part_cases TX.tl_at z with ⟨h, e⟩ | ⟨x1, y1, h, hx, lx, ly, e⟩
  · rw [e]
    have no : k .non M := q2 fun p p' a b w => h (by rw [w.2.2.2.2.2.2.2]; unfold TX.plL; simp)
    refine ⟨_, rfl, rfl, sdK (by show z.length ≤ 100000; omega) fun r1 s1 => ?_⟩
    refine ⟨_, rfl, rfl, _, rfl, ite_b (fun _ => iteT no) fun _ => ?_⟩
    exact ⟨_, rfl, .of (eqD_str _ _) ⟨_, rfl, iteT no⟩⟩
  · rw [e]
    have uniq : ∀ p p' a b, PlT (TL.tl z) p p' a b → TL.tl x1 = TX.sdL p p' ∧ TL.tl y1 = TX.txL a b := fun p p' a b w => TX.cut_uniq (h.symm.trans w.2.2.2.2.2.2.2) hx (TX.sd_free (by decide))
    refine ⟨_, rfl, rfl, sdK (by show x1.length ≤ 100000; omega) fun r1 s1 => ?_⟩
    rcases s1 with ⟨p, p', b1, b2, hlt, e1, rfl⟩ | ⟨n1, rfl⟩
    case inr =>
      refine ⟨_, rfl, rfl, _, rfl, iteT (iteT (q2 fun p p' a b w => ?_))⟩
      exact n1 p p' w.1 w.2.1 w.2.2.1 (uniq _ _ _ _ w).1
    refine ⟨_, rfl, rfl, _, rfl, iteF ?_⟩
    refine ⟨_, rfl, .of (eqD_str _ _) ⟨_, rfl, iteF ?_⟩⟩
    refine ⟨_, rfl, rfl, _, rfl, ?_⟩
    by_cases hy : y1.length ≤ 2000
    · refine .inl ⟨y1, rfl, hy, fun a b nf e2 => ?_, fun h2 => ⟨rfl, q2 fun p p' a b w => ?_⟩⟩
      · subst e2
        have ez : TL.tl z = TX.plL p p' a b := by rw [h, e1, TX.tl_txS]; rfl
        have sz := sizeZ hy
        have pos := nf.pos
        have la : Lg a := TX.log_ten sz.1
        have lb : Lg b := TX.log_ten sz.2
        have l1 : Lg 1 := by unfold Lg; decide
        have l0 : Lg 0 := by unfold Lg; decide
        have ht : (TX.txL a b).length ≤ 2000 := by rw [← TX.tl_txS, TX.tl_len]; exact hy
        have inj : ∀ c c' d d', PlT (TL.tl z) c c' d d' → a = d ∧ b = d' := fun c c' d d' w => (TX.plL_inj nf w.2.2.2.1 (ez.symm.trans w.2.2.2.2.2.2.2)).2.2
        refine ⟨rfl, rfl, _, rfl, rfl, _, rfl, rfl, rfl, 0, 1, a, b, rfl, mul_lg l0 lb, mul_lg la l1, _, rfl, ?_⟩
        refine ite_b (fun c1 => ?_) (fun c1 => ?_)
        · have c1 := of_decide_eq_true c1
          refine ⟨_, rfl, _, rfl, rfl, rfl, rfl, rfl, rfl, a, b, 1, 1, rfl, mul_lg la l1, mul_lg l1 lb, _, rfl, ?_⟩
          refine ite_b (fun c2 => ?_) (fun c2 => ?_)
          · have c2 := of_decide_eq_true c2
            exact ⟨_, rfl, _, rfl, Nat.le_of_ble_eq_true rfl, q1 p p' a b ⟨b1, b2, hlt, nf, by omega, by omega, ht, ez⟩⟩
          · have c2 := of_decide_eq_false c2
            refine q2 fun c c' d d' w => ?_
            obtain ⟨rfl, rfl⟩ := inj _ _ _ _ w
            exact c2 (by have := w.2.2.2.2.2.1; omega)
        · have c1 := of_decide_eq_false c1
          refine iteF (q2 fun c c' d d' w => ?_)
          obtain ⟨rfl, rfl⟩ := inj _ _ _ _ w
          exact c1 (by have := w.2.2.2.2.1; omega)
      · exact h2 a b w.2.2.2.1 (TX.eq_txS (uniq _ _ _ _ w).2)
    · refine .inr (.inl ⟨y1, rfl, by omega, by omega, rfl, q2 fun p p' a b w => hy ?_⟩)
      have := w.2.2.2.2.2.2.1
      rw [← (uniq _ _ _ _ w).2, TX.tl_len] at this
      exact this

end W58
set_option Elab.async false
set_option linter.all false
set_option maxRecDepth 100000
set_option maxHeartbeats 4000000
set_option pp.deepTerms false
set_option pp.deepTerms.threshold 12
set_option pp.maxSteps 4000
namespace W58
open PySem PySem.Spec PyProof.Rows L2 DL
local macro_rules | `(tactic| walk_at "sc") => `(tactic| first | assumption | rfl | exact Nat.le_of_ble_eq_true rfl | decide | omega | exact mul_small (by omega) (by omega) | exact mul_smallR (by omega) (by omega) | exact ⟨by decide, by decide, by decide⟩ | exact ⟨by omega, by assumption⟩ | exact ⟨by decide, log2_small (by decide) (by decide)⟩)
local macro_rules | `(tactic| walk_at "go1") => `(tactic| first | refine ⟨_, rfl, ?_⟩ | refine ⟨rfl, ?_⟩ | refine ⟨_, by assumption, ?_⟩ | refine ⟨_, mup_same, ?_⟩ | refine eqI ?_ | refine neI ?_ | refine iteT ?_ | refine iteF ?_ | refine ⟨(by walk_at "sc"), ?_⟩)
local macro_rules | `(tactic| walk_at "go") => `(tactic| repeat walk_at "go1")

/-- the law's bag: cells, place, rest of a great cell, seed, count -/
structure Bag where
  cells : List Int
  pos : Nat
  great : Int
  seed : Int
  cnt : Int
def Bag.mo (b : Bag) : MO := .lst [.lst (b.cells.map .int), .int b.pos, .int b.great, .int b.seed, .int b.cnt]
structure Bag.Ok (b : Bag) : Prop where
  s0 : 0 ≤ b.seed
  s1 : b.seed < 4294967296
theorem mul_small {i j : Int} (h0 : 0 ≤ i) (h1 : i < 18446744073709551616) : MulOk i j := .inl (.inl ⟨by omega, by omega⟩)
theorem mul_smallR {i j : Int} (h0 : -18446744073709551616 < j) (h1 : j < 18446744073709551616) : MulOk i j := .inl (.inr ⟨by omega, by omega⟩)
theorem log2_small {j : Int} (h0 : 0 < j) (h1 : j < 18446744073709551616) : j.natAbs.log2 < 9000 := by
  have : j.natAbs < 2 ^ 64 := by omega
  exact Nat.lt_of_lt_of_le (PySem.Flt.log2_lt_of (by decide) this) (by decide)

theorem mup2 {M : Mm} {p r : Addr} {a b L : MO} (ne : r ≠ p) : mup (mup (mup M p a) r L) p b = mup (mup M p b) r L := by
  funext c
  unfold mup
  by_cases e : c = r
  · subst e; rw [if_neg ne, if_pos rfl, if_pos rfl]
  · rw [if_neg e, if_neg e]
    by_cases e2 : c = p
    · rw [if_pos e2, if_pos e2]
    · rw [if_neg e2, if_neg e2, if_neg e2]
theorem mup2_at {M : Mm} {p r : Addr} {a L : MO} (ne : r ≠ p) : mup (mup M p a) r L p = some a := by rw [mup_ne (Ne.symm ne), mup_same]

def ph__law_start : Ct := fun ds M k _ => ∃ ns : List Int, ds = [.scr ns] ∧ ns.length ≤ 63 ∧ ∀ p b, M p = none → Bag.Ok b → k (.cel p) (mup M p b.mo)
theorem ok__law_start {K : PySem.W.Frag} {mg : Str → Option Value} {ad : Nat → Addr} {fd : Nat → FuncData} {cl : Nat → Addr} {P : Program} {w : World} {base : Heap} (T : Txt K mg ad fd cl) : FnOk P w K mg base (L2.CX P w) 1 (ad 23) (fd 23) ["_law_script"] (spD K 1 ph__law_start) := by
  refine fn_D T.F__law_start sc__law_start rfl fun cdv A outer s H E hr hp ho => ⟨_, (b_one (s_ret (d_lstM (a_cons (d_callTy c_list rfl T.b_list boot_list' (a_cons (d_slice sl_D (dv 0) o_none (o_some d_int)) a_nil)) (a_cons d_int (a_cons d_int (a_cons (d_op o_add d_int (d_callB c_len rfl T.b_len boot_len' (a_cons (dv 0) a_nil))) (a_cons d_int a_nil)))))))), ?_⟩
  clear hp ho hr
  rintro ds M k x hl ⟨ns, rfl, hn, q⟩
  refine ⟨_, rfl, _, rfl, _, rfl, ?_⟩
  refine ⟨by show 5 ≤ sizeLine; decide, fun p hp => ?_⟩
  exact q p ⟨DL.cutD ns none (some 63), 0, 0, 49290 + ns.length, 0⟩ hp ⟨by show 0 ≤ (49290 : Int) + _; omega, by show (49290 : Int) + _ < _; omega⟩

def ph__law_pull : Ct := fun ds M k _ => ∃ (p : Addr) (b : Bag) (many : Int), ds = [.cel p, .int many] ∧ M p = some b.mo ∧ b.Ok ∧ 0 < many ∧ many.natAbs.log2 < 9000 ∧ ∀ (d : Int) (b' : Bag), 0 ≤ d → d < many → b'.Ok → k (.int d) (mup M p b'.mo)
theorem ok__law_pull {K : PySem.W.Frag} {mg : Str → Option Value} {ad : Nat → Addr} {fd : Nat → FuncData} {cl : Nat → Addr} {P : Program} {w : World} {base : Heap} (T : Txt K mg ad fd cl) : FnOk P w K mg base (L2.CX P w) 1 (ad 24) (fd 24) ["_law_bag", "_law_many"] (spD K 2 ph__law_pull) := by
  refine fn_D T.F__law_pull sc__law_pull rfl fun cdv A outer s H E hr hp ho => ⟨_, (b_cut (s_if (DPW.t (w_and (t_cmp (o_eq hr.units) (d_ix x_ix (dv 0) d_int (fun _ _ => rfl)) d_int (nomark _)) (w_and1 (t_cmp o_lt (d_ix x_ix (dv 0) d_int (fun _ _ => rfl)) (d_callB c_len rfl T.b_len boot_len' (a_cons (d_ix x_ix (dv 0) d_int (fun _ _ => rfl)) a_nil)) (nomark _))))) (b_cons (s_set (i := 2) sc__law_pull.nd rfl (Or.inl rfl) (d_ix x_ix (d_ix x_ix (dv 0) d_int (fun _ _ => rfl)) (d_ix x_ix (dv 0) d_int (fun _ _ => rfl)) (fun _ _ => rfl)))
  (b_cons (s_setIx (d_op o_add (d_ix x_ix (dv 0) d_int (fun _ _ => rfl)) d_int) (dv 0) d_int)
  (b_one (s_if (t_cmp o_ge (dv 2) (d_op o_pow d_int d_int) (nomark _)) (b_one (s_setIx (dv 2) (dv 0) d_int)) (b_one (s_setIx (d_op o_mod (d_callTy c_int rfl T.b_int boot_int' (a_cons (d_op o_add (d_op o_add (d_op o_mul (d_ix x_ix (dv 0) d_int (fun _ _ => rfl)) d_int) (d_op o_mul (d_op o_mod (d_callTy c_int rfl T.b_int boot_int' (a_cons (dv 2) a_nil)) d_int) d_int)) d_int) a_nil)) d_int) (dv 0) d_int)))))) b_nil)
  (b_cut (s_if (t_cmp o_gt (d_ix x_ix (dv 0) d_int (fun _ _ => rfl)) d_int (nomark _)) (b_cons (s_set (i := 3) sc__law_pull.nd rfl (Or.inl rfl) (d_op o_mod (d_callTy c_int rfl T.b_int boot_int' (a_cons (d_ix x_ix (dv 0) d_int (fun _ _ => rfl)) a_nil)) (dv 1)))
  (b_cons (s_setIx (d_op o_fdiv (d_ix x_ix (dv 0) d_int (fun _ _ => rfl)) (dv 1)) (dv 0) d_int)
  (b_one (s_ret (dv 3))))) b_nil)
  (b_cons (s_setIx (d_op o_add (d_ix x_ix (dv 0) d_int (fun _ _ => rfl)) d_int) (dv 0) d_int)
  (b_cons (s_set (i := 4) sc__law_pull.nd rfl (Or.inl rfl) (d_ix x_ix (dv 0) d_int (fun _ _ => rfl)))
  (b_cons (s_setIx (d_op o_mod (d_callTy c_int rfl T.b_int boot_int' (a_cons (d_op o_add (d_op o_add (d_op o_add (d_op o_mul (dv 4) (dv 4)) (d_op o_mul (dv 4) d_int)) (d_op o_mul (d_ix x_ix (dv 0) d_int (fun _ _ => rfl)) d_int)) d_int) a_nil)) d_int) (dv 0) d_int)
  (b_one (s_ret (d_op o_mod (d_callTy c_int rfl T.b_int boot_int' (a_cons (d_op o_add (d_op o_fdiv (d_ix x_ix (dv 0) d_int (fun _ _ => rfl)) d_int) (d_op o_mul (d_op o_mod (d_callTy c_int rfl T.b_int boot_int' (a_cons (d_ix x_ix (dv 0) d_int (fun _ _ => rfl)) a_nil)) d_int) d_int)) a_nil)) (dv 1))))))))), ?_⟩
  clear hp ho hr
  rintro ds M k x hl ⟨p, b, many, rfl, hm, hb, h0, hz, q⟩
  obtain ⟨cells, pos, great, seed, cnt⟩ := b
  obtain ⟨s0, s1⟩ := hb
  simp only at s0 s1
  refine ⟨fun ρ1 M1 => ∃ (b1 : Bag) (r : Option D), b1.Ok ∧ M1 = mup M p b1.mo ∧ ρ1 = [some (.cel p), some (.int many), r, none, none], ?_, ?_⟩
  · walk_at "go"
    refine ite_b (fun e1 => ?_) (fun e1 => ?_)
    · walk_at "go"
      refine ite_b (fun e2 => ?_) (fun e2 => ?_)
      · have e2 := of_decide_eq_true e2
        simp only [List.length_map] at e2
        obtain ⟨c, hc⟩ : ∃ c, cells[pos]? = some c := ⟨cells[pos]'(by omega), by simp⟩
        refine ⟨_, rfl, _, hm, _, rfl, _, rfl, _, hm, _, rfl, .int c, atI_nat (by simp [hc]), ?_⟩
        refine ⟨_, rfl, _, hm, _, rfl, ⟨_, rfl, p, _, _, _, rfl, rfl, hm, rfl, ?_⟩⟩
        refine ⟨_, rfl, ⟨by decide, by decide, by decide⟩, ⟨_, rfl, ?_⟩⟩
        refine ite_b (fun e3 => ?_) (fun e3 => ?_)
        · refine ⟨_, rfl, _, rfl, p, _, _, _, rfl, rfl, mup_same, rfl, ?_⟩
          refine ⟨⟨cells, pos + 1, c, seed, cnt⟩, some (.int c), ⟨s0, s1⟩, ?_, rfl⟩
          rw [mup_mup]
          rfl
        · refine ⟨_, rfl, _, mup_same, _, rfl, mul_small s0 (by show seed < _; omega), _, rfl, (show (2147483489 : Int) ≠ 0 by decide), mul_smallR (by decide) (by decide), (show (2147483629 : Int) ≠ 0 by decide), ?_⟩
          refine ⟨_, rfl, p, _, _, _, rfl, rfl, mup_same, rfl, ?_⟩
          refine ⟨⟨cells, pos + 1, great, (seed * 40237 + c.fmod 2147483489 * 6581 + 37).fmod 2147483629, cnt⟩, some (.int c), ⟨(fmod_lt' (show (0 : Int) < 2147483629 by decide)).1, Int.lt_trans (fmod_lt' (show (0 : Int) < 2147483629 by decide)).2 (by decide)⟩, ?_, rfl⟩
          rw [mup_mup]
          rfl
      · refine ⟨⟨cells, pos, great, seed, cnt⟩, none, ⟨s0, s1⟩, ?_, rfl⟩
        funext a
        unfold mup
        split
        · rename_i e; rw [e]; exact hm
        · rfl
    · refine iteF ⟨⟨cells, pos, great, seed, cnt⟩, none, ⟨s0, s1⟩, ?_, rfl⟩
      funext a
      unfold mup
      split
      · rename_i e; rw [e]; exact hm
      · rfl
  · rintro ρ1 M1 ⟨⟨cells, pos, great, seed, cnt⟩, r, ⟨s0, s1⟩, rfl, rfl⟩
    simp only at s0 s1
    refine ⟨fun ρ2 M2 => M2 = mup M p (Bag.mo ⟨cells, pos, great, seed, cnt⟩) ∧ ρ2 = [some (.cel p), some (.int many), r, none, none], ?_, ?_⟩
    · refine ⟨_, rfl, _, mup_same, _, rfl, ⟨_, rfl, ?_⟩⟩
      refine ite_b (fun e => ?_) (fun e => ?_)
      · refine ⟨_, rfl, _, mup_same, _, rfl, _, rfl, by show many ≠ 0; omega, ?_⟩
        refine ⟨_, rfl, _, mup_same, _, rfl, _, rfl, ⟨by omega, hz⟩, _, rfl, p, _, _, _, rfl, rfl, mup_same, rfl, ?_⟩
        refine ⟨_, rfl, ?_⟩
        have q2 := q (great.fmod many) ⟨cells, pos, great.fdiv many, seed, cnt⟩ (fmod_lt' h0).1 (fmod_lt' h0).2 ⟨s0, s1⟩
        rw [mup_mup]
        exact q2
      · exact ⟨rfl, rfl⟩
    · rintro ρ2 M2 ⟨rfl, rfl⟩
      refine ⟨_, rfl, _, mup_same, _, rfl, ⟨_, rfl, p, _, _, _, rfl, rfl, mup_same, rfl, ?_⟩⟩
      refine ⟨_, rfl, _, mup_same, _, rfl, ?_⟩
      refine ⟨_, rfl, _, rfl, mul_small s0 (by show seed < _; omega), _, rfl, mul_small s0 (by show seed < _; omega), _, rfl, _, mup_same, _, rfl, mul_smallR (by decide) (by decide), (show (2147483579 : Int) ≠ 0 by decide), ?_⟩
      refine ⟨_, rfl, p, _, _, _, rfl, rfl, mup_same, rfl, ?_⟩
      refine ⟨_, rfl, _, mup_same, _, rfl, ⟨by decide, log2_small (by decide) (by decide)⟩, ?_⟩
      refine ⟨_, rfl, _, mup_same, _, rfl, (show (8059 : Int) ≠ 0 by decide), mul_smallR (by decide) (by decide), ?_⟩
      refine ⟨_, rfl, by show many ≠ 0; omega, ?_⟩
      rw [mup_mup, mup_mup]
      exact q _ ⟨cells, pos, great, (seed * seed + seed * 28657 + (cnt + 1) * 1300367 + 70001).fmod 2147483579, cnt + 1⟩ (fmod_lt' h0).1 (fmod_lt' h0).2 ⟨(fmod_lt' (show (0 : Int) < 2147483579 by decide)).1, Int.lt_trans (fmod_lt' (show (0 : Int) < 2147483579 by decide)).2 (by decide)⟩

def ph__law_pick : Ct := fun ds M k _ => ∃ (p : Addr) (b : Bag) (s : D), ds = [.cel p, s] ∧ M p = some b.mo ∧ b.Ok ∧ ((∃ es, s = .lst es ∧ 0 < es.length ∧ es.length ≤ 1000 ∧ ∀ d ∈ es, ∀ b' : Bag, b'.Ok → k d (mup M p b'.mo)) ∨
  ∃ z : Str, s = .str z ∧ 0 < z.length ∧ z.length ≤ 1000 ∧ ∀ c ∈ z.cps.toList, ∀ b' : Bag, b'.Ok → k (.str ⟨#[c]⟩) (mup M p b'.mo))
theorem atI_some {α : Type} {xs : List α} {d : Int} (h0 : 0 ≤ d) (h1 : d < xs.length) : ∃ v, atI xs d = some v ∧ v ∈ xs := by
  have h : d.toNat < xs.length := by omega
  refine ⟨xs[d.toNat], ?_, List.getElem_mem h⟩
  have e : d = (d.toNat : Int) := by omega
  exact (congrArg (atI xs) e).trans (atI_nat (xs := xs) (j := d.toNat) (v := xs[d.toNat]) (by simp))
theorem ok__law_pick {K : PySem.W.Frag} {mg : Str → Option Value} {ad : Nat → Addr} {fd : Nat → FuncData} {cl : Nat → Addr} {P : Program} {w : World} {base : Heap} (T : Txt K mg ad fd cl) : FnOk P w K mg base (L2.CX P w) 3 (ad 25) (fd 25) ["_law_bag", "_law_some"] (spD K 2 ph__law_pick) := by
  have G__law_pull := ok__law_pull (P := P) (w := w) (base := base) T
  refine fn_D T.F__law_pick sc__law_pick rfl fun cdv A outer s H E hr hp ho => ⟨_, (b_one (s_ret (d_ix x_ix (dv 1) (d_call G__law_pull (hr.mono (by decide)) rfl T.m__law_pull T.k__law_pull T.kb__law_pull_2 (by intro _ _ h _; exact h) hp (a_cons (dv 0) (a_cons (d_callB c_len rfl T.b_len boot_len' (a_cons (dv 1) a_nil)) a_nil))) (fun _ _ => rfl)))), ?_⟩
  clear hp ho hr G__law_pull
  rintro ds M k x hl ⟨p, b, s, rfl, hm, hb, q⟩
  rcases q with ⟨es, rfl, l0, l1, q⟩ | ⟨z, rfl, l0, l1, q⟩
  · refine ⟨_, rfl, _, rfl, _, rfl, rfl, p, b, _, rfl, hm, hb, by show (0 : Int) < es.length; omega, log2_small (by show (0 : Int) < es.length; omega) (by show (es.length : Int) < _; omega), fun d b' h0 h1 hb' => ?_⟩
    obtain ⟨v, hv, mv⟩ := atI_some h0 h1
    exact ⟨v, hv, q v mv b' hb'⟩
  · refine ⟨_, rfl, _, rfl, _, rfl, ⟨Nat.le_trans l1 (by decide), ?_⟩⟩
    refine ⟨rfl, p, b, _, rfl, hm, hb, by show (0 : Int) < z.length; omega, log2_small (by show (0 : Int) < z.length; omega) (by show (z.length : Int) < _; omega), fun d b' h0 h1 hb' => ?_⟩
    have hz : z.cps.toList.length = z.length := by simp [Str.length]
    obtain ⟨v, hv, mv⟩ := atI_some (xs := z.cps.toList) h0 (by rw [hz]; exact h1)
    exact ⟨Nat.le_trans l1 (by decide), v, hv, q v mv b' hb'⟩
def ph__law_key : Ct := fun ds M k _ => ∃ p q : TX.Pr, ds = [pairD p, pairD q] ∧ k (if TX.PLt p q then sideD p q else sideD q p) M
theorem ok__law_key {K : PySem.W.Frag} {mg : Str → Option Value} {ad : Nat → Addr} {fd : Nat → FuncData} {cl : Nat → Addr} {P : Program} {w : World} {base : Heap} (T : Txt K mg ad fd cl) : FnOk P w K mg base (L2.CX P w) 1 (ad 26) (fd 26) ["_law_p", "_law_q"] (spD K 2 ph__law_key) := by
  refine fn_D T.F__law_key sc__law_key rfl fun cdv A outer s H E hr hp ho => ⟨_, (b_one (s_ret (d_if (t_cmp (o_ltD hr.units) (dv 0) (dv 1) (nomark _)) (d_tup (a_cons (dv 0) (a_cons (dv 1) a_nil))) (d_tup (a_cons (dv 1) (a_cons (dv 0) a_nil)))))), ?_⟩
  clear hp ho hr
  rintro ds M k x hl ⟨p, p', rfl, q⟩
  refine ⟨_, rfl, _, rfl, TX.prP p, TX.prP p', ⟨rfl, rfl, rfl, rfl, rfl, fun w => by cases w⟩, _, rfl, ?_⟩
  rw [TX.lt_pr]
  by_cases h : TX.PLt p p'
  · rw [if_pos h] at q
    rw [decide_eq_true h]
    exact iteT ⟨_, rfl, _, rfl, Nat.le_of_ble_eq_true rfl, q⟩
  · rw [if_neg h] at q
    rw [decide_eq_false h]
    exact iteF ⟨_, rfl, _, rfl, Nat.le_of_ble_eq_true rfl, q⟩
def ph__law_gcd : Ct := fun ds M k _ => ∃ a b : Int, ds = [.int a, .int b] ∧ 0 ≤ a ∧ 0 ≤ b ∧ k (.int (Int.gcd a b)) M
theorem ok__law_gcd {K : PySem.W.Frag} {mg : Str → Option Value} {ad : Nat → Addr} {fd : Nat → FuncData} {cl : Nat → Addr} {P : Program} {w : World} {base : Heap} (T : Txt K mg ad fd cl) : FnOk P w K mg base (L2.CX P w) 1 (ad 27) (fd 27) ["_law_a", "_law_b"] (spD K 2 ph__law_gcd) := by
  refine fn_D T.F__law_gcd sc__law_gcd rfl fun cdv A outer s H E hr hp ho => ⟨_, (b_cons (s_while ho (t_cmp o_gt (dv 1) d_int (nomark _))
  (b_one (s_par (i := 0) (j := 1) rfl sc__law_gcd.nd rfl rfl (by decide) rfl rfl (a_cons (dv 1) (a_cons (d_op o_mod (d_callTy c_int rfl T.b_int boot_int' (a_cons (dv 0) a_nil)) (dv 1)) a_nil)) rfl)))
  (b_one (s_ret (dv 0)))), ?_⟩
  clear hp ho hr
  rintro ds M k x hl ⟨a, b, rfl, ha, hb, q⟩
  refine WhK.of (fun m ρ M' => ∃ x y : Int, M' = M ∧ ρ = [some (.int x), some (.int y)] ∧ 0 ≤ x ∧ 0 ≤ y ∧ Int.gcd x y = Int.gcd a b ∧ m = y.toNat) ⟨_, a, b, rfl, rfl, ha, hb, rfl, rfl⟩ ?_
  rintro m ρ M' ⟨x, y, rfl, rfl, hx, hy, hg, rfl⟩
  refine ⟨_, rfl, _, rfl, ?_⟩
  refine ite_b (fun e => ?_) (fun e => ?_)
  · have e := of_decide_eq_true e
    have f := fmod_lt' (i := x) e
    refine ⟨_, rfl, _, rfl, _, rfl, by show y ≠ 0; omega, _, _, rfl, _, ?_, y, x.fmod y, rfl, rfl, hy, f.1, (gcd_step e).trans hg, rfl⟩
    omega
  · have e : ¬ (0 < y) := of_decide_eq_false e
    have z : y = 0 := by omega
    subst z
    have : (Int.gcd a b : Int) = x := by rw [← hg, Int.gcd_zero_right]; omega
    refine ⟨_, rfl, ?_⟩
    rw [← this]
    exact q
section
variable {M0 : Mm} {p r : Addr} {b : Bag} {L : MO} {k : DK} {x : DX}
theorem pullK {many : Int} (hb : b.Ok) (h0 : 0 < many) (hz : many.natAbs.log2 < 9000) (h : ∀ (d : Int) (b' : Bag), 0 ≤ d → d < many → b'.Ok → k (.int d) (mup M0 p b'.mo)) : ph__law_pull [.cel p, .int many] (mup M0 p b.mo) k x :=
  ⟨p, b, many, rfl, mup_same, hb, h0, hz, fun d b' h1 h2 h3 => by rw [mup_mup]; exact h d b' h1 h2 h3⟩
theorem pickL {es : List D} (hb : b.Ok) (h0 : 0 < es.length) (h1 : es.length ≤ 1000) (h : ∀ d ∈ es, ∀ b' : Bag, b'.Ok → k d (mup M0 p b'.mo)) : ph__law_pick [.cel p, .lst es] (mup M0 p b.mo) k x :=
  ⟨p, b, _, rfl, mup_same, hb, .inl ⟨es, rfl, h0, h1, fun d hd b' h3 => by rw [mup_mup]; exact h d hd b' h3⟩⟩
theorem pullK2 {many : Int} (ne : r ≠ p) (hb : b.Ok) (h0 : 0 < many) (hz : many.natAbs.log2 < 9000) (h : ∀ (d : Int) (b' : Bag), 0 ≤ d → d < many → b'.Ok → k (.int d) (mup (mup M0 p b'.mo) r L)) : ph__law_pull [.cel p, .int many] (mup (mup M0 p b.mo) r L) k x :=
  ⟨p, b, many, rfl, mup2_at ne, hb, h0, hz, fun d b' h1 h2 h3 => by rw [mup2 ne]; exact h d b' h1 h2 h3⟩
theorem pickL2 {es : List D} (ne : r ≠ p) (hb : b.Ok) (h0 : 0 < es.length) (h1 : es.length ≤ 1000) (h : ∀ d ∈ es, ∀ b' : Bag, b'.Ok → k d (mup (mup M0 p b'.mo) r L)) : ph__law_pick [.cel p, .lst es] (mup (mup M0 p b.mo) r L) k x :=
  ⟨p, b, _, rfl, mup2_at ne, hb, .inl ⟨es, rfl, h0, h1, fun d hd b' h3 => by rw [mup2 ne]; exact h d hd b' h3⟩⟩
end
theorem lg_le {n : Int} (h0 : 0 < n) (h1 : n ≤ 10 ^ 40) : n.natAbs.log2 < 9000 := by
  have : n.natAbs < 2 ^ 200 := by omega
  exact Nat.lt_trans ((Nat.log2_lt (by omega)).mpr this) (by decide)
theorem cp (j : Int) (h0 : 0 ≤ j) (h1 : j ≤ 40) : CPow 10 j := ⟨h0, by omega, by decide⟩
theorem e29 : (10 : Int) ^ Int.toNat 29 = 100000000000000000000000000000 := by decide +kernel
theorem e30 : (10 : Int) ^ Int.toNat 30 = 1000000000000000000000000000000 := by decide +kernel
theorem e6 : (10 : Int) ^ Int.toNat 6 = 1000000 := by decide +kernel
theorem e3 : (10 : Int) ^ Int.toNat 3 = 1000 := by decide +kernel
theorem e9 : (10 : Int) ^ Int.toNat 9 = 1000000000 := by decide +kernel
def frc (a b : Int) : D := .tup [.int a, .int b]
def ph__law_frac : Ct := fun ds M k _ => ∃ a b : Int, ds = [.int a, .int b] ∧ b ≠ 0 ∧ Lg b ∧ k (frc (RT.nrm a b).1 (RT.nrm a b).2) M
theorem ok__law_frac {K : PySem.W.Frag} {mg : Str → Option Value} {ad : Nat → Addr} {fd : Nat → FuncData} {cl : Nat → Addr} {P : Program} {w : World} {base : Heap} (T : Txt K mg ad fd cl) : FnOk P w K mg base (L2.CX P w) 3 (ad 28) (fd 28) ["_law_a", "_law_b"] (spD K 2 ph__law_frac) := by
  have G__law_gcd := ok__law_gcd (P := P) (w := w) (base := base) T
  refine fn_D T.F__law_frac sc__law_frac rfl fun cdv A outer s H E hr hp ho => ⟨_, (b_cons (s_set (i := 2) sc__law_frac.nd rfl (Or.inl rfl) (d_call G__law_gcd (hr.mono (by decide)) rfl T.m__law_gcd T.k__law_gcd T.kb__law_gcd_2 (by intro _ _ h _; exact h) hp (a_cons (d_callB c_abs rfl T.b_abs boot_abs' (a_cons (dv 0) a_nil)) (a_cons (d_callB c_abs rfl T.b_abs boot_abs' (a_cons (dv 1) a_nil)) a_nil))))
  (b_cons (s_set (i := 2) sc__law_frac.nd rfl (Or.inl rfl) (d_if (t_cmp o_gt (dv 1) d_int (nomark _)) (dv 2) (d_op o_sub d_int (dv 2))))
  (b_one (s_ret (d_tup (a_cons (d_op o_fdiv (dv 0) (dv 2)) (a_cons (d_op o_fdiv (dv 1) (dv 2)) a_nil))))))), ?_⟩
  clear hp ho hr G__law_gcd
  rintro ds M k x hl ⟨a, b, rfl, hb, lb, q⟩
  obtain ⟨g1, g2⟩ := gcd_div (a := a) hb lb
  refine ⟨_, rfl, _, rfl, rfl, _, _, rfl, ?_, ?_, ?_⟩
  · rw [abs_eq]; omega
  · rw [abs_eq]; omega
  rw [abs_eq, abs_eq, gcd_abs]
  refine ⟨_, rfl, _, rfl, ?_⟩
  refine ite_b (fun e => ?_) (fun e => ?_)
  · have e := of_decide_eq_true e
    refine ⟨_, rfl, ?_⟩
    refine ⟨_, rfl, _, rfl, g1, _, rfl, _, rfl, g1, Nat.le_of_ble_eq_true rfl, ?_⟩
    have en : RT.nrm a b = (a.fdiv (Int.gcd a b : Int), b.fdiv (Int.gcd a b : Int)) := by
      unfold RT.nrm
      rw [if_neg (by omega)]
    rw [en] at q
    exact q
  · have e : ¬ 0 < b := of_decide_eq_false e
    refine ⟨_, rfl, ?_⟩
    have g2' : DL.DivOk 0 (0 - (Int.gcd a b : Int)) := by rw [Int.zero_sub]; exact g2
    refine ⟨_, rfl, _, rfl, g2', _, rfl, _, rfl, g2', Nat.le_of_ble_eq_true rfl, ?_⟩
    have en : RT.nrm a b = (a.fdiv (0 - (Int.gcd a b : Int)), b.fdiv (0 - (Int.gcd a b : Int))) := by
      unfold RT.nrm
      rw [if_pos (by omega)]
    rw [en] at q
    exact q
def ph__law_pair_text : Ct := fun ds M k _ => ∃ p : TX.Pr, ds = [pairD p] ∧ TX.PB p ∧ k (.str (TX.mkS (TX.prL p))) M
theorem ok__law_pair_text {K : PySem.W.Frag} {mg : Str → Option Value} {ad : Nat → Addr} {fd : Nat → FuncData} {cl : Nat → Addr} {P : Program} {w : World} {base : Heap} (T : Txt K mg ad fd cl) : FnOk P w K mg base (L2.CX P w) 1 (ad 29) (fd 29) ["_law_pair"] (spD K 1 ph__law_pair_text) := by
  refine fn_D T.F__law_pair_text sc__law_pair_text rfl fun cdv A outer s H E hr hp ho => ⟨_, (b_one (s_ret (d_op o_add (d_op o_add (d_callTy (c_strB rfl T.dg) rfl T.b_str boot_str' (a_cons (d_ix x_ix (dv 0) d_int (fun _ _ => rfl)) a_nil)) d_str) (d_callTy (c_strB rfl T.dg) rfl T.b_str boot_str' (a_cons (d_ix x_ix (dv 0) d_int (fun _ _ => rfl)) a_nil))))), ?_⟩
  clear hp ho hr
  rintro ds M k x hl ⟨p, rfl, hp, q⟩
  have b1 := bd43 hp.1
  have b2 := bd43 hp.2
  have l1 := itlenB b1
  have l2 := itlenB b2
  have l3 := l_cm1
  have big := size_big
  have e : Str.ofString (toString p.1) ++ Str.ofString "," ++ Str.ofString (toString p.2) = TX.mkS (TX.prL p) := TX.eq_mk (by rw [TL.tl_append, TL.tl_append, TX.tl_int, TX.tl_int, TX.tl_cm, List.append_assoc]; rfl)
  rw [← e] at q
  refine ⟨_, rfl, _, rfl, b1, by clear b1 b2; omega, ?_⟩
  exact ⟨_, rfl, _, rfl, b2, by clear b1 b2; rw [Str.length_append]; omega, q⟩
def ph__law_side_text : Ct := fun ds M k _ => ∃ p q : TX.Pr, ds = [sideD p q] ∧ TX.PB p ∧ TX.PB q ∧ k (.str (TX.mkS (TX.sdL p q))) M
theorem ok__law_side_text {K : PySem.W.Frag} {mg : Str → Option Value} {ad : Nat → Addr} {fd : Nat → FuncData} {cl : Nat → Addr} {P : Program} {w : World} {base : Heap} (T : Txt K mg ad fd cl) : FnOk P w K mg base (L2.CX P w) 3 (ad 30) (fd 30) ["_law_edge"] (spD K 1 ph__law_side_text) := by
  have G__law_pair_text := ok__law_pair_text (P := P) (w := w) (base := base) T
  refine fn_D T.F__law_side_text sc__law_side_text rfl fun cdv A outer s H E hr hp ho => ⟨_, (b_one (s_ret (d_op o_add (d_op o_add (d_call G__law_pair_text (hr.mono (by decide)) rfl T.m__law_pair_text T.k__law_pair_text T.kb__law_pair_text_1 (by intro _ _ h _; exact h) hp (a_cons (d_ix x_ix (dv 0) d_int (fun _ _ => rfl)) a_nil)) d_str) (d_call G__law_pair_text (hr.mono (by decide)) rfl T.m__law_pair_text T.k__law_pair_text T.kb__law_pair_text_1 (by intro _ _ h _; exact h) hp (a_cons (d_ix x_ix (dv 0) d_int (fun _ _ => rfl)) a_nil))))), ?_⟩
  clear hp ho hr G__law_pair_text
  rintro ds M k x hl ⟨p, p', rfl, hp, hp', q⟩
  have l1 := TX.pr_len hp
  have l2 := TX.pr_len hp'
  have l3 : (Str.ofString ":").length = 1 := by decide +kernel
  have big := size_big
  rw [← TX.mk_len] at l1 l2
  have e : TX.mkS (TX.prL p) ++ Str.ofString ":" ++ TX.mkS (TX.prL p') = TX.mkS (TX.sdL p p') := TX.eq_mk (by rw [TL.tl_append, TL.tl_append, TX.tl_cl, List.append_assoc]; rfl)
  rw [← e] at q
  refine ⟨_, rfl, _, rfl, rfl, p, rfl, hp, by omega, ?_⟩
  exact ⟨_, rfl, _, rfl, rfl, p', rfl, hp', by rw [Str.length_append]; omega, q⟩
def ph__law_text : Ct := fun ds M k _ => ∃ a b : Int, ds = [frc a b] ∧ a.natAbs < 10 ^ 4300 ∧ b.natAbs < 10 ^ 4300 ∧ k (.str (TX.txS a b)) M
theorem ok__law_text {K : PySem.W.Frag} {mg : Str → Option Value} {ad : Nat → Addr} {fd : Nat → FuncData} {cl : Nat → Addr} {P : Program} {w : World} {base : Heap} (T : Txt K mg ad fd cl) : FnOk P w K mg base (L2.CX P w) 1 (ad 31) (fd 31) ["_law_p"] (spD K 1 ph__law_text) := by
  refine fn_D T.F__law_text sc__law_text rfl fun cdv A outer s H E hr hp ho => ⟨_, (b_one (s_ret (d_if (t_cmp (o_eq hr.units) (d_ix x_ix (dv 0) d_int (fun _ _ => rfl)) d_int (nomark _)) (d_callTy (c_strB rfl T.dg) rfl T.b_str boot_str' (a_cons (d_ix x_ix (dv 0) d_int (fun _ _ => rfl)) a_nil)) (d_op o_add (d_op o_add (d_callTy (c_strB rfl T.dg) rfl T.b_str boot_str' (a_cons (d_ix x_ix (dv 0) d_int (fun _ _ => rfl)) a_nil)) d_str) (d_callTy (c_strB rfl T.dg) rfl T.b_str boot_str' (a_cons (d_ix x_ix (dv 0) d_int (fun _ _ => rfl)) a_nil)))))), ?_⟩
  clear hp ho hr
  rintro ds M k x hl ⟨a, b, rfl, ha, hb, q⟩
  have l1 := itlenB ha
  have l2 := itlenB hb
  have big := size_big
  have l3 := l_sl
  refine ⟨_, rfl, _, rfl, eqI ⟨_, rfl, ?_⟩⟩
  unfold TX.txS at q
  refine ite_b (fun e => ?_) (fun e => ?_)
  · have e := of_decide_eq_true e
    rw [if_pos e] at q
    exact ⟨_, rfl, _, rfl, ha, q⟩
  · have e := of_decide_eq_false e
    rw [if_neg e] at q
    refine ⟨_, rfl, _, rfl, ha, by clear ha hb; omega, ?_⟩
    refine ⟨_, rfl, _, rfl, hb, by clear ha hb; rw [Str.length_append]; omega, q⟩
def ph__law_spot_text : Ct := fun ds M k _ => ∃ (p q : TX.Pr) (a b : Int), ds = [.tup [sideD p q, frc a b]] ∧ TX.PB p ∧ TX.PB q ∧ a.natAbs < 10 ^ 2000 ∧ b.natAbs < 10 ^ 2000 ∧ k (.str (TX.mkS (TX.plL p q a b))) M
theorem ok__law_spot_text {K : PySem.W.Frag} {mg : Str → Option Value} {ad : Nat → Addr} {fd : Nat → FuncData} {cl : Nat → Addr} {P : Program} {w : World} {base : Heap} (T : Txt K mg ad fd cl) : FnOk P w K mg base (L2.CX P w) 5 (ad 32) (fd 32) ["_law_spot"] (spD K 1 ph__law_spot_text) := by
  have G__law_side_text := ok__law_side_text (P := P) (w := w) (base := base) T
  have G__law_text := ok__law_text (P := P) (w := w) (base := base) T
  refine fn_D T.F__law_spot_text sc__law_spot_text rfl fun cdv A outer s H E hr hp ho => ⟨_, (b_one (s_ret (d_op o_add (d_op o_add (d_call G__law_side_text (hr.mono (by decide)) rfl T.m__law_side_text T.k__law_side_text T.kb__law_side_text_1 (by intro _ _ h _; exact h) hp (a_cons (d_ix x_ix (dv 0) d_int (fun _ _ => rfl)) a_nil)) d_str) (d_call G__law_text (hr.mono (by decide)) rfl T.m__law_text T.k__law_text T.kb__law_text_1 (by intro _ _ h _; exact h) hp (a_cons (d_ix x_ix (dv 0) d_int (fun _ _ => rfl)) a_nil))))), ?_⟩
  clear hp ho hr G__law_side_text G__law_text
  rintro ds M k x hl ⟨p, p', a, b, rfl, hp, hp', ha, hb, q⟩
  have l1 := TX.sd_len hp hp'
  have l2 := txS_len (TX.ten_le ha) (TX.ten_le hb)
  have l3 : (Str.ofString "@").length = 1 := by decide +kernel
  have big := size_big
  have e : TX.mkS (TX.sdL p p') ++ Str.ofString "@" ++ TX.txS a b = TX.mkS (TX.plL p p' a b) := TX.eq_mk (by rw [TL.tl_append, TL.tl_append, TX.tl_txS, TX.tl_at, List.append_assoc]; rfl)
  rw [← TX.mk_len] at l1
  rw [← e] at q
  clear e
  refine ⟨_, rfl, _, rfl, rfl, p, p', rfl, hp, hp', by clear ha hb; omega, ?_⟩
  exact ⟨_, rfl, _, rfl, rfl, a, b, rfl, TX.ten_le ha, TX.ten_le hb, by clear ha hb; rw [Str.length_append]; omega, q⟩

end W58
set_option Elab.async false
set_option linter.all false
set_option maxRecDepth 100000
set_option maxHeartbeats 4000000
set_option pp.deepTerms false
set_option pp.deepTerms.threshold 12
set_option pp.maxSteps 4000
namespace W58
open PySem PySem.Spec PyProof.Rows L2 DL
local macro_rules | `(tactic| walk_at "sc") => `(tactic| first | assumption | rfl | exact Nat.le_of_ble_eq_true rfl | decide | omega | exact mul_small (by omega) (by omega) | exact mul_smallR (by omega) (by omega) | exact ⟨by decide, by decide, by decide⟩ | exact ⟨by omega, by assumption⟩ | exact ⟨by decide, log2_small (by decide) (by decide)⟩)
local macro_rules | `(tactic| walk_at "go1") => `(tactic| first | refine ⟨_, rfl, ?_⟩ | refine ⟨rfl, ?_⟩ | refine ⟨_, by assumption, ?_⟩ | refine ⟨_, mup_same, ?_⟩ | refine eqI ?_ | refine neI ?_ | refine iteT ?_ | refine iteF ?_ | refine ⟨(by walk_at "sc"), ?_⟩)
local macro_rules | `(tactic| walk_at "go") => `(tactic| repeat walk_at "go1")

def srt : Kd → Int
  | .non => 0 | .bl => 1 | .int => 2 | .str => 3 | .lst => 4 | .tup => 5
def ph__law_sort : Ct := fun ds M k _ => ∃ u v, ds = [u] ∧ kd u = some v ∧ k (.int (srt v)) M
theorem ok__law_sort {K : PySem.W.Frag} {mg : Str → Option Value} {ad : Nat → Addr} {fd : Nat → FuncData} {cl : Nat → Addr} {P : Program} {w : World} {base : Heap} (T : Txt K mg ad fd cl) : FnOk P w K mg base (L2.CX P w) 1 (ad 33) (fd 33) ["_law_thing"] (spD K 1 ph__law_sort) := by
  refine fn_D T.F__law_sort sc__law_sort rfl fun cdv A outer s H E hr hp ho => ⟨_, (b_cons (s_set (i := 1) sc__law_sort.nd rfl (Or.inl rfl) (d_lst (a_cons (d_cmp o_isN (dv 0) d_non (nomark _)) (a_cons (d_isi .bl (CS cl) (by decide) T.isi_bool rfl T.b_isinstance rfl T.b_bool (by decide +kernel) (dv 0)) (a_cons (d_isi .int (CS cl) (by decide) T.isi_int rfl T.b_isinstance rfl T.b_int (by decide +kernel) (dv 0)) (a_cons (d_isi .str (CS cl) (by decide) T.isi_str rfl T.b_isinstance rfl T.b_str (by decide +kernel) (dv 0)) a_nil))))))
  (b_cons (s_set (i := 1) sc__law_sort.nd rfl (Or.inl rfl) (d_op o_add (dv 1) (d_lst (a_cons (d_isi .lst (CS cl) (by decide) T.isi_list rfl T.b_isinstance rfl T.b_list (by decide +kernel) (dv 0)) (a_cons (d_isi .tup (CS cl) (by decide) T.isi_tuple rfl T.b_isinstance rfl T.b_tuple (by decide +kernel) (dv 0)) (a_cons d_bl a_nil))))))
  (b_one (s_ret (d_bm PySem.F.plainAttrs_list PySem.F.slot_list_index PySem.F.type_list_index m_index (dv 1) (a_cons d_bl a_nil)))))), ?_⟩
  clear hp ho hr
  rintro ds M k x hl ⟨u, v, rfl, hv, q⟩
  cases u <;> cases hv <;> (walk_at "go"; exact q)

mutual
/-- pure data at most n deep, its lists and tuples short -/
def pureD : Nat → D → Bool
  | _, .non => true
  | _, .bl _ => true
  | _, .int _ => true
  | _, .str _ => true
  | n + 1, .lst ds => pureDs n ds && decide (ds.length ≤ 100000)
  | n + 1, .tup ds => pureDs n ds && decide (ds.length ≤ 100000)
  | _, _ => false
def pureDs : Nat → List D → Bool
  | _, [] => true
  | n, d :: ds => pureD n d && pureDs n ds
end
theorem pureDs_mem {n : Nat} : ∀ {ds : List D} {d : D}, pureDs n ds = true → d ∈ ds → pureD n d = true
  | [], _, _, h => by cases h
  | e :: ds, d, h, hm => by
    simp only [pureDs, Bool.and_eq_true] at h
    rcases List.mem_cons.mp hm with z | z
    · rw [z]; exact h.1
    · exact pureDs_mem h.2 z
def ph__law_same (n : Nat) : Ct := fun ds M k _ => ∃ u, ds = [u, u] ∧ pureD n u = true ∧ k (.bl true) M
theorem zips_same : ∀ ds : List D, zips ds ds = ds.map fun d => .tup [d, d]
  | [] => rfl
  | d :: ds => by simp [zips, zips_same ds]
theorem all_true : ∀ n : Nat, (List.replicate n true).all id = true
  | 0 => rfl
  | n + 1 => by simp [List.replicate_succ]
theorem map_const (ds : List D) : ds.map (fun _ => D.bl true) = (List.replicate ds.length true).map D.bl := by
  induction ds with
  | nil => rfl
  | cons d ds ih => simp [List.replicate_succ, ih]
theorem gT2_mono {i j : Nat} {d : D} {ρ : DEnv} {M : Mm} (K K' : DEnv → Mm → Prop) (h : ∀ ρ M, K ρ M → K' ρ M) (q : gTupD 2 (gsCons (gN i) (gsCons (gN j) gsNil)) d ρ M K) : gTupD 2 (gsCons (gN i) (gsCons (gN j) gsNil)) d ρ M K' := by
  obtain ⟨ds, e, l, d1, r1, e1, d2, r2, e2, e3, q⟩ := q
  exact ⟨ds, e, l, d1, r1, e1, d2, r2, e2, e3, h _ _ q⟩

def phPrev : Nat → Ct
  | 0 => fun _ _ _ _ => False
  | n + 1 => ph__law_same n
theorem fn_false {P : Program} {w : World} {K : PySem.W.Frag} {mg : Str → Option Value} {base : Heap} {CX : CXT} {k n : Nat} {f : Addr} {fd : FuncData} {ps : List Str} : FnOk P w K mg base CX k f fd ps (spD K n fun _ _ _ _ => False) :=
  ⟨fun _ _ _ _ h => by obtain ⟨_, _, _, _, _, _, _, _, z, _⟩ := h; exact z.elim, fun _ _ _ _ _ _ _ _ _ _ _ _ _ h => by obtain ⟨_, _, _, _, _, _, _, _, z, _⟩ := h; exact z.elim⟩
theorem iteRefl {α : Type} {a : α} [DecidableEq α] {A B : Prop} (h : A) : if decide (a = a) = true then A else B := by
  rw [if_pos (by simp)]
  exact h
theorem eqk_refl_int {i : Int} {M : Mm} {k : DK} (q : k (.bl true) M) : EqK (.int i) (.int i) M k := eqI (by simpa using q)
theorem eqk_refl_str {i : Str} {M : Mm} {k : DK} (q : k (.bl true) M) : EqK (.str i) (.str i) M k := .of (eqD_str i i) (by simpa using q)
theorem eqk_refl_bl {i : Bool} {M : Mm} {k : DK} (q : k (.bl true) M) : EqK (.bl i) (.bl i) M k := .of (eqD_bl i i) (by simpa using q)
theorem eqk_refl_non {M : Mm} {k : DK} (q : k (.bl true) M) : EqK .non .non M k := .of eqD_non q
theorem step_same {K : PySem.W.Frag} {mg : Str → Option Value} {ad : Nat → Addr} {fd : Nat → FuncData} {cl : Nat → Addr} {P : Program} {w : World} {base : Heap} (T : Txt K mg ad fd cl) (n : Nat) (G__law_same : FnOk P w K mg base (L2.CX P w) (n + 2) (ad 34) (fd 34) ["_law_found", "_law_due"] (spD K 2 (phPrev n))) : FnOk P w K mg base (L2.CX P w) (n + 3) (ad 34) (fd 34) ["_law_found", "_law_due"] (spD K 2 (ph__law_same n)) := by
  have G__law_sort := ok__law_sort (P := P) (w := w) (base := base) T
  refine fn_D T.F__law_same sc__law_same rfl fun cdv A outer s H E hr hp ho => ⟨_, (b_cons (s_if (t_cmp (o_ne hr.units) (d_call G__law_sort (hr.mono (by omega)) rfl T.m__law_sort T.k__law_sort T.kb__law_sort_1 (by intro _ _ h _; exact h) hp (a_cons (dv 0) a_nil)) (d_call G__law_sort (hr.mono (by omega)) rfl T.m__law_sort T.k__law_sort T.kb__law_sort_1 (by intro _ _ h _; exact h) hp (a_cons (dv 1) a_nil)) (nomark _)) (b_one (s_ret d_bl)) b_nil)
  (b_cons (s_if (t_cmp o_in (d_call G__law_sort (hr.mono (by omega)) rfl T.m__law_sort T.k__law_sort T.kb__law_sort_1 (by intro _ _ h _; exact h) hp (a_cons (dv 1) a_nil)) (d_tup (a_cons d_int (a_cons d_int a_nil))) rfl) (b_one (s_ret (d_and (d_cmp (o_eq hr.units) (d_callB c_len rfl T.b_len boot_len' (a_cons (dv 0) a_nil)) (d_callB c_len rfl T.b_len boot_len' (a_cons (dv 1) a_nil)) (nomark _)) (d_one (d_callB (c_all rfl) rfl T.b_all boot_all' (a_cons (d_lc (own := [("_law_a", 2), ("_law_b", 3)]) rfl sc__law_same.nd (i_zip rfl T.b_zip (a_cons (dv 0) (a_cons (dv 1) a_nil))) (blkOk_by (own := [("_law_a", 2), ("_law_b", 3)]) (N := ["_law_found", "_law_due", "_law_a", "_law_b"]) (sc := (defScope st__law_same)) (by decide +kernel)) (gp_tup (n := 2) (gps_cons (gp_name (by decide)) (gps_cons (gp_name (by decide)) gps_nil))) (fun _ _ _ _ _ => (pg_tup (n := 2) rfl (pgs_cons (pg_name (i := 2) sc__law_same.nd rfl (Or.inl rfl)) (pgs_cons (pg_name (i := 3) sc__law_same.nd rfl (Or.inl rfl)) pgs_nil)))) (fun _ _ _ _ _ => ts_nil) (fun _ _ _ _ _ => (d_call G__law_same (hr.mono (by omega)) rfl T.m__law_same T.k__law_same T.kb__law_same_2 (by intro _ _ h _; exact h) passL (a_cons (dv 2) (a_cons (dv 3) a_nil))))) a_nil)))))) b_nil)
  (b_one (s_ret (d_cmp (o_eq hr.units) (dv 0) (dv 1) (nomark _)))))), ?_⟩
  clear hp ho hr G__law_sort
  rintro ds M k x hl ⟨u, rfl, hu, q⟩
  have seq : ∀ ds : List D, pureDs (n - 1) ds = true → 0 < n → ds.length ≤ 100000 → ∀ d ∈ zips ds ds, ∀ K' : DK, K' (.bl true) M → gTupD 2 (gsCons (gN 2) (gsCons (gN 3) gsNil)) d (wipeD (startD ["_law_found", "_law_due", "_law_a", "_law_b"] [u, u]) [2, 3]) M fun ρ1 M2 => dCall 2 (phPrev n) (fun us _ => us) (dCons (dVar 2) (dCons (dVar 3) dNil)) ρ1 M2 K' (fun _ _ _ => False) := by
    intro ds hp hn hl d hd K' hK
    rw [zips_same] at hd
    obtain ⟨e, he, rfl⟩ := List.mem_map.mp hd
    refine ⟨[e, e], rfl, rfl, e, [e], rfl, e, [], rfl, rfl, _, rfl, _, rfl, rfl, ?_⟩
    cases n with
    | zero => omega
    | succ n => exact ⟨e, rfl, pureDs_mem hp he, hK⟩
  cases u with
  | non => walk_at "go"; refine ⟨_, _, rfl, rfl, ?_⟩; walk_at "go"; refine ⟨_, _, rfl, rfl, ?_⟩; walk_at "go"; refine ⟨_, _, rfl, rfl, ?_⟩; walk_at "go"; exact eqk_refl_non q
  | bl b => walk_at "go"; refine ⟨_, _, rfl, rfl, ?_⟩; walk_at "go"; refine ⟨_, _, rfl, rfl, ?_⟩; walk_at "go"; refine ⟨_, _, rfl, rfl, ?_⟩; walk_at "go"; exact eqk_refl_bl q
  | int b => walk_at "go"; refine ⟨_, _, rfl, rfl, ?_⟩; walk_at "go"; refine ⟨_, _, rfl, rfl, ?_⟩; walk_at "go"; refine ⟨_, _, rfl, rfl, ?_⟩; walk_at "go"; (show k _ M); simpa using q
  | str b => walk_at "go"; refine ⟨_, _, rfl, rfl, ?_⟩; walk_at "go"; refine ⟨_, _, rfl, rfl, ?_⟩; walk_at "go"; refine ⟨_, _, rfl, rfl, ?_⟩; walk_at "go"; exact eqk_refl_str q
  | lst ds =>
    cases n with
    | zero => cases hu
    | succ n =>
      simp only [pureD, Bool.and_eq_true, decide_eq_true_eq] at hu
      walk_at "go"; refine ⟨_, _, rfl, rfl, ?_⟩; walk_at "go"; refine ⟨_, _, rfl, rfl, ?_⟩; walk_at "go"; refine ⟨_, _, rfl, rfl, ?_⟩; walk_at "go"
      refine iteRefl ?_
      refine ⟨_, rfl, _, rfl, ?_⟩
      have hz : (zips ds ds).length < sizeLine := by
        rw [zips_same, List.length_map]
        exact Nat.lt_of_le_of_lt hu.2 (by decide)
      refine lc_map (fun _ => .bl true) hz (seq ds hu.1 (Nat.succ_pos n) hu.2) (fun d K K' => gT2_mono K K') ?_
      refine ⟨List.replicate (zips ds ds).length true, by rw [map_const], ?_⟩
      rw [all_true]
      exact q
  | tup ds =>
    cases n with
    | zero => cases hu
    | succ n =>
      simp only [pureD, Bool.and_eq_true, decide_eq_true_eq] at hu
      walk_at "go"; refine ⟨_, _, rfl, rfl, ?_⟩; walk_at "go"; refine ⟨_, _, rfl, rfl, ?_⟩; walk_at "go"; refine ⟨_, _, rfl, rfl, ?_⟩; walk_at "go"
      refine iteRefl ?_
      refine ⟨_, rfl, _, rfl, ?_⟩
      have hz : (zips ds ds).length < sizeLine := by
        rw [zips_same, List.length_map]
        exact Nat.lt_of_le_of_lt hu.2 (by decide)
      refine lc_map (fun _ => .bl true) hz (seq ds hu.1 (Nat.succ_pos n) hu.2) (fun d K K' => gT2_mono K K') ?_
      refine ⟨List.replicate (zips ds ds).length true, by rw [map_const], ?_⟩
      rw [all_true]
      exact q
  | _ => (cases n <;> simp [pureD] at hu)
theorem ok__law_same {K : PySem.W.Frag} {mg : Str → Option Value} {ad : Nat → Addr} {fd : Nat → FuncData} {cl : Nat → Addr} {P : Program} {w : World} {base : Heap} (T : Txt K mg ad fd cl) : ∀ n : Nat, FnOk P w K mg base (L2.CX P w) (n + 3) (ad 34) (fd 34) ["_law_found", "_law_due"] (spD K 2 (ph__law_same n))
  | 0 => step_same T 0 fn_false
  | n + 1 => step_same T (n + 1) (ok__law_same T n)
theorem sameK {n : Nat} {M : Mm} {k : DK} {x : DX} {u v : D} (e : u = v) (h : pureD n u = true) (q : k (.bl true) M) : ph__law_same n [u, v] M k x := by
  subst e
  exact ⟨u, rfl, h, q⟩
def ph__law_ratio (cl : Nat → Addr) : Ct := fun ds M k _ => ∃ a b : Int, ds = [frc a b] ∧ b ≠ 0 ∧ Lg b ∧ k (rat cl (RT.nrm a b).1 (RT.nrm a b).2) M
theorem ok__law_ratio {K : PySem.W.Frag} {mg : Str → Option Value} {ad : Nat → Addr} {fd : Nat → FuncData} {cl : Nat → Addr} {P : Program} {w : World} {base : Heap} (T : Txt K mg ad fd cl) : FnOk P w K mg base (L2.CX P w) 5 (ad 35) (fd 35) ["_law_p"] (spD K 1 (ph__law_ratio cl)) := by
  have G_Ratio___init__ := ok_Ratio___init__ (P := P) (w := w) (base := base) T
  refine fn_D T.F__law_ratio sc__law_ratio rfl fun cdv A outer s H E hr hp ho => ⟨_, (b_one (s_ret (d_make T.mk_Ratio G_Ratio___init__ (hr.mono (by decide)) rfl T.m_Ratio T.kb_Ratio___init___3 (fun us ws h1 h2 => match us, ws, h1, h2 with | [_, _, _], [], _, _ => rfl) hp (a_cons (d_ix x_ix (dv 0) d_int (fun _ _ => rfl)) (a_cons (d_ix x_ix (dv 0) d_int (fun _ _ => rfl)) a_nil)) k_nil))), ?_⟩
  clear hp ho hr G_Ratio___init__
  rintro ds M k x hl ⟨a, b, rfl, hb, lb, q⟩
  refine ⟨_, rfl, _, rfl, _, rfl, _, rfl, rfl, rfl, mkR (fun _ => rfl) hb lb q⟩
def ph__law_made_place (cl : Nat → Addr) : Ct := fun ds M k _ => ∃ (p q : TX.Pr) (a b : Int), ds = [.tup [sideD p q, frc a b]] ∧ RT.Nf a b ∧ Lg b ∧ k (.tup [sideD p q, rat cl a b]) M
theorem ok__law_made_place {K : PySem.W.Frag} {mg : Str → Option Value} {ad : Nat → Addr} {fd : Nat → FuncData} {cl : Nat → Addr} {P : Program} {w : World} {base : Heap} (T : Txt K mg ad fd cl) : FnOk P w K mg base (L2.CX P w) 7 (ad 36) (fd 36) ["_law_spot"] (spD K 1 (ph__law_made_place cl)) := by
  have G__law_ratio := ok__law_ratio (P := P) (w := w) (base := base) T
  refine fn_D T.F__law_made_place sc__law_made_place rfl fun cdv A outer s H E hr hp ho => ⟨_, (b_one (s_ret (d_tup (a_cons (d_ix x_ix (dv 0) d_int (fun _ _ => rfl)) (a_cons (d_call G__law_ratio (hr.mono (by decide)) rfl T.m__law_ratio T.k__law_ratio T.kb__law_ratio_1 (by intro _ _ h _; exact h) hp (a_cons (d_ix x_ix (dv 0) d_int (fun _ _ => rfl)) a_nil)) a_nil))))), ?_⟩
  clear hp ho hr G__law_ratio
  rintro ds M k x hl ⟨p, p', a, b, rfl, nf, lb, q⟩
  have hp := nf.pos
  refine ⟨_, rfl, _, rfl, _, rfl, _, rfl, rfl, a, b, rfl, by omega, lb, Nat.le_of_ble_eq_true rfl, ?_⟩
  rw [RT.nrm_of_nf nf]
  exact q
theorem pickS {M0 : Mm} {p : Addr} {b : Bag} {k : DK} {x : DX} {z : Str} (hb : b.Ok) (h0 : 0 < z.length) (h1 : z.length ≤ 1000) (h : ∀ c ∈ z.cps.toList, ∀ b' : Bag, b'.Ok → k (.str ⟨#[c]⟩) (mup M0 p b'.mo)) : ph__law_pick [.cel p, .str z] (mup M0 p b.mo) k x :=
  ⟨p, b, _, rfl, mup_same, hb, .inr ⟨z, rfl, h0, h1, fun c hc b' h3 => by rw [mup_mup]; exact h c hc b' h3⟩⟩
theorem cutS_len (z : Str) (lo hi : Option Int) : (cutS z lo hi).length = min (HT.sIx z.length z.length hi - HT.sIx z.length 0 lo) (z.length - HT.sIx z.length 0 lo) := by
  show (((z.cps.toList.drop (HT.sIx z.length 0 lo)).take (HT.sIx z.length z.length hi - HT.sIx z.length 0 lo)).toArray).size = _
  rw [List.size_toArray, List.length_take, List.length_drop]
  simp [Str.length]
theorem cutS_sum (z : Str) {i : Int} (h : 0 ≤ i) : (cutS z none (some i)).length + (cutS z (some i) none).length = z.length := by
  obtain ⟨n, rfl⟩ := Int.eq_ofNat_of_zero_le h
  rw [cutS_len, cutS_len, HT.sIx_none, HT.sIx_none, HT.sIx_nat, HT.sIx_nat]
  omega
theorem cutS_next (z : Str) {i : Int} (h : 0 ≤ i) : (cutS z (some (i + 1)) none).length ≤ (cutS z (some i) none).length := by
  obtain ⟨n, rfl⟩ := Int.eq_ofNat_of_zero_le h
  have e : (n : Int) + 1 = ((n + 1 : Nat) : Int) := by omega
  rw [e, cutS_len, cutS_len, HT.sIx_none, HT.sIx_nat, HT.sIx_nat]
  omega
theorem cutS_next2 (z : Str) {i : Int} (h : 0 ≤ i) : (cutS z (some i) none).length ≤ (cutS z (some (i + 1)) none).length + 1 := by
  obtain ⟨n, rfl⟩ := Int.eq_ofNat_of_zero_le h
  have e : (n : Int) + 1 = ((n + 1 : Nat) : Int) := by omega
  rw [e, cutS_len, cutS_len, HT.sIx_none, HT.sIx_nat, HT.sIx_nat]
  omega
theorem cutS_one (z : Str) {j : Int} (h : 0 ≤ j) : (cutS z (some j) (some (j + 1))).length ≤ 1 := by
  obtain ⟨n, rfl⟩ := Int.eq_ofNat_of_zero_le h
  have e : (n : Int) + 1 = ((n + 1 : Nat) : Int) := by omega
  rw [e, cutS_len, HT.sIx_nat, HT.sIx_nat]
  omega
def ph__law_bent_text : Ct := fun ds M k _ => ∃ (p : Addr) (b : Bag) (z : Str), ds = [.cel p, .str z] ∧ M p = some b.mo ∧ b.Ok ∧ z.length ≤ 1000 ∧ ∀ (z' : Str) (b' : Bag), z'.length ≤ z.length + 1 → z.length ≤ z'.length + 1 → b'.Ok → k (.str z') (mup M p b'.mo)
theorem ok__law_bent_text {K : PySem.W.Frag} {mg : Str → Option Value} {ad : Nat → Addr} {fd : Nat → FuncData} {cl : Nat → Addr} {P : Program} {w : World} {base : Heap} (T : Txt K mg ad fd cl) : FnOk P w K mg base (L2.CX P w) 5 (ad 37) (fd 37) ["_law_bag", "_law_text_z"] (spD K 2 ph__law_bent_text) := by
  have G__law_pull := ok__law_pull (P := P) (w := w) (base := base) T
  have G__law_pick := ok__law_pick (P := P) (w := w) (base := base) T
  refine fn_D T.F__law_bent_text sc__law_bent_text rfl fun cdv A outer s H E hr hp ho => ⟨_, (b_cons (s_par (i := 2) (j := 3) rfl sc__law_bent_text.nd rfl rfl (by decide) rfl rfl (a_cons (d_call G__law_pull (hr.mono (by decide)) rfl T.m__law_pull T.k__law_pull T.kb__law_pull_2 (by intro _ _ h _; exact h) hp (a_cons (dv 0) (a_cons (d_op o_add (d_callB c_len rfl T.b_len boot_len' (a_cons (dv 1) a_nil)) d_int) a_nil))) (a_cons (d_call G__law_pull (hr.mono (by decide)) rfl T.m__law_pull T.k__law_pull T.kb__law_pull_2 (by intro _ _ h _; exact h) hp (a_cons (dv 0) (a_cons (d_op o_add (d_callB c_len rfl T.b_len boot_len' (a_cons (dv 1) a_nil)) d_int) a_nil))) a_nil)) rfl)
  (b_cons (s_set (i := 4) sc__law_bent_text.nd rfl (Or.inl rfl) (d_call G__law_pick (hr.mono (by decide)) rfl T.m__law_pick T.k__law_pick T.kb__law_pick_2 (by intro _ _ h _; exact h) hp (a_cons (dv 0) (a_cons d_str a_nil))))
  (b_cons (s_set (i := 5) sc__law_bent_text.nd rfl (Or.inl rfl) (d_lst (a_cons (d_op o_add (d_op o_add (d_slice sl_D (dv 1) o_none (o_some (dv 2))) (dv 4)) (d_slice sl_D (dv 1) (o_some (dv 2)) o_none)) (a_cons (d_op o_add (d_slice sl_D (dv 1) o_none (o_some (dv 2))) (d_slice sl_D (dv 1) (o_some (d_op o_add (dv 2) d_int)) o_none)) (a_cons (d_op o_add (d_op o_add (d_slice sl_D (dv 1) o_none (o_some (dv 2))) (dv 4)) (d_slice sl_D (dv 1) (o_some (d_op o_add (dv 2) d_int)) o_none)) a_nil)))))
  (b_one (s_ret (d_call G__law_pick (hr.mono (by decide)) rfl T.m__law_pick T.k__law_pick T.kb__law_pick_2 (by intro _ _ h _; exact h) hp (a_cons (dv 0) (a_cons (d_op o_add (dv 5) (d_lst (a_cons (d_op o_add (d_op o_add (d_slice sl_D (dv 1) o_none (o_some (dv 2))) (d_slice sl_D (dv 1) (o_some (dv 3)) (o_some (d_op o_add (dv 3) d_int)))) (d_slice sl_D (dv 1) (o_some (dv 2)) o_none)) (a_cons (dv 1) a_nil)))) a_nil)))))))), ?_⟩
  clear hp ho hr G__law_pull G__law_pick
  rintro ds M k x hl ⟨p, b, z, rfl, hm, hb, hz, q⟩
  rw [mup_of hm]
  have big := size_big
  have hz2 : z.length ≤ sizeLine := by omega
  refine ⟨_, rfl, _, rfl, hz2, rfl, pullK hb (by omega) (log2_small (by omega) (by omega)) fun i b1 i0 i1 hb1 => ?_⟩
  refine ⟨_, rfl, _, rfl, hz2, rfl, pullK hb1 (by omega) (log2_small (by omega) (by omega)) fun j b2 j0 j1 hb2 => ⟨_, _, rfl, ?_⟩⟩
  refine ⟨_, rfl, rfl, pickS hb2 (by decide +kernel) (by decide +kernel) fun sg hsg b3 hb3 => ?_⟩
  have l1 : (⟨#[sg]⟩ : Str).length = 1 := rfl
  have sp := cutS_sum z i0
  have c1 : (cutS z none (some i)).length + (cutS z (some i) none).length = z.length := sp
  have c2 : (cutS z (some (i + 1)) none).length ≤ (cutS z (some i) none).length := cutS_next z i0
  have c4 : (cutS z (some i) none).length ≤ (cutS z (some (i + 1)) none).length + 1 := cutS_next2 z i0
  have c3 : (cutS z (some j) (some (j + 1))).length ≤ 1 := cutS_one z j0
  refine ⟨_, rfl, _, rfl, _, rfl, hz2, _, rfl, by omega, _, rfl, _, rfl, _, rfl, hz2, by rw [Str.length_append]; omega, ?_⟩
  refine ⟨_, rfl, _, rfl, _, rfl, hz2, _, rfl, _, rfl, _, rfl, hz2, by omega, ?_⟩
  refine ⟨_, rfl, _, rfl, _, rfl, hz2, _, rfl, by omega, _, rfl, _, rfl, _, rfl, hz2, by rw [Str.length_append]; omega, Nat.le_of_ble_eq_true rfl, ?_⟩
  refine ⟨_, rfl, _, rfl, _, rfl, _, rfl, _, rfl, hz2, _, rfl, _, rfl, _, rfl, _, rfl, _, rfl, hz2, by omega, _, rfl, _, rfl, _, rfl, hz2, by rw [Str.length_append]; omega, _, rfl, Nat.le_of_ble_eq_true rfl, Nat.le_of_ble_eq_true rfl, rfl, ?_⟩
  refine pickL hb3 (Nat.le_of_ble_eq_true rfl) (Nat.le_of_ble_eq_true rfl) fun d hd b4 hb4 => ?_
  have hd2 : ∃ z' : Str, d = .str z' ∧ z'.length ≤ z.length + 1 ∧ z.length ≤ z'.length + 1 := by
    simp only [List.cons_append, List.nil_append, List.mem_cons, List.not_mem_nil, or_false] at hd
    rcases hd with rfl | rfl | rfl | rfl | rfl <;> refine ⟨_, rfl, ?_, ?_⟩ <;> (try simp only [Str.length_append]) <;> omega
  obtain ⟨z', rfl, hz', hz3⟩ := hd2
  exact q z' b4 hz' hz3 hb4

end W58
set_option Elab.async false
set_option linter.all false
set_option maxRecDepth 100000
set_option maxHeartbeats 4000000
set_option pp.deepTerms false
set_option pp.deepTerms.threshold 12
set_option pp.maxSteps 4000
namespace W58
open PySem PySem.Spec PyProof.Rows L2 DL
local macro_rules | `(tactic| walk_at "sc") => `(tactic| first | assumption | rfl | exact Nat.le_of_ble_eq_true rfl | decide | omega | exact mul_small (by omega) (by omega) | exact mul_smallR (by omega) (by omega) | exact ⟨by decide, by decide, by decide⟩ | exact ⟨by omega, by assumption⟩ | exact ⟨by decide, log2_small (by decide) (by decide)⟩)
local macro_rules | `(tactic| walk_at "go1") => `(tactic| first | refine ⟨_, rfl, ?_⟩ | refine ⟨rfl, ?_⟩ | refine ⟨_, by assumption, ?_⟩ | refine ⟨_, mup_same, ?_⟩ | refine eqI ?_ | refine neI ?_ | refine iteT ?_ | refine iteF ?_ | refine ⟨(by walk_at "sc"), ?_⟩)
local macro_rules | `(tactic| walk_at "go") => `(tactic| repeat walk_at "go1")
def ph__law_number_in : Ct := fun ds M k _ => ∃ z : Str, ds = [.str z] ∧ z.length ≤ 4300 ∧ (∀ n : Nat, TL.tl z = TL.numL n → k (.int n) M) ∧ ((∀ n : Nat, TL.tl z ≠ TL.numL n) → k (.int (-1)) M)
theorem ok__law_number_in {K : PySem.W.Frag} {mg : Str → Option Value} {ad : Nat → Addr} {fd : Nat → FuncData} {cl : Nat → Addr} {P : Program} {w : World} {base : Heap} (T : Txt K mg ad fd cl) : FnOk P w K mg base (L2.CX P w) 1 (ad 38) (fd 38) ["_law_word"] (spD K 1 ph__law_number_in) := by
  refine fn_D T.F__law_number_in sc__law_number_in rfl fun cdv A outer s H E hr hp ho => ⟨_, (b_cons (s_set (i := 1) sc__law_number_in.nd rfl (Or.inl rfl) (d_and (d_cmp (o_ne hr.units) (dv 0) d_str (nomark _)) (d_and (d_callB (c_all rfl) rfl T.b_all boot_all' (a_cons (d_lc (own := [("_law_sign", 2)]) rfl sc__law_number_in.nd (i_seq (dv 0)) (blkOk_by (own := [("_law_sign", 2)]) (N := ["_law_word", "_law_good", "_law_sign"]) (sc := (defScope st__law_number_in)) (by decide +kernel)) (gp_name (by decide)) (fun _ _ _ _ _ => (pg_name (i := 2) sc__law_number_in.nd rfl (Or.inl rfl))) (fun _ _ _ _ _ => ts_nil) (fun _ _ _ _ _ => (d_cmp o_in (dv 2) d_str rfl))) a_nil)) (d_one (d_or (d_cmp (o_eq hr.units) (d_callB c_len rfl T.b_len boot_len' (a_cons (dv 0) a_nil)) d_int (nomark _)) (d_one (d_cmp (o_ne hr.units) (d_ix x_ix (dv 0) d_int (fun _ _ => rfl)) d_str (nomark _))))))))
  (b_one (s_ret (d_if (t_val (dv 1)) (d_callTy (c_orN (c_intS T.dg) c_int) rfl T.b_int boot_int' (a_cons (dv 0) a_nil)) (d_un o_neg d_int))))), ?_⟩
  clear hp ho hr
  rintro ds M k x hl ⟨z, rfl, hz, q1, q2⟩
  have big := size_big
  have hz2 : z.length ≤ sizeLine := by omega
  have hlen : z.cps.toList.length = z.length := by simp [Str.length]
  have all_ : ∀ {K : DK} {vs : List Nat} {ρ : DEnv} {i : Nat} {τ : DE}, (∀ (c : Nat) (k : DK), k (.bl (decide (c ∈ (Str.ofString "0123456789").cps.toList))) M → τ ((wipeD ρ vs).set i (some (.str ⟨#[c]⟩))) M k (fun _ _ _ => False)) → K (.lst ((z.cps.toList.map fun c => decide (48 ≤ c ∧ c ≤ 57)).map .bl)) M → LcK (gN i) dYes τ vs ρ (DL.signs z) M K := by
    intro K vs ρ i τ hτ hK
    have hs : (DL.signs z).length < sizeLine := by
      unfold DL.signs
      rw [List.length_map, hlen]
      omega
    refine lc_map (fun d => match d with | .str y => .bl (decide (48 ≤ y.cps.toList.headD 0 ∧ y.cps.toList.headD 0 ≤ 57)) | _ => .non) hs (fun d hd K hK => ?_) (fun d K K' => gN_mono K K') ?_
    · unfold DL.signs at hd
      obtain ⟨c, _, rfl⟩ := List.mem_map.mp hd
      refine hτ c _ ?_
      rw [decide_eq_decide.mpr TX.fig_mem]
      exact hK
    · unfold DL.signs
      rw [List.map_map]
      rw [List.map_map] at hK
      exact hK
  have head_ : ∀ {c : Nat} {r : List Nat}, z.cps.toList = c :: r → atI z.cps.toList 0 = some c := fun {c r} e => by rw [e]; exact atI_nat (xs := c :: r) (j := 0) (v := c) rfl
  refine ⟨_, rfl, .of (eqD_str _ _) ⟨_, rfl, ?_⟩⟩
  by_cases e0 : z = Str.ofString ""
  · rw [decide_eq_true e0]
    refine iteF ?_
    refine ⟨_, rfl, _, rfl, iteF (q2 fun n hn => ?_)⟩
    subst e0
    exact absurd hn.symm (TL.numL_ne n)
  · rw [decide_eq_false e0]
    refine iteT ?_
    have ne : z.cps.toList ≠ [] := fun w => e0 (TL.ext_tl (by show z.cps.toList = _; rw [w]; decide +kernel))
    obtain ⟨c, r, hc⟩ : ∃ c r, z.cps.toList = c :: r := by
      cases w : z.cps.toList with
      | nil => exact absurd w ne
      | cons c r => exact ⟨c, r, rfl⟩
    refine ⟨_, rfl, all_ (fun c k hk => ⟨_, rfl, c, rfl, hk⟩) ⟨_, rfl, _, rfl, ?_⟩⟩
    by_cases e1 : NumText.AllDigits (TL.tl z)
    · have ea : ((z.cps.toList.map fun c => decide (48 ≤ c ∧ c ≤ 57)).all id) = true := by
        rw [List.all_map, List.all_eq_true]
        intro c hc
        exact decide_eq_true (e1 c hc)
      rw [ea]
      refine iteT ?_
      refine ⟨_, rfl, hz2, eqI ⟨_, rfl, ?_⟩⟩
      have fin : (z.cps.toList.length = 1 ∨ ∃ c r, z.cps.toList = c :: r ∧ 49 ≤ c) → k (.int (NumText.digitsVal (TL.tl z) : Nat)) M := fun h => q1 _ (TX.numL_back e1 ne h).symm
      have num : (z.cps.toList.length = 1 ∨ ∃ c r, z.cps.toList = c :: r ∧ 49 ≤ c) → PySem.intText? z = some ((NumText.digitsVal (TL.tl z) : Nat) : Int) := fun h => TX.num_int (TX.numL_back e1 ne h).symm hz
      by_cases e2 : (z.length : Int) = 1
      · rw [decide_eq_true e2]
        refine iteT ?_
        have h : z.cps.toList.length = 1 ∨ ∃ c r, z.cps.toList = c :: r ∧ 49 ≤ c := .inl (by rw [hlen]; omega)
        exact ⟨_, rfl, _, rfl, iteT ⟨_, rfl, .own ⟨_, num h, hz, fin h⟩⟩⟩
      · rw [decide_eq_false e2]
        refine iteF ?_
        refine ⟨_, rfl, hz2, c, head_ hc, .of (eqD_str _ _) ?_⟩
        by_cases e3 : c = 48
        · subst e3
          rw [show decide ((⟨#[48]⟩ : Str) = Str.ofString "0") = true by decide +kernel]
          refine ⟨_, rfl, _, rfl, iteF (q2 fun n hn => ?_)⟩
          rcases TX.numL_head n with h | ⟨c', r', h, h'⟩
          · rw [← hn] at h
            have h : z.cps.toList.length = 1 := h
            omega
          · have : z.cps.toList = c' :: r' := hn.trans h
            rw [hc] at this
            cases this
            omega
        · have e4 : ¬ (⟨#[c]⟩ : Str) = Str.ofString "0" := fun w => by
            have w2 : TL.tl ⟨#[c]⟩ = TL.tl (Str.ofString "0") := congrArg TL.tl w
            rw [show TL.tl (Str.ofString "0") = [48] by decide +kernel] at w2
            have w3 : [c] = [48] := w2
            cases w3
            exact e3 rfl
          rw [decide_eq_false e4]
          have h : z.cps.toList.length = 1 ∨ ∃ c r, z.cps.toList = c :: r ∧ 49 ≤ c := .inr ⟨c, r, hc, by have := (e1 c (by show c ∈ z.cps.toList; rw [hc]; exact List.mem_cons_self)).1; omega⟩
          exact ⟨_, rfl, _, rfl, iteT ⟨_, rfl, .own ⟨_, num h, hz, fin h⟩⟩⟩
    · have ea : ((z.cps.toList.map fun c => decide (48 ≤ c ∧ c ≤ 57)).all id) = false := by
        rw [List.all_map, List.all_eq_false]
        have : ∃ c ∈ TL.tl z, ¬ (48 ≤ c ∧ c ≤ 57) := Classical.byContradiction fun w => e1 fun c hc => Classical.byContradiction fun w2 => w ⟨c, hc, w2⟩
        obtain ⟨c, hc, h⟩ := this
        exact ⟨c, hc, by simp only [Function.comp, id]; rw [decide_eq_false h]; exact Bool.false_ne_true⟩
      rw [ea]
      refine iteF ?_
      exact ⟨_, rfl, _, rfl, iteF (q2 fun n hn => e1 (hn ▸ TL.numL_digits n))⟩
theorem sgn_canon {z r : List Nat} {m : Bool} {i : Int} (hl : TX.Link z r m) (e : z = TX.intL i) : m = decide (i < 0) ∧ r = TL.numL i.natAbs := by
  by_cases h : 0 ≤ i
  · rw [TX.intL_pos h] at e
    obtain ⟨h1, h2⟩ := TX.link_pos (t := []) hl (by rw [List.append_nil]; exact e)
    rw [List.append_nil] at h2
    exact ⟨by rw [h1, decide_eq_false (by omega)], by rw [h2]; congr 1; omega⟩
  · rw [TX.intL_neg (by omega)] at e
    obtain ⟨h1, h2⟩ := TX.link_neg hl e
    exact ⟨by rw [h1, decide_eq_true (by omega)], by rw [h2]; congr 1; omega⟩
theorem int_no0 {i : Int} (h : TX.intL i = [45, 48]) : False := by
  by_cases h0 : 0 ≤ i
  · rw [TX.intL_pos h0] at h
    exact TX.num_no45 _ _ h
  · rw [TX.intL_neg (by omega), List.cons.injEq] at h
    have := TL.numL_inj (h.2.trans numL0.symm)
    omega
def ph__law_signed : Ct := fun ds M k _ => ∃ z : Str, ds = [.str z] ∧ z.length ≤ 1000 ∧ (∀ i, TX.Bd i → TL.tl z = TX.intL i → k (.int i) M) ∧ ((∀ i, TX.Bd i → TL.tl z ≠ TX.intL i) → k .non M)
theorem ok__law_signed {K : PySem.W.Frag} {mg : Str → Option Value} {ad : Nat → Addr} {fd : Nat → FuncData} {cl : Nat → Addr} {P : Program} {w : World} {base : Heap} (T : Txt K mg ad fd cl) : FnOk P w K mg base (L2.CX P w) 3 (ad 39) (fd 39) ["_law_word"] (spD K 1 ph__law_signed) := by
  have G__law_number_in := ok__law_number_in (P := P) (w := w) (base := base) T
  refine fn_D T.F__law_signed sc__law_signed rfl fun cdv A outer s H E hr hp ho => ⟨_, (b_cut (s_set (i := 1) sc__law_signed.nd rfl (Or.inl rfl) (d_if (t_cmp (o_eq hr.units) (d_slice sl_D (dv 0) o_none (o_some d_int)) d_str (nomark _)) (d_slice sl_D (dv 0) (o_some d_int) o_none) (dv 0)))
  (b_cons (s_set (i := 2) sc__law_signed.nd rfl (Or.inl rfl) (d_if (t_cmp o_lt (d_callB c_len rfl T.b_len boot_len' (a_cons (dv 1) a_nil)) d_int (nomark _)) (d_call G__law_number_in (hr.mono (by decide)) rfl T.m__law_number_in T.k__law_number_in T.kb__law_number_in_1 (by intro _ _ h _; exact h) hp (a_cons (dv 1) a_nil)) (d_un o_neg d_int)))
  (b_cons (s_if (DPW.t (w_or (t_cmp o_lt (dv 2) d_int (nomark _)) (w_or (t_cmp (o_eq hr.units) (dv 0) d_str (nomark _)) (w_or1 (t_cmp o_gt (dv 2) (d_op o_pow d_int d_int) (nomark _)))))) (b_one (s_ret d_non)) b_nil)
  (b_one (s_ret (d_if (t_cmp (o_eq hr.units) (d_slice sl_D (dv 0) o_none (o_some d_int)) d_str (nomark _)) (d_op o_sub d_int (dv 2)) (dv 2))))))), ?_⟩
  clear hp ho hr G__law_number_in
  rintro ds M k x hl ⟨z, rfl, hz, q1, q2⟩
  have big := size_big
  have hz2 : z.length ≤ sizeLine := by omega
  refine ⟨fun ρ M' => ∃ (m : Bool) (r : Str), M' = M ∧ ρ = [some (.str z), some (.str r), none] ∧ r.length ≤ 1000 ∧ TX.Link (TL.tl z) (TL.tl r) m, ?_, ?_⟩
  · refine ⟨_, rfl, _, rfl, hz2, .of (eqD_str _ _) ⟨_, rfl, ?_⟩⟩
    by_cases hm : ∃ r, TL.tl z = 45 :: r
    · rw [decide_eq_true ((minus_iff z).mpr hm)]
      refine iteT ?_
      obtain ⟨r, hr⟩ := hm
      exact ⟨_, rfl, _, rfl, hz2, true, cutS z (some 1) none, rfl, rfl, Nat.le_trans (cutS_length _ _ _) hz, .inl ⟨rfl, by rw [tl_cut2, hr]; rfl⟩⟩
    · rw [decide_eq_false (fun w => hm ((minus_iff z).mp w))]
      exact iteF ⟨_, rfl, false, z, rfl, rfl, hz, .inr ⟨rfl, rfl, fun r' h => hm ⟨r', h⟩⟩⟩
  rintro ρ M' ⟨m, r, rfl, rfl, hr, hl⟩
  have canon := fun {i : Int} (e : TL.tl z = TX.intL i) => sgn_canon hl e
  refine ⟨_, rfl, by omega, _, rfl, ?_⟩
  by_cases h8 : r.length < 8
  case neg =>
    rw [decide_eq_false (show ¬ (r.length : Int) < 8 by omega)]
    refine iteF ?_
    refine ⟨_, rfl, _, rfl, iteT (iteT (q2 fun i bi e => h8 ?_))⟩
    have l := TL.numL_len (n := i.natAbs) (k := 7) (by decide) (by have := bi.1; have := bi.2; omega)
    rw [← (canon e).2, TX.tl_len] at l
    omega
  rw [decide_eq_true (show (r.length : Int) < 8 by omega)]
  refine iteT ⟨_, rfl, rfl, r, rfl, by omega, fun n hn => ?_, fun hn => ?_⟩
  · refine ⟨_, rfl, _, rfl, ?_⟩
    rw [decide_eq_false (show ¬ (n : Int) < 0 by omega)]
    refine iteF ?_
    refine ⟨_, rfl, .of (eqD_str _ _) ⟨_, rfl, ?_⟩⟩
    by_cases h0 : z = Str.ofString "-0"
    · rw [decide_eq_true h0]
      refine iteT (iteT (q2 fun i bi e => ?_))
      rw [h0, tl_m0] at e
      exact int_no0 e.symm
    rw [decide_eq_false h0]
    refine iteF ?_
    refine ⟨_, rfl, cp 6 (by decide) (by decide), _, rfl, ?_⟩
    by_cases h6 : (1000000 : Int) < n
    · rw [show ((10 : Int) ^ Int.toNat 6) = 1000000 from rfl, decide_eq_true h6]
      refine iteT (q2 fun i bi e => ?_)
      have := TL.numL_inj (hn.symm.trans (canon e).2)
      have := bi.1
      have := bi.2
      omega
    rw [show ((10 : Int) ^ Int.toNat 6) = 1000000 from rfl, decide_eq_false h6]
    refine iteF ?_
    have hmn : ¬ (m = true ∧ n = 0) := fun w => h0 (TL.ext_tl (by
      rcases hl with ⟨_, e⟩ | ⟨e, _⟩
      · rw [e, hn, w.2, tl_m0, numL0]
      · rw [e] at w; cases w.1))
    have ez := TX.canon_sign (t := []) hl (by rw [List.append_nil]; exact hn) hmn
    rw [List.append_nil] at ez
    refine ⟨_, rfl, _, rfl, hz2, .of (eqD_str _ _) ⟨_, rfl, ?_⟩⟩
    rcases hl with ⟨rfl, e⟩ | ⟨rfl, e, hno⟩
    · rw [decide_eq_true ((minus_iff z).mpr ⟨_, e⟩)]
      exact iteT ⟨_, rfl, q1 _ ⟨by omega, by omega⟩ ez⟩
    · rw [decide_eq_false (fun w => let ⟨r', w'⟩ := (minus_iff z).mp w; hno r' w')]
      exact iteF ⟨_, rfl, q1 _ ⟨by omega, by omega⟩ ez⟩
  · refine ⟨_, rfl, _, rfl, iteT (iteT (q2 fun i bi e => hn _ (canon e).2))⟩

end W58
set_option Elab.async false
set_option linter.all false
set_option maxRecDepth 100000
set_option maxHeartbeats 4000000
set_option pp.deepTerms false
set_option pp.deepTerms.threshold 12
set_option pp.maxSteps 4000
namespace W58
open PySem PySem.Spec PyProof.Rows L2 DL
local macro_rules | `(tactic| walk_at "sc") => `(tactic| first | assumption | rfl | exact Nat.le_of_ble_eq_true rfl | decide | omega | exact mul_small (by omega) (by omega) | exact mul_smallR (by omega) (by omega) | exact ⟨by decide, by decide, by decide⟩ | exact ⟨by omega, by assumption⟩ | exact ⟨by decide, log2_small (by decide) (by decide)⟩)
local macro_rules | `(tactic| walk_at "go1") => `(tactic| first | refine ⟨_, rfl, ?_⟩ | refine ⟨rfl, ?_⟩ | refine ⟨_, by assumption, ?_⟩ | refine ⟨_, mup_same, ?_⟩ | refine eqI ?_ | refine neI ?_ | refine iteT ?_ | refine iteF ?_ | refine ⟨(by walk_at "sc"), ?_⟩)
local macro_rules | `(tactic| walk_at "go") => `(tactic| repeat walk_at "go1")
open Classical in
noncomputable def pickD {α : Type} (P : α → Prop) (f : α → D) : D := if h : ∃ a, P a then f h.choose else .non
theorem pickD_yes {α : Type} {P : α → Prop} {f : α → D} {a : α} (h : P a) (u : ∀ b, P b → b = a) : pickD P f = f a := by
  unfold pickD
  rw [dif_pos ⟨a, h⟩, u _ (Exists.choose_spec (⟨a, h⟩ : ∃ a, P a))]
theorem pickD_no {α : Type} {P : α → Prop} {f : α → D} (h : ∀ a, ¬ P a) : pickD P f = .non := by
  unfold pickD
  rw [dif_neg (fun ⟨a, w⟩ => h a w)]
noncomputable def sgD (x : Str) : D := pickD (fun i => TX.Bd i ∧ TL.tl x = TX.intL i) .int
noncomputable def sgF : D → D
  | .str x => sgD x
  | _ => .non
theorem sg_yes {x : Str} {i : Int} (b : TX.Bd i) (e : TL.tl x = TX.intL i) : sgD x = .int i := pickD_yes ⟨b, e⟩ fun j w => TX.intL_inj (w.2.symm.trans e)
theorem sg_no {x : Str} (h : ∀ i, TX.Bd i → TL.tl x ≠ TX.intL i) : sgD x = .non := pickD_no fun i w => h i w.1 w.2
theorem sg_cases (x : Str) : (∃ i, TX.Bd i ∧ TL.tl x = TX.intL i ∧ sgD x = .int i) ∨ ((∀ i, TX.Bd i → TL.tl x ≠ TX.intL i) ∧ sgD x = .non) := by
  by_cases h : ∃ i, TX.Bd i ∧ TL.tl x = TX.intL i
  · obtain ⟨i, b, e⟩ := h
    exact .inl ⟨i, b, e, sg_yes b e⟩
  · have h' : ∀ i, TX.Bd i → TL.tl x ≠ TX.intL i := fun i b e => h ⟨i, b, e⟩
    exact .inr ⟨h', sg_no h'⟩
theorem sgK {x : Str} {M : Mm} {k : DK} {xx : DX} (h : x.length ≤ 1000) (q : k (sgD x) M) : ph__law_signed [.str x] M k xx :=
  ⟨x, rfl, h, fun i b e => by rw [sg_yes b e] at q; exact q, fun w => by rw [sg_no w] at q; exact q⟩
theorem in_first {a b : Str} {M : Mm} {k : DK} {xx : DX} (e1 : sgD a = .non) (q : Unit → k (.bl false) M) : dInD true .non (.lst [sgD a, sgD b]) M k xx := by
  rw [e1]
  rcases sg_cases b with ⟨j, bj, ej, e2⟩ | ⟨nj, e2⟩
  · rw [e2]; exact ⟨_, _, rfl, rfl, rfl, rfl, q ()⟩
  · rw [e2]; exact ⟨_, _, rfl, rfl, rfl, rfl, q ()⟩
def ph__law_pair_in : Ct := fun ds M k _ => ∃ z : Str, ds = [.str z] ∧ z.length ≤ 1000 ∧ (∀ p, TX.PB p → TL.tl z = TX.prL p → k (pairD p) M) ∧ ((∀ p, TX.PB p → TL.tl z ≠ TX.prL p) → k .non M)
theorem ok__law_pair_in {K : PySem.W.Frag} {mg : Str → Option Value} {ad : Nat → Addr} {fd : Nat → FuncData} {cl : Nat → Addr} {P : Program} {w : World} {base : Heap} (T : Txt K mg ad fd cl) : FnOk P w K mg base (L2.CX P w) 5 (ad 40) (fd 40) ["_law_word"] (spD K 1 ph__law_pair_in) := by
  have G__law_signed := ok__law_signed (P := P) (w := w) (base := base) T
  refine fn_D T.F__law_pair_in sc__law_pair_in rfl fun cdv A outer s H E hr hp ho => ⟨_, (b_cons (s_set (i := 1) sc__law_pair_in.nd rfl (Or.inl rfl) (d_bm PySem.F.plainAttrs_str PySem.F.slot_str_split PySem.F.type_str_split m_split (dv 0) (a_cons d_str a_nil)))
  (b_cons (s_setLc (i := 2) (own := [("_law_part", 3)]) rfl sc__law_pair_in.nd rfl rfl (sw_true rfl rfl rfl (by decide +kernel)) (i_seq (dv 1)) (blkOk_by (own := [("_law_part", 3)]) (N := ["_law_word", "_law_parts", "_law_found", "_law_part"]) (sc := (defScope st__law_pair_in)) (by decide +kernel)) (gp_name (by decide)) (fun _ _ _ _ _ => (pg_name (i := 3) sc__law_pair_in.nd rfl (Or.inl rfl))) (fun _ _ _ _ _ => ts_nil) (fun _ _ _ _ _ => (d_call G__law_signed (hr.mono (by decide)) rfl T.m__law_signed T.k__law_signed T.kb__law_signed_1 (by intro _ _ h _; exact h) passL (a_cons (dv 3) a_nil))))
  (b_one (s_ret (d_if (DPW.t (w_and (t_cmp (o_eq hr.units) (d_callB c_len rfl T.b_len boot_len' (a_cons (dv 1) a_nil)) d_int (nomark _)) (w_and1 (t_cmp (o_notInD (units65 hr)) d_non (dv 2) rfl)))) (d_tup (a_cons (d_ix x_ix (dv 2) d_int (fun _ _ => rfl)) (a_cons (d_ix x_ix (dv 2) d_int (fun _ _ => rfl)) a_nil))) d_non))))), ?_⟩
  clear hp ho hr G__law_signed
  rintro ds M k x hl ⟨z, rfl, hz, q1, q2⟩
  have big := size_big
  refine ⟨_, rfl, rfl, z, Str.ofString ",", rfl, rfl, by decide +kernel, by omega, ?_⟩
  have hj := TX.split_joinC TX.tl_cm (by decide +kernel) z
  have hlen := TX.split_lenC TX.tl_cm (by decide +kernel) z
  have hcnt := TX.split_countC TX.tl_cm (by decide +kernel) z
  have two : ∀ p, TL.tl z = TX.prL p → (Txt.split z (Str.ofString ",")).map TL.tl = [TX.intL p.1, TX.intL p.2] := fun p e => TX.split_two TX.tl_cm (by decide +kernel) e TX.int_no44 TX.int_no44
  generalize Txt.split z (Str.ofString ",") = parts at *
  refine ⟨_, rfl, lc_map sgF (by rw [List.length_map]; omega) (fun d hd K hK => ?_) (fun d K K' => gN_mono K K') ?_⟩
  · obtain ⟨y, hy, rfl⟩ := List.mem_map.mp hd
    have := hlen y hy
    exact ⟨_, rfl, rfl, sgK (by omega) hK⟩
  rw [List.map_map]
  refine ⟨_, rfl, eqI ⟨_, rfl, ?_⟩⟩
  have no : (∀ p : TX.Pr, TX.PB p → parts.map TL.tl ≠ [TX.intL p.1, TX.intL p.2]) → k .non M := fun h => q2 fun p bp e => h p bp (two p e)
  match parts with
  | [] => exact iteF (iteF (no fun p bp e => by simp at e))
  | [_] => exact iteF (iteF (no fun p bp e => by simp at e))
  | a :: b :: c :: r =>
    rw [decide_eq_false (show ¬ (((a :: b :: c :: r).map D.str).length : Int) = 2 by simp; omega)]
    exact iteF (iteF (no fun p bp e => by simp at e))
  | [a, b] =>
    refine iteT ?_
    have em : List.map (sgF ∘ D.str) [a, b] = [sgD a, sgD b] := rfl
    rw [em]
    refine ⟨_, rfl, ?_⟩
    rcases sg_cases a with ⟨i, bi, ei, e1⟩ | ⟨ni, e1⟩
    · rcases sg_cases b with ⟨j, bj, ej, e2⟩ | ⟨nj, e2⟩
      · rw [e1, e2]
        refine ⟨_, _, rfl, rfl, rfl, rfl, _, rfl, iteT ?_⟩
        refine ⟨_, rfl, _, rfl, _, rfl, _, rfl, Nat.le_of_ble_eq_true rfl, ?_⟩
        refine q1 (i, j) ⟨bi, bj⟩ ?_
        rw [← hj]
        show TL.tl a ++ ([44] ++ TL.tl b) = _
        rw [ei, ej]
        rfl
      · rw [e1, e2]
        refine ⟨_, _, rfl, rfl, rfl, rfl, _, rfl, iteF (no fun p bp e => ?_)⟩
        simp at e
        exact nj _ bp.2 e.2
    · refine in_first e1 (fun _ => ⟨_, rfl, iteF (no fun p bp e => ?_)⟩)
      simp at e
      exact ni _ bp.1 e.1
def ph__law_of_ratio (cl : Nat → Addr) : Ct := fun ds M k _ => ∃ a b : Int, ds = [rat cl a b] ∧ k (frc a b) M
theorem ok__law_of_ratio {K : PySem.W.Frag} {mg : Str → Option Value} {ad : Nat → Addr} {fd : Nat → FuncData} {cl : Nat → Addr} {P : Program} {w : World} {base : Heap} (T : Txt K mg ad fd cl) : FnOk P w K mg base (L2.CX P w) 3 (ad 44) (fd 44) ["_law_found"] (spD K 1 (ph__law_of_ratio cl)) := by
  have G_Ratio_top := ok_Ratio_top (P := P) (w := w) (base := base) T
  have G_Ratio_bottom := ok_Ratio_bottom (P := P) (w := w) (base := base) T
  refine fn_D T.F__law_of_ratio sc__law_of_ratio rfl fun cdv A outer s H E hr hp ho => ⟨_, (b_one (s_ret (d_if (t_val (d_isiC (cl 0) (CS cl) T.isiC_Ratio T.isiB_Ratio rfl T.b_isinstance rfl T.m_Ratio (dv 0))) (d_tup (a_cons (d_propE (dv 0) T.ci_Ratio.cl T.pp_Ratio_top G_Ratio_top (hr.mono (by decide)) T.bb_Ratio_top) (a_cons (d_propE (dv 0) T.ci_Ratio.cl T.pp_Ratio_bottom G_Ratio_bottom (hr.mono (by decide)) T.bb_Ratio_bottom) a_nil))) d_non))), ?_⟩
  clear hp ho hr G_Ratio_top G_Ratio_bottom
  rintro ds M k x hl ⟨a, b, rfl, q⟩
  refine ⟨_, rfl, List.mem_cons_self, _, rfl, ?_⟩
  rw [decide_eq_true rfl]
  refine iteT ?_
  refine ⟨_, rfl, ⟨_, rfl⟩, a, b, rfl, _, rfl, ⟨_, rfl⟩, a, b, rfl, Nat.le_of_ble_eq_true rfl, q⟩
def ph__law_of_place (cl : Nat → Addr) : Ct := fun ds M k _ => ∃ (p q : TX.Pr) (a b : Int), ds = [.tup [sideD p q, rat cl a b]] ∧ k (.tup [sideD p q, frc a b]) M
theorem ok__law_of_place {K : PySem.W.Frag} {mg : Str → Option Value} {ad : Nat → Addr} {fd : Nat → FuncData} {cl : Nat → Addr} {P : Program} {w : World} {base : Heap} (T : Txt K mg ad fd cl) : FnOk P w K mg base (L2.CX P w) 5 (ad 45) (fd 45) ["_law_found"] (spD K 1 (ph__law_of_place cl)) := by
  have G__law_of_ratio := ok__law_of_ratio (P := P) (w := w) (base := base) T
  refine fn_D T.F__law_of_place sc__law_of_place rfl fun cdv A outer s H E hr hp ho => ⟨_, (b_cons (s_if (DPW.t (w_or (t_not (t_val (d_isi .tup (CS cl) (by decide) T.isi_tuple rfl T.b_isinstance rfl T.b_tuple (by decide +kernel) (dv 0)))) (w_or1 (t_cmp (o_ne hr.units) (d_callB c_len rfl T.b_len boot_len' (a_cons (dv 0) a_nil)) d_int (nomark _))))) (b_one (s_ret d_non)) b_nil)
  (b_one (s_ret (d_tup (a_cons (d_ix x_ix (dv 0) d_int (fun _ _ => rfl)) (a_cons (d_call G__law_of_ratio (hr.mono (by decide)) rfl T.m__law_of_ratio T.k__law_of_ratio T.kb__law_of_ratio_1 (by intro _ _ h _; exact h) hp (a_cons (d_ix x_ix (dv 0) d_int (fun _ _ => rfl)) a_nil)) a_nil)))))), ?_⟩
  clear hp ho hr G__law_of_ratio
  rintro ds M k x hl ⟨p, p', a, b, rfl, q⟩
  refine ⟨_, rfl, ⟨_, rfl, iteF ⟨_, rfl, neI ⟨_, rfl, iteF ?_⟩⟩⟩⟩
  exact ⟨_, rfl, _, rfl, _, rfl, _, rfl, rfl, a, b, rfl, Nat.le_of_ble_eq_true rfl, q⟩

end W58
set_option Elab.async false
set_option linter.all false
set_option maxRecDepth 100000
set_option maxHeartbeats 4000000
set_option pp.deepTerms false
set_option pp.deepTerms.threshold 12
set_option pp.maxSteps 4000
namespace W58
open PySem PySem.Spec PyProof.Rows L2 DL
local macro_rules | `(tactic| walk_at "sc") => `(tactic| first | assumption | rfl | exact Nat.le_of_ble_eq_true rfl | decide | omega | exact mul_small (by omega) (by omega) | exact mul_smallR (by omega) (by omega) | exact ⟨by decide, by decide, by decide⟩ | exact ⟨by omega, by assumption⟩ | exact ⟨by decide, log2_small (by decide) (by decide)⟩)
local macro_rules | `(tactic| walk_at "go1") => `(tactic| first | refine ⟨_, rfl, ?_⟩ | refine ⟨rfl, ?_⟩ | refine ⟨_, by assumption, ?_⟩ | refine ⟨_, mup_same, ?_⟩ | refine eqI ?_ | refine neI ?_ | refine iteT ?_ | refine iteF ?_ | refine ⟨(by walk_at "sc"), ?_⟩)
local macro_rules | `(tactic| walk_at "go") => `(tactic| repeat walk_at "go1")
noncomputable def ppD (x : Str) : D := pickD (fun p => TX.PB p ∧ TL.tl x = TX.prL p) pairD
noncomputable def ppF : D → D
  | .str x => ppD x
  | _ => .non
theorem pp_yes {x : Str} {p : TX.Pr} (b : TX.PB p) (e : TL.tl x = TX.prL p) : ppD x = pairD p := pickD_yes ⟨b, e⟩ fun j w => TX.prL_inj (w.2.symm.trans e)
theorem pp_no {x : Str} (h : ∀ p, TX.PB p → TL.tl x ≠ TX.prL p) : ppD x = .non := pickD_no fun i w => h i w.1 w.2
theorem pp_cases (x : Str) : (∃ p, TX.PB p ∧ TL.tl x = TX.prL p ∧ ppD x = pairD p) ∨ ((∀ p, TX.PB p → TL.tl x ≠ TX.prL p) ∧ ppD x = .non) := by
  by_cases h : ∃ p, TX.PB p ∧ TL.tl x = TX.prL p
  · obtain ⟨i, b, e⟩ := h
    exact .inl ⟨i, b, e, pp_yes b e⟩
  · have h' : ∀ p, TX.PB p → TL.tl x ≠ TX.prL p := fun i b e => h ⟨i, b, e⟩
    exact .inr ⟨h', pp_no h'⟩
theorem ppK {x : Str} {M : Mm} {k : DK} {xx : DX} (h : x.length ≤ 1000) (q : k (ppD x) M) : ph__law_pair_in [.str x] M k xx :=
  ⟨x, rfl, h, fun i b e => by rw [pp_yes b e] at q; exact q, fun w => by rw [pp_no w] at q; exact q⟩
theorem in_one {a b : Str} {M : Mm} {k : DK} {xx : DX} (h : ppD a = .non ∨ ppD b = .non) (q : Unit → k (.bl true) M) : dInD false .non (.lst [ppD a, ppD b]) M k xx := by
  rcases pp_cases a with ⟨p, _, _, e1⟩ | ⟨_, e1⟩ <;> rcases pp_cases b with ⟨p', _, _, e2⟩ | ⟨_, e2⟩ <;> rw [e1, e2] at h ⊢
  · rcases h with h | h <;> cases h
  all_goals exact ⟨_, _, rfl, rfl, rfl, rfl, q ()⟩
def ph__law_side_in : Ct := fun ds M k _ => ∃ z : Str, ds = [.str z] ∧ z.length ≤ 1000 ∧ (∀ p q, TX.PB p → TX.PB q → TX.PLt p q → TL.tl z = TX.sdL p q → k (sideD p q) M) ∧ ((∀ p q, TX.PB p → TX.PB q → TX.PLt p q → TL.tl z ≠ TX.sdL p q) → k .non M)
theorem ok__law_side_in {K : PySem.W.Frag} {mg : Str → Option Value} {ad : Nat → Addr} {fd : Nat → FuncData} {cl : Nat → Addr} {P : Program} {w : World} {base : Heap} (T : Txt K mg ad fd cl) : FnOk P w K mg base (L2.CX P w) 7 (ad 41) (fd 41) ["_law_word"] (spD K 1 ph__law_side_in) := by
  have G__law_pair_in := ok__law_pair_in (P := P) (w := w) (base := base) T
  refine fn_D T.F__law_side_in sc__law_side_in rfl fun cdv A outer s H E hr hp ho => ⟨_, (b_cons (s_setLc (i := 1) (own := [("_law_part", 2)]) rfl sc__law_side_in.nd rfl rfl (sw_true rfl rfl rfl (by decide +kernel)) (i_seq (d_bm PySem.F.plainAttrs_str PySem.F.slot_str_split PySem.F.type_str_split m_split (dv 0) (a_cons d_str a_nil))) (blkOk_by (own := [("_law_part", 2)]) (N := ["_law_word", "_law_parts", "_law_part"]) (sc := (defScope st__law_side_in)) (by decide +kernel)) (gp_name (by decide)) (fun _ _ _ _ _ => (pg_name (i := 2) sc__law_side_in.nd rfl (Or.inl rfl))) (fun _ _ _ _ _ => ts_nil) (fun _ _ _ _ _ => (d_call G__law_pair_in (hr.mono (by decide)) rfl T.m__law_pair_in T.k__law_pair_in T.kb__law_pair_in_1 (by intro _ _ h _; exact h) passL (a_cons (dv 2) a_nil))))
  (b_cons (s_if (DPW.t (w_or (t_cmp (o_ne hr.units) (d_callB c_len rfl T.b_len boot_len' (a_cons (dv 1) a_nil)) d_int (nomark _)) (w_or (t_cmp (o_inD (units65 hr)) d_non (dv 1) rfl) (w_or1 (t_not (t_cmp (o_ltD hr.units) (d_ix x_ix (dv 1) d_int (fun _ _ => rfl)) (d_ix x_ix (dv 1) d_int (fun _ _ => rfl)) (nomark _))))))) (b_one (s_ret d_non)) b_nil)
  (b_one (s_ret (d_tup (a_cons (d_ix x_ix (dv 1) d_int (fun _ _ => rfl)) (a_cons (d_ix x_ix (dv 1) d_int (fun _ _ => rfl)) a_nil))))))), ?_⟩
  clear hp ho hr G__law_pair_in
  rintro ds M k x hl ⟨z, rfl, hz, q1, q2⟩
  have big := size_big
  refine ⟨_, rfl, rfl, z, Str.ofString ":", rfl, rfl, by decide +kernel, by omega, ?_⟩
  have hj := TX.split_joinC TX.tl_cl (by decide +kernel) z
  have hlen := TX.split_lenC TX.tl_cl (by decide +kernel) z
  have hcnt := TX.split_countC TX.tl_cl (by decide +kernel) z
  have two : ∀ p p', TL.tl z = TX.sdL p p' → (Txt.split z (Str.ofString ":")).map TL.tl = [TX.prL p, TX.prL p'] := fun p p' e => TX.split_two TX.tl_cl (by decide +kernel) e (TX.pr_free (by decide)) (TX.pr_free (by decide))
  generalize Txt.split z (Str.ofString ":") = parts at *
  refine lc_map ppF (by rw [List.length_map]; omega) (fun d hd K hK => ?_) (fun d K K' => gN_mono K K') ?_
  · obtain ⟨y, hy, rfl⟩ := List.mem_map.mp hd
    have := hlen y hy
    exact ⟨_, rfl, rfl, ppK (by omega) hK⟩
  rw [List.map_map]
  refine ⟨_, rfl, neI ⟨_, rfl, ?_⟩⟩
  have no : (∀ p p' : TX.Pr, TX.PB p → TX.PB p' → TX.PLt p p' → parts.map TL.tl ≠ [TX.prL p, TX.prL p']) → k .non M := fun h => q2 fun p p' bp bp' hlt e => h p p' bp bp' hlt (two p p' e)
  match parts with
  | [] => exact iteT (iteT (no fun p p' bp bp' hlt e => by simp at e))
  | [_] => exact iteT (iteT (no fun p p' bp bp' hlt e => by simp at e))
  | a :: b :: c :: r =>
    rw [decide_eq_false (show ¬ (((a :: b :: c :: r).map (ppF ∘ D.str)).length : Int) = 2 by simp; omega)]
    exact iteT (iteT (no fun p p' bp bp' hlt e => by simp at e))
  | [a, b] =>
    refine iteF ?_
    have em : List.map (ppF ∘ D.str) [a, b] = [ppD a, ppD b] := rfl
    rw [em]
    refine ⟨_, rfl, ?_⟩
    rcases pp_cases a with ⟨p, bp, ep, e1⟩ | ⟨np, e1⟩
    case inr =>
      refine in_one (.inl e1) (fun _ => ⟨_, rfl, iteT (iteT (no fun p p' bp bp' hlt e => ?_))⟩)
      simp at e
      exact np _ bp e.1
    rcases pp_cases b with ⟨p', bp', ep', e2⟩ | ⟨np, e2⟩
    case inr =>
      refine in_one (.inr e2) (fun _ => ⟨_, rfl, iteT (iteT (no fun p p' bp bp' hlt e => ?_))⟩)
      simp at e
      exact np _ bp' e.2
    rw [e1, e2]
    refine ⟨_, _, rfl, rfl, rfl, rfl, _, rfl, iteF ?_⟩
    refine ⟨_, rfl, _, rfl, _, rfl, _, rfl, TX.prP p, TX.prP p', ⟨rfl, rfl, rfl, rfl, rfl, fun w => by cases w⟩, _, rfl, ?_⟩
    rw [TX.lt_pr]
    have ez : TL.tl z = TX.sdL p p' := by
      rw [← hj]
      show TL.tl a ++ ([58] ++ TL.tl b) = _
      rw [ep, ep']
      rfl
    by_cases hlt : TX.PLt p p'
    · rw [decide_eq_true hlt]
      exact iteF ⟨_, rfl, _, rfl, _, rfl, _, rfl, Nat.le_of_ble_eq_true rfl, q1 p p' bp bp' hlt ez⟩
    · rw [decide_eq_false hlt]
      refine iteT (q2 fun c c' _ _ hlt' w => hlt ?_)
      obtain ⟨w1, w2⟩ := TX.sdL_inj (w.symm.trans ez)
      rw [← w1, ← w2]
      exact hlt'
theorem neFr {a b c d : Int} {M : Mm} {k : DK} (q : k (.bl (!(decide (a = c) && decide (b = d)))) M) : NeK (frc a b) (.tup [.int c, .int d]) M k := by
  refine neP (p := .tuple [.int a, .int b]) (r := .tuple [.int c, .int d]) rfl rfl rfl rfl ?_
  show k (.bl (!(decide (a = c) && (decide (b = d) && true)))) M
  rw [Bool.and_true]
  exact q
def ph__law_read : Ct := fun ds M k _ => ∃ z : Str, ds = [.str z] ∧ z.length ≤ 1000 ∧ (∀ a b, RT.Nf a b → z = TX.txS a b → k (frc a b) M) ∧ ((∀ a b, RT.Nf a b → z ≠ TX.txS a b) → k .non M)
theorem ok__law_read {K : PySem.W.Frag} {mg : Str → Option Value} {ad : Nat → Addr} {fd : Nat → FuncData} {cl : Nat → Addr} {P : Program} {w : World} {base : Heap} (T : Txt K mg ad fd cl) : FnOk P w K mg base (L2.CX P w) 5 (ad 42) (fd 42) ["_law_text_z"] (spD K 1 ph__law_read) := by
  have G__law_number_in := ok__law_number_in (P := P) (w := w) (base := base) T
  have G__law_frac := ok__law_frac (P := P) (w := w) (base := base) T
  refine fn_D T.F__law_read sc__law_read rfl fun cdv A outer s H E hr hp ho => ⟨_, (b_cut (s_par (i := 1) (j := 2) rfl sc__law_read.nd rfl rfl (by decide) rfl rfl (a_cons (d_cmp (o_eq hr.units) (d_slice sl_D (dv 0) o_none (o_some d_int)) d_str (nomark _)) (a_cons (d_if (t_cmp (o_eq hr.units) (d_slice sl_D (dv 0) o_none (o_some d_int)) d_str (nomark _)) (d_slice sl_D (dv 0) (o_some d_int) o_none) (dv 0)) a_nil)) rfl)
  (b_cons (s_set (i := 3) sc__law_read.nd rfl (Or.inl rfl) (d_bm PySem.F.plainAttrs_str PySem.F.slot_str_split PySem.F.type_str_split m_split (dv 2) (a_cons d_str a_nil)))
  (b_cons (s_if (t_cmp o_gt (d_callB c_len rfl T.b_len boot_len' (a_cons (dv 3) a_nil)) d_int (nomark _)) (b_one (s_ret d_non)) b_nil)
  (b_cut (s_par (i := 4) (j := 5) rfl sc__law_read.nd rfl rfl (by decide) rfl rfl (a_cons (d_call G__law_number_in (hr.mono (by decide)) rfl T.m__law_number_in T.k__law_number_in T.kb__law_number_in_1 (by intro _ _ h _; exact h) hp (a_cons (d_ix x_ix (dv 3) d_int (fun _ _ => rfl)) a_nil)) (a_cons (d_if (t_cmp (o_eq hr.units) (d_callB c_len rfl T.b_len boot_len' (a_cons (dv 3) a_nil)) d_int (nomark _)) (d_call G__law_number_in (hr.mono (by decide)) rfl T.m__law_number_in T.k__law_number_in T.kb__law_number_in_1 (by intro _ _ h _; exact h) hp (a_cons (d_ix x_ix (dv 3) d_int (fun _ _ => rfl)) a_nil)) d_int) a_nil)) rfl)
  (b_cons (s_if (DPW.t (w_or (t_cmp o_lt (dv 4) d_int (nomark _)) (w_or (t_cmp o_lt (dv 5) d_int (nomark _)) (w_or (DPW.t (w_and (t_val (dv 1)) (w_and1 (t_cmp (o_eq hr.units) (dv 4) d_int (nomark _))))) (w_or (DPW.t (w_and (t_cmp (o_eq hr.units) (d_callB c_len rfl T.b_len boot_len' (a_cons (dv 3) a_nil)) d_int (nomark _)) (w_and1 (t_cmp (o_eq hr.units) (dv 5) d_int (nomark _))))) (w_or1 (t_cmp (o_ne hr.units) (d_call G__law_frac (hr.mono (by decide)) rfl T.m__law_frac T.k__law_frac T.kb__law_frac_2 (by intro _ _ h _; exact h) hp (a_cons (dv 4) (a_cons (dv 5) a_nil))) (d_tup (a_cons (dv 4) (a_cons (dv 5) a_nil))) (nomark _)))))))) (b_one (s_ret d_non)) b_nil)
  (b_one (s_ret (d_tup (a_cons (d_if (t_val (dv 1)) (d_op o_sub d_int (dv 4)) (dv 4)) (a_cons (dv 5) a_nil)))))))))), ?_⟩
  clear hp ho hr G__law_number_in G__law_frac
  rintro ds M k x hl ⟨z, rfl, hz, q1, q2⟩
  have big := size_big
  have hz2 : z.length ≤ sizeLine := by omega
  have q1' : ∀ a b, RT.Nf a b → TL.tl z = TX.txL a b → k (frc a b) M := fun a b nf h => q1 a b nf (TX.eq_txS h)
  have q2' : (∀ a b, RT.Nf a b → TL.tl z ≠ TX.txL a b) → k .non M := fun h => q2 fun a b nf w => h a b nf (by rw [w, TX.tl_txS])
  clear q1 q2
  refine ⟨fun ρ M' => ∃ (m : Bool) (r : Str), M' = M ∧ ρ = [some (.str z), some (.bl m), some (.str r), none, none, none] ∧ r.length ≤ 1000 ∧ TX.Link (TL.tl z) (TL.tl r) m, ?_, ?_⟩
  · refine ⟨_, rfl, _, rfl, hz2, .of (eqD_str _ _) ?_⟩
    refine ⟨_, rfl, _, rfl, hz2, .of (eqD_str _ _) ⟨_, rfl, ?_⟩⟩
    by_cases hm : ∃ r, TL.tl z = 45 :: r
    · rw [decide_eq_true ((minus_iff z).mpr hm)]
      refine iteT ?_
      obtain ⟨r, hr⟩ := hm
      refine ⟨_, rfl, _, rfl, hz2, _, _, rfl, true, cutS z (some 1) none, rfl, rfl, Nat.le_trans (cutS_length _ _ _) hz, .inl ⟨rfl, ?_⟩⟩
      rw [tl_cut2, hr]
      rfl
    · rw [decide_eq_false (fun w => hm ((minus_iff z).mp w))]
      refine iteF ?_
      exact ⟨_, rfl, _, _, rfl, false, z, rfl, rfl, hz, .inr ⟨rfl, rfl, fun r' h => hm ⟨r', h⟩⟩⟩
  rintro ρ M' ⟨m, r, rfl, rfl, hr, hl⟩
  have canon := fun {a b : Int} (nf : RT.Nf a b) (h : TL.tl z = TX.txL a b) => TX.canon_parts nf h hl
  refine ⟨_, rfl, rfl, r, Str.ofString "/", rfl, rfl, by decide +kernel, by omega, ?_⟩
  have hs := TX.split_parts r
  have hj := TX.split_join' r
  have hlen := TX.split_len r
  rw [← hs] at canon
  generalize Txt.split r (Str.ofString "/") = parts at *
  have hne : parts ≠ [] := fun w => by
    rw [w] at hs
    exact TX.spl_ne _ _ hs.symm
  refine ⟨_, rfl, _, rfl, ?_⟩
  match parts, hne with
  | p0 :: p1 :: p2 :: rest, _ =>
    rw [decide_eq_true (show (2 : Int) < ((p0 :: p1 :: p2 :: rest).map D.str).length by simp; omega)]
    refine iteT ?_
    refine q2' fun a b nf h => ?_
    obtain ⟨_, w | w⟩ := canon nf h
    · exact absurd (congrArg List.length w.2) (by simp)
    · exact absurd (congrArg List.length w.2) (by simp)
  | [p0], _ =>
    refine iteF ?_
    have l0 := hlen p0 (by simp)
    have hj : TL.tl p0 = TL.tl r := hj
    refine ⟨fun ρ M2 => ∃ na : Int, M2 = M' ∧ ρ = [some (.str z), some (.bl m), some (.str r), some (.lst [.str p0]), some (.int na), some (.int 1)] ∧ ((∃ n : Nat, na = n ∧ TL.tl p0 = TL.numL n) ∨ (na = -1 ∧ ∀ n : Nat, TL.tl p0 ≠ TL.numL n)), ?_, ?_⟩
    · refine ⟨_, rfl, _, rfl, rfl, p0, rfl, by omega, fun n hn => ?_, fun hn => ?_⟩
      · exact ⟨_, rfl, eqI ⟨_, rfl, iteF ⟨_, _, rfl, _, rfl, rfl, .inl ⟨n, rfl, hn⟩⟩⟩⟩
      · exact ⟨_, rfl, eqI ⟨_, rfl, iteF ⟨_, _, rfl, _, rfl, rfl, .inr ⟨rfl, hn⟩⟩⟩⟩
    rintro ρ M2 ⟨na, rfl, rfl, ⟨n, rfl, hn⟩ | ⟨rfl, hn⟩⟩
    · refine ⟨_, rfl, _, rfl, ?_⟩
      rw [decide_eq_false (show ¬ (n : Int) < 0 by omega)]
      refine iteF ⟨_, rfl, _, rfl, iteF ?_⟩
      by_cases hm : m = true ∧ n = 0
      · obtain ⟨rfl, rfl⟩ := hm
        refine ⟨_, rfl, _, rfl, iteT ⟨_, rfl, eqI ⟨_, rfl, iteT (iteT ?_)⟩⟩⟩
        refine q2' fun a b nf h => ?_
        obtain ⟨w0, ⟨w, w1⟩ | ⟨w, w1⟩⟩ := canon nf h
        · have w1 : [TL.tl p0] = [TL.numL a.natAbs] := w1
          have := TL.numL_inj (hn.symm.trans (List.cons.inj w1).1)
          have := of_decide_eq_true w0.symm
          omega
        · exact absurd (congrArg List.length w1) (by simp)
      · have step : ∀ {K : Bool → Mm → Prop}, K false M2 → (∃ d, ([some (.str z), some (.bl m), some (.str r), some (.lst [.str p0]), some (.int n), some (.int 1)] : DEnv)[1]? = some (some d) ∧ ∃ b, d = .bl b ∧ if b = true then (∃ d, ([some (.str z), some (.bl m), some (.str r), some (.lst [.str p0]), some (.int n), some (.int 1)] : DEnv)[4]? = some (some d) ∧ EqK d (.int 0) M2 fun u M => ∃ b, u = .bl b ∧ K b M) else K false M2) := by
          intro K hK
          refine ⟨_, rfl, _, rfl, ?_⟩
          cases m with
          | false => exact iteF hK
          | true =>
            refine iteT ⟨_, rfl, eqI ⟨_, rfl, ?_⟩⟩
            rw [decide_eq_false (show ¬ (n : Int) = 0 from fun w => hm ⟨rfl, by omega⟩)]
            exact hK
        refine step ?_
        refine iteF ?_
        refine ⟨_, rfl, eqI ⟨_, rfl, iteF (iteF ?_)⟩⟩
        refine ⟨_, rfl, _, rfl, rfl, n, 1, rfl, by decide, lg_one, ?_⟩
        rw [RT.nrm_of_nf (⟨by decide, by simp⟩ : RT.Nf (n : Int) 1)]
        refine ⟨_, rfl, _, rfl, Nat.le_of_ble_eq_true rfl, neFr ⟨_, rfl, ?_⟩⟩
        rw [show (decide (((n : Int), (1 : Int)).1 = n) && decide (((n : Int), (1 : Int)).2 = 1)) = true by simp]
        refine iteF ?_
        have fin := q1' _ 1 (TX.nf_sign (m := m) (n := n) (k := 1) ⟨by decide, by simp⟩) (TX.canon_one hl (hj.symm.trans hn) hm)
        refine ⟨_, rfl, _, rfl, ?_⟩
        cases m with
        | false => exact iteF ⟨_, rfl, _, rfl, Nat.le_of_ble_eq_true rfl, fin⟩
        | true => exact iteT ⟨_, rfl, _, rfl, Nat.le_of_ble_eq_true rfl, fin⟩
    · refine ⟨_, rfl, _, rfl, iteT ?_⟩
      refine q2' fun a b nf h => ?_
      obtain ⟨_, ⟨_, w⟩ | ⟨_, w⟩⟩ := canon nf h
      · exact hn _ (List.cons.inj w).1
      · exact absurd (congrArg List.length w) (by simp)
  | [p0, p1], _ =>
    refine iteF ?_
    have l0 := hlen p0 (by simp)
    have l1 := hlen p1 (by simp)
    have hj : TL.tl p0 ++ (47 :: TL.tl p1) = TL.tl r := hj
    refine ⟨fun ρ M2 => ∃ na nb : Int, M2 = M' ∧ ρ = [some (.str z), some (.bl m), some (.str r), some (.lst [.str p0, .str p1]), some (.int na), some (.int nb)] ∧ ((∃ n : Nat, na = n ∧ TL.tl p0 = TL.numL n) ∨ (na = -1 ∧ ∀ n : Nat, TL.tl p0 ≠ TL.numL n)) ∧ ((∃ n : Nat, nb = n ∧ TL.tl p1 = TL.numL n) ∨ (nb = -1 ∧ ∀ n : Nat, TL.tl p1 ≠ TL.numL n)), ?_, ?_⟩
    · refine ⟨_, rfl, _, rfl, rfl, p0, rfl, by omega, fun n hn => ?_, fun hn => ?_⟩
      · refine ⟨_, rfl, eqI ⟨_, rfl, iteT ⟨_, rfl, _, rfl, rfl, p1, rfl, by omega, fun n' hn' => ?_, fun hn' => ?_⟩⟩⟩
        · exact ⟨_, _, rfl, _, _, rfl, rfl, .inl ⟨n, rfl, hn⟩, .inl ⟨n', rfl, hn'⟩⟩
        · exact ⟨_, _, rfl, _, _, rfl, rfl, .inl ⟨n, rfl, hn⟩, .inr ⟨rfl, hn'⟩⟩
      · refine ⟨_, rfl, eqI ⟨_, rfl, iteT ⟨_, rfl, _, rfl, rfl, p1, rfl, by omega, fun n' hn' => ?_, fun hn' => ?_⟩⟩⟩
        · exact ⟨_, _, rfl, _, _, rfl, rfl, .inr ⟨rfl, hn⟩, .inl ⟨n', rfl, hn'⟩⟩
        · exact ⟨_, _, rfl, _, _, rfl, rfl, .inr ⟨rfl, hn⟩, .inr ⟨rfl, hn'⟩⟩
    rintro ρ M2 ⟨na, nb, rfl, rfl, ha, hb⟩
    have canon2 : ∀ {a b : Int}, RT.Nf a b → TL.tl z = TX.txL a b → m = decide (a < 0) ∧ b ≠ 1 ∧ TL.tl p0 = TL.numL a.natAbs ∧ TL.tl p1 = TL.numL b.natAbs := fun {a b} nf h => by
      obtain ⟨w0, ⟨w, w1⟩ | ⟨w, w1⟩⟩ := canon nf h
      · exact absurd (congrArg List.length w1) (by simp)
      · have w1 : [TL.tl p0, TL.tl p1] = [TL.numL a.natAbs, TL.numL b.natAbs] := w1
        injection w1 with e1 e2
        injection e2 with e2 _
        exact ⟨w0, w, e1, e2⟩
    clear canon
    rcases ha with ⟨n, rfl, hn⟩ | ⟨rfl, hn⟩
    case inr =>
      refine ⟨_, rfl, _, rfl, iteT ?_⟩
      exact q2' fun a b nf h => hn _ (canon2 nf h).2.2.1
    refine ⟨_, rfl, _, rfl, ?_⟩
    rw [decide_eq_false (show ¬ (n : Int) < 0 by omega)]
    refine iteF ⟨_, rfl, _, rfl, ?_⟩
    rcases hb with ⟨n', rfl, hn'⟩ | ⟨rfl, hn'⟩
    case inr =>
      refine iteT ?_
      exact q2' fun a b nf h => hn' _ (canon2 nf h).2.2.2
    by_cases hb0 : n' = 0
    · subst hb0
      refine iteT ?_
      refine q2' fun a b nf h => ?_
      have := TL.numL_inj (hn'.symm.trans (canon2 nf h).2.2.2)
      have := nf.pos
      omega
    rw [decide_eq_false (show ¬ (n' : Int) < 1 by omega)]
    refine iteF ?_
    by_cases hm : m = true ∧ n = 0
    · obtain ⟨rfl, rfl⟩ := hm
      refine ⟨_, rfl, _, rfl, iteT ⟨_, rfl, eqI ⟨_, rfl, iteT (iteT ?_)⟩⟩⟩
      refine q2' fun a b nf h => ?_
      obtain ⟨w0, _, w1, _⟩ := canon2 nf h
      have := TL.numL_inj (hn.symm.trans w1)
      have := of_decide_eq_true w0.symm
      omega
    have step : ∀ {K : Bool → Mm → Prop}, K false M2 → (∃ d, ([some (.str z), some (.bl m), some (.str r), some (.lst [.str p0, .str p1]), some (.int n), some (.int n')] : DEnv)[1]? = some (some d) ∧ ∃ b, d = .bl b ∧ if b = true then (∃ d, ([some (.str z), some (.bl m), some (.str r), some (.lst [.str p0, .str p1]), some (.int n), some (.int n')] : DEnv)[4]? = some (some d) ∧ EqK d (.int 0) M2 fun u M => ∃ b, u = .bl b ∧ K b M) else K false M2) := by
      intro K hK
      refine ⟨_, rfl, _, rfl, ?_⟩
      cases m with
      | false => exact iteF hK
      | true =>
        refine iteT ⟨_, rfl, eqI ⟨_, rfl, ?_⟩⟩
        rw [decide_eq_false (show ¬ (n : Int) = 0 from fun w => hm ⟨rfl, by omega⟩)]
        exact hK
    refine step ?_
    refine iteF ?_
    refine ⟨_, rfl, eqI ⟨_, rfl, iteT ⟨_, rfl, eqI ⟨_, rfl, ?_⟩⟩⟩⟩
    by_cases h1 : (n' : Int) = 1
    · rw [decide_eq_true h1]
      refine iteT (iteT ?_)
      refine q2' fun a b nf h => ?_
      have := TL.numL_inj (hn'.symm.trans (canon2 nf h).2.2.2)
      have := (canon2 nf h).2.1
      have := nf.pos
      omega
    rw [decide_eq_false h1]
    refine iteF ?_
    have hl8 : Lg (n' : Int) := by
      have e1 := TX.num_lt n'
      rw [← hn', TX.tl_len] at e1
      show (n' : Int).natAbs.log2 < 8000
      rw [Int.natAbs_natCast]
      exact TX.log_ten (Nat.lt_of_lt_of_le e1 (Nat.pow_le_pow_right (by decide) (by omega)))
    have n0 : (n' : Int) ≠ 0 := by omega
    refine ⟨_, rfl, _, rfl, rfl, n, n', rfl, n0, hl8, ?_⟩
    refine ⟨_, rfl, _, rfl, Nat.le_of_ble_eq_true rfl, neFr ⟨_, rfl, ?_⟩⟩
    by_cases hf : (RT.nrm (n : Int) n').1 = n ∧ (RT.nrm (n : Int) n').2 = n'
    · rw [decide_eq_true hf.1, decide_eq_true hf.2]
      refine iteF ?_
      have nf : RT.Nf (n : Int) n' := by
        have := RT.nrm_nf (a := (n : Int)) n0
        rw [hf.1, hf.2] at this
        exact this
      have fin := q1' _ _ (TX.nf_sign (m := m) nf) (TX.canon_two hl (hj.symm.trans (by rw [hn, hn'])) hm h1)
      refine ⟨_, rfl, _, rfl, ?_⟩
      cases m with
      | false => exact iteF ⟨_, rfl, _, rfl, Nat.le_of_ble_eq_true rfl, fin⟩
      | true => exact iteT ⟨_, rfl, _, rfl, Nat.le_of_ble_eq_true rfl, fin⟩
    · rw [show (decide ((RT.nrm (n : Int) n').1 = n) && decide ((RT.nrm (n : Int) n').2 = n')) = false by rw [← Bool.decide_and]; exact decide_eq_false hf]
      refine iteT ?_
      refine q2' fun a b nf h => hf ?_
      obtain ⟨_, _, w1, w2⟩ := canon2 nf h
      have e1 := TL.numL_inj (hn.symm.trans w1)
      have e2 := TL.numL_inj (hn'.symm.trans w2)
      subst e1 e2
      rw [RT.nrm_of_nf (TX.nf_abs nf)]
      exact ⟨rfl, rfl⟩
theorem lsdK {x : Str} {M : Mm} {k : DK} {xx : DX} (h : x.length ≤ 1000) (q : ∀ r, SDN x r → k r M) : ph__law_side_in [.str x] M k xx :=
  ⟨x, rfl, h, fun p p' bp bp' hl hi => q _ (.inl ⟨p, p', bp, bp', hl, hi, rfl⟩), fun hi => q _ (.inr ⟨hi, rfl⟩)⟩
def RDN (x : Str) (r : D) : Prop := (∃ a b, RT.Nf a b ∧ TL.tl x = TX.txL a b ∧ r = frc a b) ∨ ((∀ a b, RT.Nf a b → TL.tl x ≠ TX.txL a b) ∧ r = .non)
theorem rdK {x : Str} {M : Mm} {k : DK} {xx : DX} (h : x.length ≤ 1000) (q : ∀ r, RDN x r → k r M) : ph__law_read [.str x] M k xx :=
  ⟨x, rfl, h, fun a b nf e => q _ (.inl ⟨a, b, nf, by rw [e, TX.tl_txS], rfl⟩), fun hi => q _ (.inr ⟨fun a b nf e => hi a b nf (TX.eq_txS e), rfl⟩)⟩
def ph__law_spot_in : Ct := fun ds M k _ => ∃ z : Str, ds = [.str z] ∧ z.length ≤ 1000 ∧ (∀ p q a b, PlT (TL.tl z) p q a b → k (.tup [sideD p q, frc a b]) M) ∧ ((∀ p q a b, ¬ PlT (TL.tl z) p q a b) → k .non M)
theorem ok__law_spot_in {K : PySem.W.Frag} {mg : Str → Option Value} {ad : Nat → Addr} {fd : Nat → FuncData} {cl : Nat → Addr} {P : Program} {w : World} {base : Heap} (T : Txt K mg ad fd cl) : FnOk P w K mg base (L2.CX P w) 9 (ad 43) (fd 43) ["_law_word"] (spD K 1 ph__law_spot_in) := by
  have G__law_side_in := ok__law_side_in (P := P) (w := w) (base := base) T
  have G__law_read := ok__law_read (P := P) (w := w) (base := base) T
  refine fn_D T.F__law_spot_in sc__law_spot_in rfl fun cdv A outer s H E hr hp ho => ⟨_, (b_cons (s_set (i := 1) sc__law_spot_in.nd rfl (Or.inl rfl) (d_bm PySem.F.plainAttrs_str PySem.F.slot_str_split PySem.F.type_str_split m_split (dv 0) (a_cons d_str a_nil)))
  (b_cons (s_par (i := 2) (j := 3) rfl sc__law_spot_in.nd rfl rfl (by decide) rfl rfl (a_cons (d_call G__law_side_in (hr.mono (by decide)) rfl T.m__law_side_in T.k__law_side_in T.kb__law_side_in_1 (by intro _ _ h _; exact h) hp (a_cons (d_ix x_ix (dv 1) d_int (fun _ _ => rfl)) a_nil)) (a_cons (d_if (t_cmp (o_eq hr.units) (d_callB c_len rfl T.b_len boot_len' (a_cons (dv 1) a_nil)) d_int (nomark _)) (d_call G__law_read (hr.mono (by decide)) rfl T.m__law_read T.k__law_read T.kb__law_read_1 (by intro _ _ h _; exact h) hp (a_cons (d_ix x_ix (dv 1) d_int (fun _ _ => rfl)) a_nil)) d_non) a_nil)) rfl)
  (b_one (s_ret (d_if (DPW.t (w_and (t_cmp o_isNotN (dv 2) d_non (nomark _)) (w_and (t_cmp o_isNotN (dv 3) d_non (nomark _)) (w_and (t_cmp o_lt d_int (d_ix x_ix (dv 3) d_int (fun _ _ => rfl)) (nomark _)) (w_and1 (t_cmp o_lt (d_ix x_ix (dv 3) d_int (fun _ _ => rfl)) (d_ix x_ix (dv 3) d_int (fun _ _ => rfl)) (nomark _))))))) (d_tup (a_cons (dv 2) (a_cons (dv 3) a_nil))) d_non))))), ?_⟩
  clear hp ho hr G__law_side_in G__law_read
  rintro ds M k x hl ⟨z, rfl, hz, q1, q2⟩
  have big := size_big
  refine ⟨_, rfl, rfl, z, Str.ofString "@", rfl, rfl, by decide +kernel, by omega, ?_⟩
  have hj := TX.split_joinC TX.tl_at (by decide +kernel) z
  have hlen := TX.split_lenC TX.tl_at (by decide +kernel) z
  have hne := TX.split_neC TX.tl_at (by decide +kernel) z
  have two : ∀ p p' a b, PlT (TL.tl z) p p' a b → (Txt.split z (Str.ofString "@")).map TL.tl = [TX.sdL p p', TX.txL a b] := fun p p' a b e => TX.split_two TX.tl_at (by decide +kernel) e.2.2.2.2.2.2.2 (TX.sd_free (by decide)) (TX.tx_free (by decide))
  generalize Txt.split z (Str.ofString "@") = parts at *
  match parts, hne with
  | [a], _ =>
    have la := hlen a (by simp)
    have no : k .non M := q2 fun p p' c d w => by simpa using two _ _ _ _ w
    refine ⟨_, rfl, _, rfl, rfl, lsdK (by omega) fun r1 s1 => ⟨_, rfl, eqI ⟨_, rfl, iteF ⟨_, _, rfl, ?_⟩⟩⟩⟩
    refine ⟨_, rfl, rfl, _, rfl, ite_b (fun _ => ?_) fun _ => iteF no⟩
    exact ⟨_, rfl, rfl, _, rfl, iteF (iteF no)⟩
  | a :: b :: c :: r, _ =>
    have la := hlen a (by simp)
    have no : k .non M := q2 fun p p' c d w => by simpa using two _ _ _ _ w
    refine ⟨_, rfl, .str a, atI_nat (xs := (a :: b :: c :: r).map D.str) (j := 0) (v := .str a) rfl, rfl, lsdK (by omega) fun r1 s1 => ⟨_, rfl, eqI ⟨_, rfl, ?_⟩⟩⟩
    rw [decide_eq_false (show ¬ (((a :: b :: c :: r).map D.str).length : Int) = 2 by simp; omega)]
    refine iteF ⟨_, _, rfl, ?_⟩
    refine ⟨_, rfl, rfl, _, rfl, ite_b (fun _ => ?_) fun _ => iteF no⟩
    exact ⟨_, rfl, rfl, _, rfl, iteF (iteF no)⟩
  | [a, b], _ =>
    have la := hlen a (by simp)
    have lb := hlen b (by simp)
    have hj : TL.tl a ++ (64 :: TL.tl b) = TL.tl z := hj
    have two : ∀ p p' c d, PlT (TL.tl z) p p' c d → TL.tl a = TX.sdL p p' ∧ TL.tl b = TX.txL c d := fun p p' c d w => by
      have := two _ _ _ _ w
      simpa using this
    refine ⟨_, rfl, _, rfl, rfl, lsdK (by omega) fun r1 s1 => ⟨_, rfl, eqI ⟨_, rfl, iteT ?_⟩⟩⟩
    refine ⟨_, rfl, _, rfl, rfl, rdK (by omega) fun r2 s2 => ⟨_, _, rfl, ?_⟩⟩
    rcases s1 with ⟨p, p', b1, b2, hlt, e1, rfl⟩ | ⟨n1, rfl⟩
    case inr =>
      exact ⟨_, rfl, rfl, _, rfl, iteF (iteF (q2 fun p p' c d w => n1 p p' w.1 w.2.1 w.2.2.1 (two _ _ _ _ w).1))⟩
    refine ⟨_, rfl, rfl, _, rfl, iteT ?_⟩
    rcases s2 with ⟨c, d, nf, e2, rfl⟩ | ⟨n2, rfl⟩
    case inr =>
      exact ⟨_, rfl, rfl, _, rfl, iteF (iteF (q2 fun p p' c d w => n2 c d w.2.2.2.1 (two _ _ _ _ w).2))⟩
    refine ⟨_, rfl, rfl, _, rfl, iteT ?_⟩
    have ez : TL.tl z = TX.plL p p' c d := by rw [← hj, e1, e2]; rfl
    have ht : (TX.txL c d).length ≤ 2000 := by rw [← e2, TX.tl_len]; omega
    have inj : ∀ u u' v v', PlT (TL.tl z) u u' v v' → c = v ∧ d = v' := fun u u' v v' w => (TX.plL_inj nf w.2.2.2.1 (ez.symm.trans w.2.2.2.2.2.2.2)).2.2
    refine ⟨_, rfl, _, rfl, _, rfl, ?_⟩
    refine ite_b (fun c1 => ?_) (fun c1 => ?_)
    · have c1 := of_decide_eq_true c1
      refine ⟨_, rfl, _, rfl, _, rfl, _, rfl, _, rfl, ?_⟩
      refine ite_b (fun c2 => ?_) (fun c2 => ?_)
      · have c2 := of_decide_eq_true c2
        exact ⟨_, rfl, _, rfl, Nat.le_of_ble_eq_true rfl, q1 p p' c d ⟨b1, b2, hlt, nf, c1, c2, ht, ez⟩⟩
      · have c2 := of_decide_eq_false c2
        refine q2 fun u u' v v' w => ?_
        obtain ⟨rfl, rfl⟩ := inj _ _ _ _ w
        exact c2 w.2.2.2.2.2.1
    · have c1 := of_decide_eq_false c1
      refine iteF (q2 fun u u' v v' w => ?_)
      obtain ⟨rfl, rfl⟩ := inj _ _ _ _ w
      exact c1 w.2.2.2.2.1

end W58
set_option Elab.async false
set_option linter.all false
set_option maxRecDepth 100000
set_option maxHeartbeats 4000000
set_option pp.deepTerms false
set_option pp.deepTerms.threshold 12
set_option pp.maxSteps 4000
namespace W58
open PySem PySem.Spec PyProof.Rows L2 DL
local macro_rules | `(tactic| walk_at "sc") => `(tactic| first | assumption | rfl | exact Nat.le_of_ble_eq_true rfl | decide | omega | exact mul_small (by omega) (by omega) | exact mul_smallR (by omega) (by omega) | exact ⟨by decide, by decide, by decide⟩ | exact ⟨by omega, by assumption⟩ | exact ⟨by decide, log2_small (by decide) (by decide)⟩)
local macro_rules | `(tactic| walk_at "go1") => `(tactic| first | refine ⟨_, rfl, ?_⟩ | refine ⟨rfl, ?_⟩ | refine ⟨_, by assumption, ?_⟩ | refine ⟨_, mup_same, ?_⟩ | refine eqI ?_ | refine neI ?_ | refine iteT ?_ | refine iteF ?_ | refine ⟨(by walk_at "sc"), ?_⟩)
local macro_rules | `(tactic| walk_at "go") => `(tactic| repeat walk_at "go1")
theorem map_get {α : Type} {f : α → D} {S : List α} {j : Nat} {d : D} (h : (S.map f)[j]? = some d) : ∃ s, S[j]? = some s ∧ d = f s := by
  rw [List.getElem?_map] at h
  cases e : S[j]? with
  | none => rw [e] at h; cases h
  | some s => rw [e] at h; cases h; exact ⟨s, rfl, rfl⟩
theorem lc_mapS {α : Type} {γ : DG} {ε : DE} {vs : List Nat} {ρ : DEnv} {M : Mm} {k : DK} {S : List α} {g : α → D} (f : α → D) (hl : (S.map g).length < sizeLine)
    (he : ∀ s ∈ S, ∀ K : DK, K (f s) M → γ (g s) (wipeD ρ vs) M fun ρ1 M2 => ε ρ1 M2 K (fun _ _ _ => False))
    (gm : ∀ d (K K' : DEnv → Mm → Prop), (∀ ρ M, K ρ M → K' ρ M) → γ d (wipeD ρ vs) M K → γ d (wipeD ρ vs) M K') (hk : k (.lst (S.map f)) M) : LcK γ dYes ε vs ρ (S.map g) M k := by
  refine .of hl (fun j acc M' => M' = M ∧ acc = (S.take j).map f) ⟨rfl, rfl⟩ (fun j d acc M' hd ⟨e1, e2⟩ => ?_) (fun acc M' ⟨e1, e2⟩ => ?_)
  · subst e1 e2
    obtain ⟨s, hs, rfl⟩ := map_get hd
    have hn : List.map f (List.take j S) ++ [f s] = List.map f (List.take (j + 1) S) := by
      rw [List.take_succ, hs]
      simp
    refine gm _ _ _ (fun ρ1 M2 hh => ?_) (he s (List.mem_of_getElem? hs) (fun y M4 => M4 = M' ∧ List.map f (List.take j S) ++ [y] = List.map f (List.take (j + 1) S)) ⟨rfl, hn⟩)
    unfold dYes
    dsimp only
    rw [if_pos rfl]
    exact hh
  · subst e1 e2
    rw [List.length_map, List.take_length]
    exact hk
abbrev Wp := TX.Pr × TX.Pr × Int × Int
def plcD (cl : Nat → Addr) (w : Wp) : D := .tup [sideD w.1 w.2.1, rat cl w.2.2.1 w.2.2.2]
def plcL (w : Wp) : List Nat := TX.plL w.1 w.2.1 w.2.2.1 w.2.2.2
structure WOk (w : Wp) : Prop where
  p : TX.PB w.1
  q : TX.PB w.2.1
  a : w.2.2.1.natAbs < 10 ^ 41
  b : w.2.2.2.natAbs < 10 ^ 41
theorem plcL_len {w : Wp} (h : WOk w) : (plcL w).length ≤ 126 := by
  have t0 := TX.sd_len h.p h.q
  have t1 := TX.txS_short h.a h.b
  rw [← TX.tl_len, TX.tl_txS] at t1
  unfold plcL TX.plL
  rw [List.length_append, List.length_cons]
  omega
def wayL (ls : List (List Nat)) : List Nat := ls.flatMap fun l => l ++ [10]
def SeqD (u : D) (ds : List D) : Prop := u = .lst ds ∨ u = .tup ds
def ph_way_text (cl : Nat → Addr) : Ct := fun ds M k _ => ∃ (u : D) (ws : List Wp), ds = [u] ∧ SeqD u (ws.map (plcD cl)) ∧ (∀ w ∈ ws, WOk w) ∧ ws.length ≤ 100 ∧ k (.str (TX.mkS (wayL (ws.map plcL)))) M
theorem ok_way_text {K : PySem.W.Frag} {mg : Str → Option Value} {ad : Nat → Addr} {fd : Nat → FuncData} {cl : Nat → Addr} {P : Program} {w : World} {base : Heap} (T : Txt K mg ad fd cl) : FnOk P w K mg base (L2.CX P w) 7 (ad 20) (fd 20) ["places"] (spD K 1 (ph_way_text cl)) := by
  have G_place_text := ok_place_text (P := P) (w := w) (base := base) T
  refine fn_D T.F_way_text sc_way_text rfl fun cdv A outer s H E hr hp ho => ⟨_, (b_one (s_ret (d_bm PySem.F.plainAttrs_str PySem.F.slot_str_join PySem.F.type_str_join m_join d_str (a_cons (d_lc (own := [("place", 1)]) rfl sc_way_text.nd (i_seq (dv 0)) (blkOk_by (own := [("place", 1)]) (N := ["places", "place"]) (sc := (defScope st_way_text)) (by decide +kernel)) (gp_name (by decide)) (fun _ _ _ _ _ => (pg_name (i := 1) sc_way_text.nd rfl (Or.inl rfl))) (fun _ _ _ _ _ => ts_nil) (fun _ _ _ _ _ => (d_op o_add (d_call G_place_text (hr.mono (by decide)) rfl T.m_place_text T.k_place_text T.kb_place_text_1 (by intro _ _ h _; exact h) passL (a_cons (dv 1) a_nil)) d_str))) a_nil)))), ?_⟩
  clear hp ho hr G_place_text
  rintro ds M k x hl ⟨u, ws, rfl, hu, ok, hz, q⟩
  have big := size_big
  have fin : ∀ {k2 : DK}, k2 (.str (TX.mkS (wayL (ws.map plcL)))) M → ∃ (a : Str) (ys : List Str), D.str (Str.ofString "") = .str a ∧ [D.lst (ws.map fun w => .str (TX.mkS (plcL w ++ [10])))] = [.lst (ys.map .str)] ∧ (ys.map (·.length)).sum + ys.length * a.length ≤ 16777216 ∧ k2 (.str (Txt.join a ys)) M := by
    intro k2 h
    refine ⟨_, ws.map fun w => TX.mkS (plcL w ++ [10]), rfl, by rw [List.map_map]; rfl, ?_, ?_⟩
    · have h1 := TX.sum_le (c := 200) (ws.map fun w => TX.mkS (plcL w ++ [10])) (fun y hy => by
        obtain ⟨w, hw, rfl⟩ := List.mem_map.mp hy
        have := plcL_len (ok w hw)
        rw [TX.mk_len, List.length_append]
        simp
        omega)
      rw [List.length_map] at h1 ⊢
      have h2 : (Str.ofString "").length = 0 := by decide +kernel
      rw [h2]
      omega
    · rw [show Txt.join (Str.ofString "") (ws.map fun w => TX.mkS (plcL w ++ [10])) = TX.mkS (wayL (ws.map plcL)) from TX.eq_mk (by
        rw [TX.join_no, List.map_map]
        unfold wayL
        rw [List.flatMap_def, List.map_map]
        rfl)]
      exact h
  have elem : ∀ w ∈ ws, ∀ {K : DK}, K (.str (TX.mkS (plcL w ++ [10]))) M → ph_place_text cl [plcD cl w] M (fun v M1 => dAdd v (.str (Str.ofString "\n")) M1 K (fun _ _ _ => False)) (fun _ _ _ => False) := by
    intro w hw K hK
    have o := ok w hw
    have l := plcL_len o
    refine ⟨w.1, w.2.1, w.2.2.1, w.2.2.2, rfl, o.p, o.q, Nat.lt_of_lt_of_le o.a (Nat.pow_le_pow_right (by decide) (by decide)), Nat.lt_of_lt_of_le o.b (Nat.pow_le_pow_right (by decide) (by decide)), ?_, ?_⟩
    · show (TX.mkS (plcL w)).length + (Str.ofString "\n").length ≤ sizeLine
      rw [TX.mk_len, show (Str.ofString "\n").length = 1 by decide +kernel]
      omega
    · rw [show TX.mkS (TX.plL w.1 w.2.1 w.2.2.1 w.2.2.2) ++ Str.ofString "\n" = TX.mkS (plcL w ++ [10]) from TX.eq_mk (by rw [TL.tl_append, TX.tl_nl]; rfl)]
      exact hK
  rcases hu with rfl | rfl
  · refine ⟨rfl, _, rfl, lc_mapS (S := ws) (g := plcD cl) (fun w => .str (TX.mkS (plcL w ++ [10]))) (by rw [List.length_map]; omega) (fun w hw K hK => ⟨_, rfl, rfl, elem w hw hK⟩) (fun d K K' => gN_mono K K') (fin q)⟩
  · refine ⟨rfl, _, rfl, lc_mapS (S := ws) (g := plcD cl) (fun w => .str (TX.mkS (plcL w ++ [10]))) (by rw [List.length_map]; omega) (fun w hw K hK => ⟨_, rfl, rfl, elem w hw hK⟩) (fun d K K' => gN_mono K K') (fin q)⟩
def errL (n : Int) : List (Str × D) := [("code", .str "InvalidText"), ("line", .int n)]
def ph_lines_of (CT : Addr) : Ct := fun ds M k x => ∃ u : D, ds = [u] ∧ ((∃ (z : Str) (ps : List Str) (l : Str), u = .str z ∧ z.length ≤ 100000 ∧ z ≠ Str.ofString "" ∧ Txt.split z (Str.ofString "\n") = ps ++ [l] ∧ (l = Str.ofString "" → k (.lst (ps.map .str)) M) ∧ (l ≠ Str.ofString "" → x CT (errL ps.length) M)) ∨ ((u = .str (Str.ofString "") ∨ ∃ ku, kd u = some ku ∧ ku ≠ .str) ∧ x CT (errL 0) M))
theorem ok_lines_of {K : PySem.W.Frag} {mg : Str → Option Value} {ad : Nat → Addr} {fd : Nat → FuncData} {cl : Nat → Addr} {P : Program} {w : World} {base : Heap} (T : Txt K mg ad fd cl) {CT : Addr} (X_InvalidText : RaiseF P w K mg base "InvalidText" CT 1 (XI.fl1 "InvalidText" "line")) : FnOk P w K mg base (L2.CX P w) 4 (ad 21) (fd 21) ["text"] (spD K 1 (ph_lines_of CT)) := by
  refine fn_D T.F_lines_of sc_lines_of rfl fun cdv A outer s H E hr hp ho => ⟨_, (b_cons (s_if (DPW.t (w_or (t_not (t_val (d_isi .str (CS cl) (by decide) T.isi_str rfl T.b_isinstance rfl T.b_str (by decide +kernel) (dv 0)))) (w_or1 (t_cmp (o_eq hr.units) (dv 0) d_str (nomark _))))) (b_one (s_raiseF (flD := fd1 "InvalidText" "line") X_InvalidText fr1 rfl (takes_of rfl rfl rfl rfl) (hr.mono (by decide)) (by decide) rfl (a_cons d_int a_nil))) b_nil)
  (b_cons (s_set (i := 1) sc_lines_of.nd rfl (Or.inl rfl) (d_bm PySem.F.plainAttrs_str PySem.F.slot_str_split PySem.F.type_str_split m_split (dv 0) (a_cons d_str a_nil)))
  (b_cons (s_if (t_cmp (o_ne hr.units) (d_ix x_ix (dv 1) (d_un o_neg d_int) (fun _ _ => rfl)) d_str (nomark _)) (b_one (s_raiseF (flD := fd1 "InvalidText" "line") X_InvalidText fr1 rfl (takes_of rfl rfl rfl rfl) (hr.mono (by decide)) (by decide) rfl (a_cons (d_op o_sub (d_callB c_len rfl T.b_len boot_len' (a_cons (dv 1) a_nil)) d_int) a_nil))) b_nil)
  (b_one (s_ret (d_slice sl_D (dv 1) o_none (o_some (d_un o_neg d_int)))))))), ?_⟩
  clear hp ho hr
  rintro ds M k x hl ⟨u, rfl, h⟩
  have big : 200000 ≤ sizeLine := by decide
  rcases h with ⟨z, ps, l, rfl, hz, hne, hs, q1, q2⟩ | ⟨hb, q⟩
  · refine ⟨_, rfl, ⟨_, rfl, iteF ?_⟩⟩
    refine ⟨_, rfl, .of (eqD_str _ _) ⟨_, rfl, ?_⟩⟩
    rw [decide_eq_false hne]
    refine iteF ?_
    refine ⟨_, rfl, rfl, z, Str.ofString "\n", rfl, rfl, by decide +kernel, by omega, ?_⟩
    rw [hs, List.map_append]
    refine ⟨_, rfl, .str l, TX.atI_last _ _, .of (eqD_str _ _) ⟨_, rfl, ?_⟩⟩
    by_cases e : l = Str.ofString ""
    · rw [decide_eq_true e]
      refine iteF ⟨_, rfl, _, rfl, ?_⟩
      show k (D.lst (DL.cutD (ps.map D.str ++ [l].map D.str) none (some (-1)))) M
      rw [show DL.cutD (ps.map D.str ++ [l].map D.str) none (some (-1)) = ps.map D.str from TX.cutD_init _ _]
      exact q1 e
    · rw [decide_eq_false e]
      refine iteT ⟨_, rfl, rfl, ?_⟩
      have := q2 e
      show x CT (errL ((((ps.map D.str ++ [l].map D.str).length : Nat) : Int) - 1)) M
      rw [show (((ps.map D.str ++ [l].map D.str).length : Nat) : Int) - 1 = ps.length by simp]
      exact this
  · rcases hb with rfl | ⟨ku, hu, hk⟩
    · refine ⟨_, rfl, ⟨_, rfl, iteF ?_⟩⟩
      exact ⟨_, rfl, .of (eqD_str _ _) ⟨_, rfl, iteT ⟨rfl, q⟩⟩⟩
    · refine ⟨_, rfl, isiBk hu ⟨_, rfl, ?_⟩⟩
      rw [show isK .str ku = false by cases ku <;> first | rfl | exact absurd rfl hk]
      exact iteT ⟨rfl, q⟩
def PlW (y : Str) (w : Wp) : Prop := PlT (TL.tl y) w.1 w.2.1 w.2.2.1 w.2.2.2
noncomputable def plcF (f : Wp → D) (y : Str) : D := pickD (PlW y) f
theorem plW_uniq {y : Str} {w w' : Wp} (h : PlW y w) (h' : PlW y w') : w' = w := by
  obtain ⟨h1, h2, h3, h4⟩ := TX.plL_inj h.2.2.2.1 h'.2.2.2.1 (h.2.2.2.2.2.2.2.symm.trans h'.2.2.2.2.2.2.2)
  obtain ⟨a, b, c, d⟩ := w
  obtain ⟨a', b', c', d'⟩ := w'
  cases h1; cases h2; cases h3; cases h4
  rfl
theorem plW_yes {f : Wp → D} {y : Str} {w : Wp} (h : PlW y w) : plcF f y = f w := pickD_yes h fun w' h' => plW_uniq h h'
theorem plW_no {f : Wp → D} {y : Str} (h : ∀ w, ¬ PlW y w) : plcF f y = .non := pickD_no h
def Ext (M M' : Mm) : Prop := ∀ a o, M a = some o → M' a = some o
theorem ext_new {M : Mm} {r : Addr} {o : MO} (h : M r = none) : Ext M (mup M r o) := fun a o' e => by rw [mup_ne (fun z => by rw [z, h] at e; cases e)]; exact e
def ph_read_way (cl : Nat → Addr) (CT : Addr) : Ct := fun ds M k x => ∃ u : D, ds = [u] ∧ ((∃ (z : Str) (ps : List Str) (l : Str), u = .str z ∧ z.length ≤ 100000 ∧ z ≠ Str.ofString "" ∧ Txt.split z (Str.ofString "\n") = ps ++ [l] ∧ (l ≠ Str.ofString "" → ∀ M', Ext M M' → x CT (errL ps.length) M') ∧
    (l = Str.ofString "" → (∀ (i : Nat) (y : Str), ps[i]? = some y → (∀ w, ¬ PlW y w) → (∀ (j : Nat) (y' : Str), j < i → ps[j]? = some y' → ∃ w, PlW y' w) → ∀ M', Ext M M' → x CT (errL i) M') ∧ ((∀ y ∈ ps, ∃ w, PlW y w) → k (.lst (ps.map (plcF (plcD cl)))) M))) ∨ ((u = .str (Str.ofString "") ∨ ∃ ku, kd u = some ku ∧ ku ≠ .str) ∧ ∀ M', Ext M M' → x CT (errL 0) M'))
theorem ok_read_way {K : PySem.W.Frag} {mg : Str → Option Value} {ad : Nat → Addr} {fd : Nat → FuncData} {cl : Nat → Addr} {P : Program} {w : World} {base : Heap} (T : Txt K mg ad fd cl) {CR : Addr} (X_InvalidRatio : RaiseF P w K mg base "InvalidRatio" CR 1 (XI.fl1 "InvalidRatio" "given")) (XM : PySem.W.exmOne K (.ref CR) (.ref CR) = some true) {CT : Addr} (X_InvalidText : RaiseF P w K mg base "InvalidText" CT 1 (XI.fl1 "InvalidText" "line")) : FnOk P w K mg base (L2.CX P w) 11 (ad 22) (fd 22) ["text"] (spD K 1 (ph_read_way cl CT)) := by
  have G_lines_of := ok_lines_of (P := P) (w := w) (base := base) T X_InvalidText
  have G_place_in := ok_place_in (P := P) (w := w) (base := base) T X_InvalidRatio XM
  refine fn_D T.F_read_way sc_read_way rfl fun cdv A outer s H E hr hp ho => ⟨_, (b_cons (s_set (i := 1) sc_read_way.nd rfl (Or.inl rfl) (d_lstM a_nil))
  (b_cons (s_for ho rfl (i_enum rfl T.b_enumerate (a_cons (d_call G_lines_of (hr.mono (by decide)) rfl T.m_lines_of T.k_lines_of T.kb_lines_of_1 (by intro _ _ h _; exact h) hp (a_cons (dv 0) a_nil)) a_nil)) (g_tup (n := 2) rfl (gs_cons (g_name (i := 2) sc_read_way.nd rfl (Or.inl rfl)) (gs_cons (g_name (i := 3) sc_read_way.nd rfl (Or.inl rfl)) gs_nil)))
  (b_cons (s_set (i := 4) sc_read_way.nd rfl (Or.inl rfl) (d_call G_place_in (hr.mono (by decide)) rfl T.m_place_in T.k_place_in T.kb_place_in_1 (by intro _ _ h _; exact h) hp (a_cons (dv 3) a_nil)))
  (b_cons (s_if (t_cmp o_isN (dv 4) d_non (nomark _)) (b_one (s_raiseF (flD := fd1 "InvalidText" "line") X_InvalidText fr1 rfl (takes_of rfl rfl rfl rfl) (hr.mono (by decide)) (by decide) rfl (a_cons (dv 2) a_nil))) b_nil)
  (b_one (s_expr (d_bm PySem.F.plainAttrs_list PySem.F.slot_list_append PySem.F.type_list_append m_append (dv 1) (a_cons (dv 4) a_nil)))))))
  (b_one (s_retZ (dv 1))))), ?_⟩
  clear hp ho hr G_lines_of G_place_in
  rintro ds M k x hl ⟨u, rfl, h⟩
  have big : 200000 ≤ sizeLine := by decide
  refine ⟨Nat.le_of_ble_eq_true rfl, fun r hr => ?_⟩
  rcases h with ⟨z, ps, l, rfl, hz, hne, hs, q1, q2⟩ | ⟨hb, q⟩
  case inr => exact ⟨_, rfl, rfl, u, rfl, .inr ⟨hb, q _ (ext_new hr)⟩⟩
  refine ⟨_, rfl, rfl, .str z, rfl, .inl ⟨z, ps, l, rfl, hz, hne, hs, fun e => ?_, fun e => q1 e _ (ext_new hr)⟩⟩
  obtain ⟨q3, q4⟩ := q2 e
  have hcnt := TX.split_countC TX.tl_nl (by decide +kernel) z
  have hlen := TX.split_lenC TX.tl_nl (by decide +kernel) z
  rw [hs, List.length_append] at hcnt
  rw [hs] at hlen
  refine ⟨_, rfl, ForK.of (fun j ρ M' => M' = mup M r (.lst ((ps.take j).map (plcF (plcD cl)))) ∧ (∀ (i : Nat) (y : Str), i < j → ps[i]? = some y → ∃ w, PlW y w) ∧ ∃ r2 r3 r4 : Option D, ρ = [some (.str z), some (.cel r), r2, r3, r4]) ⟨rfl, fun i y h => absurd h (Nat.not_lt_zero _), _, _, _, rfl⟩ ?_ ?_⟩
  · rintro j d ρ M' hd ⟨rfl, hb, r2, r3, r4, rfl⟩
    obtain ⟨e1, h1, rfl⟩ := enums_get hd
    obtain ⟨y, h2, rfl⟩ := map_get h1
    have hy := hlen y (List.mem_append_left _ (List.mem_of_getElem? h2))
    refine ⟨_, rfl, rfl, _, _, rfl, _, _, rfl, rfl, ?_⟩
    refine ⟨_, rfl, rfl, y, rfl, by omega, fun p p' a b w => ?_, fun w => ?_⟩
    · refine ⟨_, rfl, rfl, _, rfl, iteF ?_⟩
      have w0 : PlW y (p, p', a, b) := w
      refine ⟨_, rfl, ⟨rfl, _, mup_same⟩, _, rfl, _, mup_same, by rw [List.length_map, List.length_take]; simp at hcnt; omega, ?_, ?_, _, _, _, rfl⟩
      · rw [mup_mup, List.take_succ, h2, List.map_append]
        show _ = mup M r (.lst (_ ++ [plcF (plcD cl) y]))
        rw [plW_yes w0]
        rfl
      · intro i y' hi hy'
        by_cases hij : i = j
        · subst hij
          rw [h2] at hy'
          cases hy'
          exact ⟨_, w0⟩
        · exact hb i y' (by omega) hy'
    · refine ⟨_, rfl, rfl, _, rfl, iteT ⟨_, rfl, rfl, ?_⟩⟩
      exact q3 j y h2 (fun w' h => w _ _ _ _ h) (fun i y' hi hy' => hb i y' hi hy') _ (ext_new hr)
  · rintro ρ M' ⟨rfl, hb, r2, r3, r4, rfl⟩
    rw [enums_length, List.length_map] at hb
    refine ⟨_, rfl, r, _, rfl, mup_same, hr, ?_⟩
    rw [mdel_mup hr, enums_length, List.length_map, List.take_length]
    refine q4 fun y hy => ?_
    obtain ⟨i, hi, e⟩ := List.getElem_of_mem hy
    exact hb i y hi (by rw [List.getElem?_eq_getElem hi, e])
def ph__law_joined_rows : Ct := fun ds M k _ => ∃ zs : List Str, ds = [.lst (zs.map .str)] ∧ zs.length ≤ 100 ∧ (∀ z ∈ zs, z.length ≤ 1000) ∧ k (.str (TX.mkS (wayL (zs.map TL.tl)))) M
theorem ok__law_joined_rows {K : PySem.W.Frag} {mg : Str → Option Value} {ad : Nat → Addr} {fd : Nat → FuncData} {cl : Nat → Addr} {P : Program} {w : World} {base : Heap} (T : Txt K mg ad fd cl) : FnOk P w K mg base (L2.CX P w) 1 (ad 46) (fd 46) ["_law_rows"] (spD K 1 ph__law_joined_rows) := by
  refine fn_D T.F__law_joined_rows sc__law_joined_rows rfl fun cdv A outer s H E hr hp ho => ⟨_, (b_one (s_ret (d_bm PySem.F.plainAttrs_str PySem.F.slot_str_join PySem.F.type_str_join m_join d_str (a_cons (d_lc (own := [("_law_row", 1)]) rfl sc__law_joined_rows.nd (i_seq (dv 0)) (blkOk_by (own := [("_law_row", 1)]) (N := ["_law_rows", "_law_row"]) (sc := (defScope st__law_joined_rows)) (by decide +kernel)) (gp_name (by decide)) (fun _ _ _ _ _ => (pg_name (i := 1) sc__law_joined_rows.nd rfl (Or.inl rfl))) (fun _ _ _ _ _ => ts_nil) (fun _ _ _ _ _ => (d_op o_add (dv 1) d_str))) a_nil)))), ?_⟩
  clear hp ho hr
  rintro ds M k x hl ⟨zs, rfl, hz, hs, q⟩
  have big := size_big
  have l1 : (Str.ofString "\n").length = 1 := by decide +kernel
  refine ⟨rfl, _, rfl, lc_mapS (S := zs) (g := D.str) (fun z => .str (z ++ Str.ofString "\n")) (by rw [List.length_map]; omega) (fun z hz' K hK => ⟨_, rfl, by have := hs z hz'; omega, hK⟩) (fun d K K' => gN_mono K K') ?_⟩
  refine ⟨_, zs.map fun z => z ++ Str.ofString "\n", rfl, by rw [List.map_map]; rfl, ?_, ?_⟩
  · have h1 := TX.sum_le (c := 1001) (zs.map fun z => z ++ Str.ofString "\n") (fun y hy => by
      obtain ⟨z, hz', rfl⟩ := List.mem_map.mp hy
      have := hs z hz'
      rw [Str.length_append]
      omega)
    rw [List.length_map] at h1 ⊢
    have h2 : (Str.ofString "").length = 0 := by decide +kernel
    rw [h2]
    omega
  · rw [show Txt.join (Str.ofString "") (zs.map fun z => z ++ Str.ofString "\n") = TX.mkS (wayL (zs.map TL.tl)) from TX.eq_mk (by
      rw [TX.join_no, List.map_map]
      unfold wayL
      rw [List.flatMap_def, List.map_map]
      congr 1
      refine List.map_congr_left fun z _ => ?_
      show TL.tl (z ++ Str.ofString "\n") = _
      rw [TL.tl_append, TX.tl_nl]
      rfl)]
    exact q
def spoD (w : Wp) : D := .tup [sideD w.1 w.2.1, frc w.2.2.1 w.2.2.2]
def ph__law_of_places (cl : Nat → Addr) : Ct := fun ds M k _ => ∃ ws : List Wp, ds = [.lst (ws.map (plcD cl))] ∧ ws.length ≤ 1000 ∧ k (.lst (ws.map spoD)) M
theorem ok__law_of_places {K : PySem.W.Frag} {mg : Str → Option Value} {ad : Nat → Addr} {fd : Nat → FuncData} {cl : Nat → Addr} {P : Program} {w : World} {base : Heap} (T : Txt K mg ad fd cl) : FnOk P w K mg base (L2.CX P w) 7 (ad 47) (fd 47) ["_law_found"] (spD K 1 (ph__law_of_places cl)) := by
  have G__law_of_place := ok__law_of_place (P := P) (w := w) (base := base) T
  refine fn_D T.F__law_of_places sc__law_of_places rfl fun cdv A outer s H E hr hp ho => ⟨_, (b_one (s_ret (d_if (t_val (d_isi .lst (CS cl) (by decide) T.isi_list rfl T.b_isinstance rfl T.b_list (by decide +kernel) (dv 0))) (d_lc (own := [("_law_one_p", 1)]) rfl sc__law_of_places.nd (i_seq (dv 0)) (blkOk_by (own := [("_law_one_p", 1)]) (N := ["_law_found", "_law_one_p"]) (sc := (defScope st__law_of_places)) (by decide +kernel)) (gp_name (by decide)) (fun _ _ _ _ _ => (pg_name (i := 1) sc__law_of_places.nd rfl (Or.inl rfl))) (fun _ _ _ _ _ => ts_nil) (fun _ _ _ _ _ => (d_call G__law_of_place (hr.mono (by decide)) rfl T.m__law_of_place T.k__law_of_place T.kb__law_of_place_1 (by intro _ _ h _; exact h) passL (a_cons (dv 1) a_nil)))) (d_lst a_nil)))), ?_⟩
  clear hp ho hr G__law_of_place
  rintro ds M k x hl ⟨ws, rfl, hz, q⟩
  have big := size_big
  refine ⟨_, rfl, ⟨_, rfl, iteT ?_⟩⟩
  exact ⟨_, rfl, lc_mapS (S := ws) (g := plcD cl) spoD (by rw [List.length_map]; omega) (fun w hw K hK => ⟨_, rfl, rfl, w.1, w.2.1, w.2.2.1, w.2.2.2, rfl, hK⟩) (fun d K K' => gN_mono K K') q⟩

end W58
set_option Elab.async false
set_option linter.all false
set_option maxRecDepth 100000
set_option maxHeartbeats 4000000
set_option pp.deepTerms false
set_option pp.deepTerms.threshold 12
set_option pp.maxSteps 4000
namespace W58
open PySem PySem.Spec PyProof.Rows L2 DL
local macro_rules | `(tactic| walk_at "sc") => `(tactic| first | assumption | rfl | exact Nat.le_of_ble_eq_true rfl | decide | omega | exact mul_small (by omega) (by omega) | exact mul_smallR (by omega) (by omega) | exact ⟨by decide, by decide, by decide⟩ | exact ⟨by omega, by assumption⟩ | exact ⟨by decide, log2_small (by decide) (by decide)⟩)
local macro_rules | `(tactic| walk_at "go1") => `(tactic| first | refine ⟨_, rfl, ?_⟩ | refine ⟨rfl, ?_⟩ | refine ⟨_, by assumption, ?_⟩ | refine ⟨_, mup_same, ?_⟩ | refine eqI ?_ | refine neI ?_ | refine iteT ?_ | refine iteF ?_ | refine ⟨(by walk_at "sc"), ?_⟩)
local macro_rules | `(tactic| walk_at "go") => `(tactic| repeat walk_at "go1")
def ph_law (Ps : List Addr) : Ct := fun ds M k _ => ∃ (P0 : Addr) (ns : List Int), Ps = [P0] ∧ ds = [.scr ns] ∧ ns.length ≤ 63 ∧ M P0 = some (.tbl ("law" ++ ".<locals>." ++ "<lambda>")) ∧ ∀ M', k (.bl true) M'
theorem ph_law_of {Ps : List Addr} {ns : List Int} {M : Mm} {kk : DK} {xx : DX} (h1 : ns.length ≤ 63) (h2 : Ps.length = 1) (h3 : ∀ (i : Nat) (P : Addr) (q0 : Str), Ps[i]? = some P → (["law" ++ ".<locals>." ++ "<lambda>"] : List Str)[i]? = some q0 → M P = some (.tbl q0)) (h4 : ∀ M', kk (.bl true) M') : ph_law Ps [.scr ns] M kk xx := by
  match Ps, h2 with
  | [A], _ => exact ⟨A, ns, rfl, rfl, h1, h3 0 A _ rfl rfl, h4⟩
/-- what is known of the memory -/
structure Mk (P0 p : Addr) (b : Bag) (M : Mm) : Prop where
  ok : b.Ok
  bag : M p = some b.mo
  tab : M P0 = some (.tbl ("law" ++ ".<locals>." ++ "<lambda>"))
theorem bag_tbl {b : Bag} {q : Str} (h : b.mo = MO.tbl q) : False := by cases h
theorem Mk.ne {P0 p : Addr} {b : Bag} {M : Mm} (h : Mk P0 p b M) : P0 ≠ p := fun e => by
  have h1 := h.tab
  rw [e, h.bag] at h1
  exact bag_tbl (Option.some.inj h1)
theorem Mk.put {P0 p : Addr} {b b' : Bag} {M : Mm} (h : Mk P0 p b M) (o : b'.Ok) : Mk P0 p b' (mup M p b'.mo) := ⟨o, mup_same, by rw [mup_ne h.ne]; exact h.tab⟩
theorem Mk.new {P0 p r : Addr} {b : Bag} {M : Mm} {o : MO} (h : Mk P0 p b M) (hr : M r = none) : Mk P0 p b (mup M r o) :=
  ⟨h.ok, by rw [mup_ne (fun e => by rw [← e, h.bag] at hr; cases hr)]; exact h.bag, by rw [mup_ne (fun e => by rw [← e, h.tab] at hr; cases hr)]; exact h.tab⟩
theorem Mk.set {P0 p r : Addr} {b : Bag} {M : Mm} {o : MO} {ds : List D} (h : Mk P0 p b M) (h1 : r ≠ p) (h2 : r ≠ P0) : Mk P0 p b (mup M r o) :=
  ⟨h.ok, by rw [mup_ne (Ne.symm h1)]; exact h.bag, by rw [mup_ne (Ne.symm h2)]; exact h.tab⟩
section
variable {P0 p : Addr} {b : Bag} {M : Mm} {k : DK} {x : DX}
theorem pullG {many : Int} (h : Mk P0 p b M) (h0 : 0 < many) (hz : many.natAbs.log2 < 9000) (q : ∀ (d : Int) (b' : Bag), 0 ≤ d → d < many → Mk P0 p b' (mup M p b'.mo) → k (.int d) (mup M p b'.mo)) : ph__law_pull [.cel p, .int many] M k x :=
  ⟨p, b, many, rfl, h.bag, h.ok, h0, hz, fun d b' h1 h2 h3 => q d b' h1 h2 (h.put h3)⟩
theorem pickG {es : List D} (h : Mk P0 p b M) (h0 : 0 < es.length) (h1 : es.length ≤ 1000) (q : ∀ d ∈ es, ∀ b' : Bag, Mk P0 p b' (mup M p b'.mo) → k d (mup M p b'.mo)) : ph__law_pick [.cel p, .lst es] M k x :=
  ⟨p, b, _, rfl, h.bag, h.ok, .inl ⟨es, rfl, h0, h1, fun d hd b' h3 => q d hd b' (h.put h3)⟩⟩
end
theorem plt_of {s t : TX.Pr} (h : ¬ TX.PLt s t) (hne : s ≠ t) : TX.PLt t s := by
  unfold TX.PLt at *
  have : ¬ (s.1 = t.1 ∧ s.2 = t.2) := fun w => hne (Prod.ext w.1 w.2)
  omega
theorem frac_in {A B a b : Int} (hA : 0 < A) (hB : A < B) (hb : 0 < b) (hv : a * B = A * b) : 0 < a ∧ a < b := by
  have B0 : 0 ≤ B := by omega
  constructor
  · refine Int.lt_of_mul_lt_mul_right (a := B) ?_ B0
    rw [hv, Int.zero_mul]
    exact Int.mul_pos hA hb
  · refine Int.lt_of_mul_lt_mul_right (a := B) ?_ B0
    rw [hv, Int.mul_comm b B]
    exact Int.mul_lt_mul_of_pos_right hB hb
structure WG (w : Wp) : Prop where
  p : TX.PB w.1
  q : TX.PB w.2.1
  nf : RT.Nf w.2.2.1 w.2.2.2
  a0 : 0 < w.2.2.1
  ab : w.2.2.1 < w.2.2.2
  b1 : w.2.2.2 ≤ 101
theorem WG.ok {w : Wp} (h : WG w) : WOk w := by
  have := h.a0
  have := h.ab
  have := h.b1
  exact ⟨h.p, h.q, by omega, by omega⟩
theorem WG.sz {w : Wp} (h : WG w) : w.2.2.1.natAbs < 10 ^ 2000 ∧ w.2.2.2.natAbs < 10 ^ 2000 := ⟨Nat.lt_of_lt_of_le h.ok.a (Nat.pow_le_pow_right (by decide) (by decide)), Nat.lt_of_lt_of_le h.ok.b (Nat.pow_le_pow_right (by decide) (by decide))⟩
theorem int_ge1 (i : Int) : 1 ≤ (TX.intL i).length := by
  unfold TX.intL
  split
  · have := TL.numL_ne i.toNat
    cases e : TL.numL i.toNat with
    | nil => exact absurd e this
    | cons a b => simp
  · simp
theorem plcL_ge (w : Wp) : 9 ≤ (plcL w).length := by
  have h1 := int_ge1 w.1.1
  have h2 := int_ge1 w.1.2
  have h3 := int_ge1 w.2.1.1
  have h4 := int_ge1 w.2.1.2
  have h5 : 1 ≤ (TX.txL w.2.2.1 w.2.2.2).length := by
    have := int_ge1 w.2.2.1
    unfold TX.txL
    split
    · exact this
    · rw [List.length_append]; omega
  unfold plcL TX.plL TX.sdL TX.prL
  simp only [List.length_append, List.length_cons]
  omega
def Row (z : Str) (j : Nat) : Prop := z.length ≤ 126 + j ∧ 9 ≤ z.length + j
theorem way_len : ∀ zs : List Str, (∀ z ∈ zs, z.length ≤ 130) → (wayL (zs.map TL.tl)).length ≤ zs.length * 131
  | [], _ => by simp [wayL]
  | z :: zs, h => by
    have h1 := h z (by simp)
    have h2 := way_len zs fun y hy => h y (by simp [hy])
    have e : wayL ((z :: zs).map TL.tl) = (TL.tl z ++ [10]) ++ wayL (zs.map TL.tl) := by simp [wayL]
    rw [e, List.length_append, List.length_append, TX.tl_len]
    simp only [List.length_cons, List.length_nil]
    rw [Nat.succ_mul]
    omega
theorem way_ge {z : Str} {zs : List Str} : z.length + 1 ≤ (wayL ((z :: zs).map TL.tl)).length := by
  have e : wayL ((z :: zs).map TL.tl) = (TL.tl z ++ [10]) ++ wayL (zs.map TL.tl) := by simp [wayL]
  rw [e, List.length_append, List.length_append, TX.tl_len]
  simp only [List.length_cons, List.length_nil]
  omega
def spQ (d : D) : PyData := (toP d).getD .none
theorem toPs_all : ∀ ds : List D, (∀ d ∈ ds, ∃ p, toP d = some p) → toPs ds = some (ds.map spQ)
  | [], _ => by simp [toPs]
  | d :: ds, h => by
    obtain ⟨p, e⟩ := h d (by simp)
    have ih := toPs_all ds fun y hy => h y (by simp [hy])
    simp only [toPs, e, ih, List.map_cons, spQ, Option.getD_some]
theorem shaped_all : ∀ xs : List PyData, (∀ x ∈ xs, x.canLay0 = true ∧ x.depth ≤ 10) → PyData.canLayAll0 xs = true ∧ PyData.depthAll xs ≤ 10
  | [], _ => by simp [PyData.canLayAll0, PyData.depthAll]
  | x :: xs, h => by
    obtain ⟨h1, h2⟩ := h x (by simp)
    obtain ⟨h3, h4⟩ := shaped_all xs fun y hy => h y (by simp [hy])
    simp only [PyData.canLayAll0, PyData.depthAll, h1, h3, Bool.and_self, true_and]
    omega
theorem shaped_lst {xs : List PyData} (h : ∀ x ∈ xs, x.canLay0 = true ∧ x.depth ≤ 10) : SeqAt.shaped (.list xs) = true := by
  obtain ⟨h1, h2⟩ := shaped_all xs h
  unfold SeqAt.shaped
  rw [Bool.and_eq_true]
  exact ⟨by simp only [PyData.canLay0]; exact h1, decide_eq_true (by simp only [PyData.depth]; omega)⟩
theorem sp_cases (y : Str) : (∃ w, PlW y w ∧ plcF spoD y = spoD w) ∨ ((∀ w, ¬ PlW y w) ∧ plcF spoD y = .non) := by
  by_cases h : ∃ w, PlW y w
  · obtain ⟨w, h⟩ := h
    exact .inl ⟨w, h, plW_yes h⟩
  · have h' : ∀ w, ¬ PlW y w := fun w hw => h ⟨w, hw⟩
    exact .inr ⟨h', plW_no h'⟩
theorem sp_toP (y : Str) : ∃ p, toP (plcF spoD y) = some p ∧ p.canLay0 = true ∧ p.depth ≤ 10 ∧ ((∃ w, PlW y w) → PyData.eqv p .none = false) ∧ ((∀ w, ¬ PlW y w) → p = .none) := by
  rcases sp_cases y with ⟨w, hw, e⟩ | ⟨h, e⟩
  · rw [e]
    exact ⟨_, rfl, rfl, by simp [PyData.depth, PyData.depthAll], fun _ => rfl, fun h => absurd hw (h w)⟩
  · rw [e]
    exact ⟨_, rfl, rfl, by simp [PyData.depth], fun ⟨w, hw⟩ => absurd hw (h w), fun _ => rfl⟩
theorem found_P (ps : List Str) : toP (.lst (ps.map (plcF spoD))) = some (.list (ps.map fun y => spQ (plcF spoD y))) ∧ SeqAt.shaped (.list (ps.map fun y => spQ (plcF spoD y))) = true := by
  constructor
  · simp only [toP]
    rw [toPs_all _ (fun d hd => by
      obtain ⟨y, _, rfl⟩ := List.mem_map.mp hd
      obtain ⟨p, e, _⟩ := sp_toP y
      exact ⟨p, e⟩), List.map_map]
    rfl
  · refine shaped_lst fun x hx => ?_
    obtain ⟨y, _, rfl⟩ := List.mem_map.mp hx
    obtain ⟨p, e, h1, h2, _⟩ := sp_toP y
    unfold spQ
    rw [e]
    exact ⟨h1, h2⟩
theorem spQ_yes {y : Str} (h : ∃ w, PlW y w) : PyData.eqv (spQ (plcF spoD y)) .none = false := by
  obtain ⟨p, e, _, _, h1, _⟩ := sp_toP y
  unfold spQ
  rw [e]
  exact h1 h
theorem spQ_no {y : Str} (h : ∀ w, ¬ PlW y w) : spQ (plcF spoD y) = .none := by
  obtain ⟨p, e, _, _, _, h1⟩ := sp_toP y
  unfold spQ
  rw [e]
  exact h1 h
theorem first_bad (ps : List Str) (h : ¬ ∀ y ∈ ps, ∃ w, PlW y w) : ∃ (i : Nat) (y : Str), ps[i]? = some y ∧ (∀ w, ¬ PlW y w) ∧ ∀ (j : Nat) (y' : Str), j < i → ps[j]? = some y' → ∃ w, PlW y' w := by
  induction ps with
  | nil => exact absurd (fun y hy => by cases hy) h
  | cons z zs ih =>
    by_cases hz : ∃ w, PlW z w
    · have h' : ¬ ∀ y ∈ zs, ∃ w, PlW y w := fun w => h fun y hy => by
        rcases List.mem_cons.mp hy with rfl | hy
        · exact hz
        · exact w y hy
      obtain ⟨i, y, e1, e2, e3⟩ := ih h'
      refine ⟨i + 1, y, by simpa using e1, e2, fun j y' hj hy' => ?_⟩
      cases j with
      | zero => simp at hy'; subst hy'; exact hz
      | succ j => exact e3 j y' (by omega) (by simpa using hy')
    · exact ⟨0, z, rfl, fun w hw => hz ⟨w, hw⟩, fun j y' hj => absurd hj (Nat.not_lt_zero _)⟩
def InvL (P0 p : Addr) (ns : List Int) (ρ : DEnv) (M' : Mm) : Prop := ∃ (b : Bag) (r2 r3 r4 r5 r6 r7 r8 r9 r10 r11 r12 r13 r14 r15 r16 r17 r18 : Option D), Mk P0 p b M' ∧ ρ = [some (.scr ns), some (.cel p), r2, r3, r4, r5, r6, r7, r8, r9, r10, r11, r12, r13, r14, r15, r16, r17, r18, none]
theorem lcC_mapS {α : Type} {γ : DG} {ε : DE} {vs : List Nat} {ρ : DEnv} {M : Mm} {k : DK} {S : List α} {g : α → D} {a : Addr} (f : α → D) (hl : (S.map g).length < sizeLine) (hm : M a = some (.lst (S.map g)))
    (he : ∀ s ∈ S, ∀ K : DK, K (f s) M → γ (g s) (wipeD ρ vs) M fun ρ1 M2 => ε ρ1 M2 K (fun _ _ _ => False))
    (gm : ∀ d (K K' : DEnv → Mm → Prop), (∀ ρ M, K ρ M → K' ρ M) → γ d (wipeD ρ vs) M K → γ d (wipeD ρ vs) M K') (hk : k (.lst (S.map f)) M) : LcKC γ dYes ε vs ρ a (S.map g) M k := by
  refine .of hl (fun j acc M' => M' = M ∧ acc = (S.take j).map f) ⟨rfl, rfl⟩ (fun j acc M' h => by rw [h.1]; exact hm) (fun j d acc M' hd ⟨e1, e2⟩ => ?_) (fun acc M' ⟨e1, e2⟩ => ?_)
  · subst e1 e2
    obtain ⟨s, hs, rfl⟩ := map_get hd
    have hn : List.map f (List.take j S) ++ [f s] = List.map f (List.take (j + 1) S) := by
      rw [List.take_succ, hs]
      simp
    refine gm _ _ _ (fun ρ1 M2 hh => ?_) (he s (List.mem_of_getElem? hs) (fun y M4 => M4 = M' ∧ List.map f (List.take j S) ++ [y] = List.map f (List.take (j + 1) S)) ⟨rfl, hn⟩)
    unfold dYes
    dsimp only
    rw [if_pos rfl]
    exact hh
  · subst e1 e2
    rw [List.length_map, List.take_length]
    exact hk
theorem cutS_m1 (z : Str) : (cutS z none (some (-1))).length = z.length - 1 := by
  rw [cutS_len, HT.sIx_none]
  have e : HT.sIx z.length z.length (some (-1)) = z.length - 1 := by
    show (if (-1 : Int) < 0 then ((-1 : Int) + (z.length : Int)).toNat else min (-1 : Int).toNat z.length) = _
    rw [if_pos (by decide)]
    omega
  rw [e]
  omega
theorem cutD_lo {α : Type} (xs : List α) (i : Nat) : DL.cutD xs none (some (i : Int)) = xs.take i := by
  unfold DL.cutD
  rw [HT.sIx_none, HT.sIx_nat]
  simp only [List.drop_zero, Nat.sub_zero]
  by_cases h : i ≤ xs.length
  · rw [Nat.min_eq_left h]
  · rw [Nat.min_eq_right (by omega), List.take_length, List.take_of_length_le (by omega)]
theorem cutD_hi {α : Type} (xs : List α) (i : Nat) : DL.cutD xs (some ((i : Int) + 1)) none = xs.drop (i + 1) := by
  have e : (i : Int) + 1 = ((i + 1 : Nat) : Int) := by omega
  unfold DL.cutD
  rw [e, HT.sIx_none, HT.sIx_nat]
  by_cases h : i + 1 ≤ xs.length
  · rw [Nat.min_eq_left h, List.take_of_length_le (by rw [List.length_drop]; omega)]
  · rw [Nat.min_eq_right (by omega), List.drop_length, List.drop_of_length_le (by omega)]
    simp
theorem all_ws {cl : Nat → Addr} : ∀ ps : List Str, (∀ y ∈ ps, ∃ w, PlW y w) → ∃ ws : List Wp, ws.length = ps.length ∧ ps.map (plcF (plcD cl)) = ws.map (plcD cl) ∧ ps.map (plcF spoD) = ws.map spoD
  | [], _ => ⟨[], rfl, rfl, rfl⟩
  | y :: ps, h => by
    obtain ⟨w, hw⟩ := h y (by simp)
    obtain ⟨ws, e1, e2, e3⟩ := all_ws (cl := cl) ps fun z hz => h z (by simp [hz])
    exact ⟨w :: ws, by simp [e1], by rw [List.map_cons, List.map_cons, plW_yes hw, e2], by rw [List.map_cons, List.map_cons, plW_yes hw, e3]⟩
theorem pure_sp : ∀ ws : List Wp, pureDs 4 (ws.map spoD) = true
  | [] => by simp [pureDs]
  | w :: ws => by
    have ih := pure_sp ws
    rw [List.map_cons]
    simp only [pureDs, ih, Bool.and_true]
    rfl
theorem any_no {ps : List Str} (h : ∀ y ∈ ps, ∃ w, PlW y w) : ((ps.map fun y => spQ (plcF spoD y)).any fun z => PyData.eqv z .none) = false := by
  rw [List.any_map, List.any_eq_false]
  intro y hy
  show ¬ PyData.eqv (spQ (plcF spoD y)) .none = true
  rw [spQ_yes (h y hy)]
  exact Bool.false_ne_true
theorem any_yes {ps : List Str} {i : Nat} {y : Str} (h1 : ps[i]? = some y) (h : ∀ w, ¬ PlW y w) : ((ps.map fun y => spQ (plcF spoD y)).any fun z => PyData.eqv z .none) = true := by
  rw [List.any_map, List.any_eq_true]
  refine ⟨y, List.mem_of_getElem? h1, ?_⟩
  show PyData.eqv (spQ (plcF spoD y)) .none = true
  rw [spQ_no h]
  rfl
theorem Mk.ext {P0 p : Addr} {b : Bag} {M M' : Mm} (h : Mk P0 p b M) (e : Ext M M') : Mk P0 p b M' := ⟨h.ok, e _ _ h.bag, e _ _ h.tab⟩
theorem ok_law {K : PySem.W.Frag} {mg : Str → Option Value} {ad : Nat → Addr} {fd : Nat → FuncData} {cl : Nat → Addr} {P : Program} {w : World} {base : Heap} (T : Txt K mg ad fd cl) {CR : Addr} (X_InvalidRatio : RaiseF P w K mg base "InvalidRatio" CR 1 (XI.fl1 "InvalidRatio" "given")) (XM : PySem.W.exmOne K (.ref CR) (.ref CR) = some true) {CT : Addr} (X_InvalidText : RaiseF P w K mg base "InvalidText" CT 1 (XI.fl1 "InvalidText" "line")) {c0 P0 g0 : Addr} (TF : LineF P w K mg base (.ref CT) g0) (TB : LamX.TabB base mg c0 P0) (GL : GoodL K (.ref CT) CT) (LK : DefL K "law" "law" (defArgs st_law) (defBody st_law) (defScope st_law) (ad 48) c0 (fd 48)) : FnOk P w K mg base (L2.CX P w) 45 (ad 48) (fd 48) ["_law_script"] (spD K 1 (ph_law [P0])) := by
  have G__law_start := ok__law_start (P := P) (w := w) (base := base) T
  have G__law_pull := ok__law_pull (P := P) (w := w) (base := base) T
  have G__law_key := ok__law_key (P := P) (w := w) (base := base) T
  have G__law_frac := ok__law_frac (P := P) (w := w) (base := base) T
  have G__law_spot_text := ok__law_spot_text (P := P) (w := w) (base := base) T
  have G__law_made_place := ok__law_made_place (P := P) (w := w) (base := base) T
  have G_way_text := ok_way_text (P := P) (w := w) (base := base) T
  have G__law_joined_rows := ok__law_joined_rows (P := P) (w := w) (base := base) T
  have G__law_bent_text := ok__law_bent_text (P := P) (w := w) (base := base) T
  have G__law_pick := ok__law_pick (P := P) (w := w) (base := base) T
  have G__law_spot_in := ok__law_spot_in (P := P) (w := w) (base := base) T
  have G_read_way := ok_read_way (P := P) (w := w) (base := base) T X_InvalidRatio XM X_InvalidText
  have G__law_same := ok__law_same (P := P) (w := w) (base := base) T 5
  have G__law_of_places := ok__law_of_places (P := P) (w := w) (base := base) T
  refine fn_DL2 LK sc_law rfl fun A outer s H E hr hp ho => ⟨_, (b_cons (s_set (i := 1) sc_law.nd rfl (Or.inl rfl) (d_call G__law_start (hr.mono (by decide)) rfl T.m__law_start T.k__law_start T.kb__law_start_1 (by intro _ _ h _; exact h) hp (a_cons (dv 0) a_nil)))
  (b_cons (s_for ho rfl (i_range1 rfl T.b_range (a_cons d_int a_nil)) (g_name (i := 2) sc_law.nd rfl (Or.inl rfl))
  (b_cons (s_set (i := 3) sc_law.nd rfl (Or.inl rfl) (d_lstM a_nil))
  (b_cons (s_for ho rfl (i_range1 rfl T.b_range (a_cons (d_op o_add d_int (d_call G__law_pull (hr.mono (by decide)) rfl T.m__law_pull T.k__law_pull T.kb__law_pull_2 (by intro _ _ h _; exact h) hp (a_cons (dv 1) (a_cons d_int a_nil)))) a_nil)) (g_name (i := 4) sc_law.nd rfl (Or.inl rfl))
  (b_cons (s_par (i := 5) (j := 6) rfl sc_law.nd rfl rfl (by decide) rfl rfl (a_cons (d_tup (a_cons (d_op o_sub (d_call G__law_pull (hr.mono (by decide)) rfl T.m__law_pull T.k__law_pull T.kb__law_pull_2 (by intro _ _ h _; exact h) hp (a_cons (dv 1) (a_cons d_int a_nil))) d_int) (a_cons (d_call G__law_pull (hr.mono (by decide)) rfl T.m__law_pull T.k__law_pull T.kb__law_pull_2 (by intro _ _ h _; exact h) hp (a_cons (dv 1) (a_cons d_int a_nil))) a_nil))) (a_cons (d_tup (a_cons (d_call G__law_pull (hr.mono (by decide)) rfl T.m__law_pull T.k__law_pull T.kb__law_pull_2 (by intro _ _ h _; exact h) hp (a_cons (dv 1) (a_cons (d_op o_pow d_int d_int) a_nil))) (a_cons (d_op o_sub (d_un o_neg d_int) (d_call G__law_pull (hr.mono (by decide)) rfl T.m__law_pull T.k__law_pull T.kb__law_pull_2 (by intro _ _ h _; exact h) hp (a_cons (dv 1) (a_cons d_int a_nil)))) a_nil))) a_nil)) rfl)
  (b_cons (s_set (i := 7) sc_law.nd rfl (Or.inl rfl) (d_op o_add d_int (d_call G__law_pull (hr.mono (by decide)) rfl T.m__law_pull T.k__law_pull T.kb__law_pull_2 (by intro _ _ h _; exact h) hp (a_cons (dv 1) (a_cons d_int a_nil)))))
  (b_one (s_expr (d_bm PySem.F.plainAttrs_list PySem.F.slot_list_append PySem.F.type_list_append m_append (dv 3) (a_cons (d_tup (a_cons (d_call G__law_key (hr.mono (by decide)) rfl T.m__law_key T.k__law_key T.kb__law_key_2 (by intro _ _ h _; exact h) hp (a_cons (dv 5) (a_cons (dv 6) a_nil))) (a_cons (d_call G__law_frac (hr.mono (by decide)) rfl T.m__law_frac T.k__law_frac T.kb__law_frac_2 (by intro _ _ h _; exact h) hp (a_cons (d_op o_add d_int (d_call G__law_pull (hr.mono (by decide)) rfl T.m__law_pull T.k__law_pull T.kb__law_pull_2 (by intro _ _ h _; exact h) hp (a_cons (dv 1) (a_cons (d_op o_sub (dv 7) d_int) a_nil)))) (a_cons (dv 7) a_nil))) a_nil))) a_nil)))))))
  (b_cons (s_par (i := 8) (j := 9) rfl sc_law.nd rfl rfl (by decide) rfl rfl (a_cons (d_lcC (own := [("_law_spot", 10)]) rfl sc_law.nd (dv 3) (blkOk_by (own := [("_law_spot", 10)]) (N := ["_law_script", "_law_bag", "_law_turn_k", "_law_spots", "_law_k", "_law_a", "_law_b", "_law_c", "_law_rows", "_law_handed", "_law_spot", "_law_at", "_law_bend", "_law_text_z", "_law_parts", "_law_found", "_law_part", "_law_due", "_law_told", "_law_odd"]) (sc := (defScope st_law)) (by decide +kernel)) (gp_name (by decide)) (fun _ _ _ _ _ => (pg_name (i := 10) sc_law.nd rfl (Or.inl rfl))) (fun _ _ _ _ _ => ts_nil) (fun _ _ _ _ _ => (d_call G__law_spot_text (hr.mono (by decide)) rfl T.m__law_spot_text T.k__law_spot_text T.kb__law_spot_text_1 (by intro _ _ h _; exact h) passL (a_cons (dv 10) a_nil)))) (a_cons (d_lcC (own := [("_law_spot", 10)]) rfl sc_law.nd (dv 3) (blkOk_by (own := [("_law_spot", 10)]) (N := ["_law_script", "_law_bag", "_law_turn_k", "_law_spots", "_law_k", "_law_a", "_law_b", "_law_c", "_law_rows", "_law_handed", "_law_spot", "_law_at", "_law_bend", "_law_text_z", "_law_parts", "_law_found", "_law_part", "_law_due", "_law_told", "_law_odd"]) (sc := (defScope st_law)) (by decide +kernel)) (gp_name (by decide)) (fun _ _ _ _ _ => (pg_name (i := 10) sc_law.nd rfl (Or.inl rfl))) (fun _ _ _ _ _ => ts_nil) (fun _ _ _ _ _ => (d_call G__law_made_place (hr.mono (by decide)) rfl T.m__law_made_place T.k__law_made_place T.kb__law_made_place_1 (by intro _ _ h _; exact h) passL (a_cons (dv 10) a_nil)))) a_nil)) rfl)
  (b_cons (s_if (DPW.t (w_or (t_cmp (o_ne hr.units) (d_callK0 G_way_text (hr.mono (by decide)) rfl T.m_way_text T.k_way_text T.kb_way_text_0_places (fun ws h => match ws, h with | [_], _ => rfl) hp (k_cons (dv 9) k_nil)) (d_call G__law_joined_rows (hr.mono (by decide)) rfl T.m__law_joined_rows T.k__law_joined_rows T.kb__law_joined_rows_1 (by intro _ _ h _; exact h) hp (a_cons (dv 8) a_nil)) (nomark _)) (w_or1 (t_cmp (o_ne hr.units) (d_call G_way_text (hr.mono (by decide)) rfl T.m_way_text T.k_way_text T.kb_way_text_1 (by intro _ _ h _; exact h) hp (a_cons (d_callTy c_tuple rfl T.b_tuple boot_tuple' (a_cons (dv 9) a_nil)) a_nil)) (d_call G__law_joined_rows (hr.mono (by decide)) rfl T.m__law_joined_rows T.k__law_joined_rows T.kb__law_joined_rows_1 (by intro _ _ h _; exact h) hp (a_cons (dv 8) a_nil)) (nomark _))))) (b_one (s_ret d_bl)) b_nil)
  (b_cons (s_set (i := 11) sc_law.nd rfl (Or.inl rfl) (d_call G__law_pull (hr.mono (by decide)) rfl T.m__law_pull T.k__law_pull T.kb__law_pull_2 (by intro _ _ h _; exact h) hp (a_cons (dv 1) (a_cons (d_callB c_len rfl T.b_len boot_len' (a_cons (dv 8) a_nil)) a_nil))))
  (b_cons (s_for ho rfl (i_range1 rfl T.b_range (a_cons (d_call G__law_pull (hr.mono (by decide)) rfl T.m__law_pull T.k__law_pull T.kb__law_pull_2 (by intro _ _ h _; exact h) hp (a_cons (dv 1) (a_cons d_int a_nil))) a_nil)) (g_name (i := 12) sc_law.nd rfl (Or.inl rfl))
  (b_one (s_set (i := 8) sc_law.nd rfl (Or.inl rfl) (d_op o_add (d_op o_add (d_slice sl_D (dv 8) o_none (o_some (dv 11))) (d_lst (a_cons (d_call G__law_bent_text (hr.mono (by decide)) rfl T.m__law_bent_text T.k__law_bent_text T.kb__law_bent_text_2 (by intro _ _ h _; exact h) hp (a_cons (dv 1) (a_cons (d_ix x_ix (dv 8) (dv 11) (fun _ _ => rfl)) a_nil))) a_nil))) (d_slice sl_D (dv 8) (o_some (d_op o_add (dv 11) d_int)) o_none)))))
  (b_cut (s_set (i := 13) sc_law.nd rfl (Or.inr rfl) (d_call G__law_pick (hr.mono (by decide)) rfl T.m__law_pick T.k__law_pick T.kb__law_pick_2 (by intro _ _ h _; exact h) hp (a_cons (dv 1) (a_cons (d_lst (a_cons (d_call G__law_joined_rows (hr.mono (by decide)) rfl T.m__law_joined_rows T.k__law_joined_rows T.kb__law_joined_rows_1 (by intro _ _ h _; exact h) hp (a_cons (dv 8) a_nil)) (a_cons (d_call G__law_joined_rows (hr.mono (by decide)) rfl T.m__law_joined_rows T.k__law_joined_rows T.kb__law_joined_rows_1 (by intro _ _ h _; exact h) hp (a_cons (dv 8) a_nil)) (a_cons (d_slice sl_D (d_call G__law_joined_rows (hr.mono (by decide)) rfl T.m__law_joined_rows T.k__law_joined_rows T.kb__law_joined_rows_1 (by intro _ _ h _; exact h) hp (a_cons (dv 8) a_nil)) o_none (o_some (d_un o_neg d_int))) (a_cons (d_op o_add (d_call G__law_joined_rows (hr.mono (by decide)) rfl T.m__law_joined_rows T.k__law_joined_rows T.kb__law_joined_rows_1 (by intro _ _ h _; exact h) hp (a_cons (dv 8) a_nil)) d_str) a_nil))))) a_nil))))
  (b_cons (s_set (i := 14) sc_law.nd rfl (Or.inl rfl) (d_bm PySem.F.plainAttrs_str PySem.F.slot_str_split PySem.F.type_str_split m_split (dv 13) (a_cons d_str a_nil)))
  (b_cons (s_setLc (i := 15) (own := [("_law_part", 16)]) rfl sc_law.nd rfl rfl (sw_true rfl rfl rfl (by decide +kernel)) (i_seq (d_slice sl_D (dv 14) o_none (o_some (d_un o_neg d_int)))) (blkOk_by (own := [("_law_part", 16)]) (N := ["_law_script", "_law_bag", "_law_turn_k", "_law_spots", "_law_k", "_law_a", "_law_b", "_law_c", "_law_rows", "_law_handed", "_law_spot", "_law_at", "_law_bend", "_law_text_z", "_law_parts", "_law_found", "_law_part", "_law_due", "_law_told", "_law_odd"]) (sc := (defScope st_law)) (by decide +kernel)) (gp_name (by decide)) (fun _ _ _ _ _ => (pg_name (i := 16) sc_law.nd rfl (Or.inl rfl))) (fun _ _ _ _ _ => ts_nil) (fun _ _ _ _ _ => (d_call G__law_spot_in (hr.mono (by decide)) rfl T.m__law_spot_in T.k__law_spot_in T.kb__law_spot_in_1 (by intro _ _ h _; exact h) passL (a_cons (dv 16) a_nil))))
  (b_cons (s_set (i := 17) sc_law.nd rfl (Or.inl rfl) (d_if (t_cmp (o_notInD (units65 hr)) d_non (dv 15) rfl) (dv 15) (d_tup (a_cons d_str (a_cons (d_bm PySem.F.plainAttrs_list PySem.F.slot_list_index PySem.F.type_list_index (m_indexD (units65 hr)) (dv 15) (a_cons d_non a_nil)) a_nil)))))
  (b_cons (s_set (i := 17) sc_law.nd rfl (Or.inl rfl) (d_if (t_cmp (o_eq hr.units) (d_ix x_ix (dv 14) (d_un o_neg d_int) (fun _ _ => rfl)) d_str (nomark _)) (dv 17) (d_tup (a_cons d_str (a_cons (d_op o_sub (d_callB c_len rfl T.b_len boot_len' (a_cons (dv 14) a_nil)) d_int) a_nil)))))
  (b_cons (s_set (i := 18) sc_law.nd rfl (Or.inl rfl) (d_trylamL (k := 16) TF rfl TB rfl (hr.mono (by decide)) (LamX.lamS_by (by kernel_rfl)) rfl (fun _ _ _ _ _ => rfl) fun _ _ _ _ _ _ _ hr hp => (d_callK0 G_read_way (hr.mono (by decide)) rfl T.m_read_way T.k_read_way T.kb_read_way_0_text (fun ws h => match ws, h with | [_], _ => rfl) hp (k_cons (dv 13) k_nil))))
  (b_one (s_if (t_not (t_val (d_call G__law_same (hr.mono (by decide)) rfl T.m__law_same T.k__law_same T.kb__law_same_2 (by intro _ _ h _; exact h) hp (a_cons (d_if (t_cmp (o_eq hr.units) (d_ix x_ix (dv 18) d_int (fun _ _ => rfl)) d_str (nomark _)) (dv 18) (d_call G__law_of_places (hr.mono (by decide)) rfl T.m__law_of_places T.k__law_of_places T.kb__law_of_places_1 (by intro _ _ h _; exact h) hp (a_cons (d_ix x_ix (dv 18) d_int (fun _ _ => rfl)) a_nil))) (a_cons (dv 17) a_nil))))) (b_one (s_ret d_bl)) b_nil)))))))))))))))
  (b_cons (s_set (i := 19) sc_law.nd rfl (Or.inr rfl) (d_call G__law_pick (hr.mono (by decide)) rfl T.m__law_pick T.k__law_pick T.kb__law_pick_2 (by intro _ _ h _; exact h) hp (a_cons (dv 1) (a_cons (d_lst (a_cons d_str (a_cons d_non (a_cons d_int (a_cons (d_lst (a_cons d_str a_nil)) a_nil))))) a_nil))))
  (b_one (s_ret (d_and (d_call G__law_same (hr.mono (by decide)) rfl T.m__law_same T.k__law_same T.kb__law_same_2 (by intro _ _ h _; exact h) hp (a_cons (d_trylamL (k := 16) TF rfl TB rfl (hr.mono (by decide)) (LamX.lamS_by (by kernel_rfl)) rfl (fun _ _ _ _ _ => rfl) fun _ _ _ _ _ _ _ hr hp => (d_call G_read_way (hr.mono (by decide)) rfl T.m_read_way T.k_read_way T.kb_read_way_1 (by intro _ _ h _; exact h) hp (a_cons (dv 19) a_nil))) (a_cons (d_tup (a_cons d_str (a_cons d_int a_nil))) a_nil))) (d_one (d_cmp (o_eq hr.units) (d_call G_way_text (hr.mono (by decide)) rfl T.m_way_text T.k_way_text T.kb_way_text_1 (by intro _ _ h _; exact h) hp (a_cons (d_lst a_nil) a_nil)) d_str (nomark _))))))))), ?_⟩
  clear hp ho hr G__law_start G__law_pull G__law_key G__law_frac G__law_spot_text G__law_made_place G_way_text G__law_joined_rows G__law_bent_text G__law_pick G__law_spot_in G_read_way G__law_same G__law_of_places
  have G_read_way := ok_read_way (P := P) (w := w) (base := base) T X_InvalidRatio XM X_InvalidText
  rintro ds M k x hl ⟨P0', ns, e, rfl, hn, hM0, q⟩
  cases e
  refine ⟨_, rfl, rfl, ns, rfl, hn, fun p b hp hb => ?_⟩
  have big : 200000 ≤ sizeLine := by decide
  refine ⟨4, rfl, by decide, by decide, ?_⟩
  refine ForK.of (fun _ ρ M' => InvL P0 p ns ρ M') ?_ ?_ ?_
  · exact ⟨b, _, _, _, _, _, _, _, _, _, _, _, _, _, _, _, _, _, ⟨hb, mup_same, by rw [mup_ne (fun e => by rw [← e, hM0] at hp; cases hp)]; exact hM0⟩, rfl⟩
  · clear hM0 hp hb b
    rintro j d ρ M1 hd ⟨b, r2, r3, r4, r5, r6, r7, r8, r9, r10, r11, r12, r13, r14, r15, r16, r17, r18, mk, rfl⟩
    refine ⟨Nat.le_of_ble_eq_true rfl, fun r hr => ?_⟩
    have nrp : r ≠ p := fun e => by rw [e, mk.bag] at hr; cases hr
    have nrP : r ≠ P0 := fun e => by rw [e, mk.tab] at hr; cases hr
    have mk1 := mk.new (o := .lst []) hr
    refine ⟨_, rfl, rfl, pullG mk1 (by decide) (by decide) fun n b1 n0 n1 mk2 => ⟨1 + n, rfl, by omega, by omega, ?_⟩⟩
    refine ForK.of (fun j ρ M' => ∃ (b : Bag) (ws : List Wp) (r4 r5 r6 r7 : Option D), Mk P0 p b M' ∧ M' r = some (.lst (ws.map spoD)) ∧ (∀ w ∈ ws, WG w) ∧ ws.length = j ∧ ρ = [some (.scr ns), some (.cel p), some d, some (.cel r), r4, r5, r6, r7, r8, r9, r10, r11, r12, r13, r14, r15, r16, r17, r18, none]) ?_ ?_ ?_
    · exact ⟨b1, [], _, _, _, _, mk2, by rw [mup_ne nrp]; exact mup_same, by simp, rfl, rfl⟩
    · clear mk mk1 mk2 hr
      rintro i e ρ M2 he ⟨b, ws, r4, r5, r6, r7, mk, hr, hw, hl, rfl⟩
      have hi : i < 4 := by
        have := (List.getElem?_eq_some_iff.mp he).1
        rw [upto_length] at this
        omega
      refine ⟨_, rfl, rfl, pullG mk (by decide) (by decide) fun x1 b1 x10 x11 mk1 => ?_⟩
      refine ⟨_, rfl, rfl, pullG mk1 (by decide) (by decide) fun y1 b2 y10 y11 mk2 => ⟨Nat.le_of_ble_eq_true rfl, _, rfl, cp 6 (by decide) (by decide), rfl, ?_⟩⟩
      refine pullG mk2 (by decide +kernel) (by decide +kernel) fun x2 b3 x20 x21 mk3 => ?_
      rw [e6] at x21
      refine ⟨_, rfl, rfl, pullG mk3 (by decide) (by decide) fun y2 b4 y20 y21 mk4 => ⟨Nat.le_of_ble_eq_true rfl, _, _, rfl, ?_⟩⟩
      refine ⟨_, rfl, rfl, pullG mk4 (by decide) (by decide) fun c b5 c0 c1 mk5 => ?_⟩
      have hr5 : (mup (mup (mup (mup (mup M2 p b1.mo) p b2.mo) p b3.mo) p b4.mo) p b5.mo) r = some (.lst (ws.map spoD)) := by rw [mup_ne nrp, mup_ne nrp, mup_ne nrp, mup_ne nrp, mup_ne nrp]; exact hr
      generalize mup (mup (mup (mup (mup M2 p b1.mo) p b2.mo) p b3.mo) p b4.mo) p b5.mo = M5 at *
      clear mk mk1 mk2 mk3 mk4 hr
      refine ⟨_, rfl, ⟨rfl, _, hr5⟩, _, rfl, _, rfl, rfl, (x1 - 50, y1), (x2, -1 - y2), rfl, ?_⟩
      obtain ⟨u, v, eu, bu, bv⟩ : ∃ u v, (if TX.PLt (x1 - 50, y1) (x2, -1 - y2) then sideD (x1 - 50, y1) (x2, -1 - y2) else sideD (x2, -1 - y2) (x1 - 50, y1)) = sideD u v ∧ TX.PB u ∧ TX.PB v := by
        have q1 : TX.PB (x1 - 50, y1) := ⟨⟨by show -1000000 ≤ x1 - 50; omega, by show x1 - 50 ≤ 1000000; omega⟩, by show -1000000 ≤ y1; omega, by show y1 ≤ 1000000; omega⟩
        have q2 : TX.PB (x2, -1 - y2) := ⟨⟨by show -1000000 ≤ x2; omega, by show x2 ≤ 1000000; omega⟩, by show -1000000 ≤ -1 - y2; omega, by show -1 - y2 ≤ 1000000; omega⟩
        by_cases h : TX.PLt (x1 - 50, y1) (x2, -1 - y2)
        · exact ⟨_, _, if_pos h, q1, q2⟩
        · exact ⟨_, _, if_neg h, q2, q1⟩
      rw [eu]
      clear eu
      refine ⟨_, rfl, _, rfl, rfl, pullG mk5 (by omega) (lg_le (by omega) (by omega)) fun a b6 a0 a1 mk6 => ?_⟩
      have hB : (2 + c : Int) ≠ 0 := by omega
      have nf := RT.nrm_nf (a := 1 + a) hB
      have hv := RT.nrm_val (a := 1 + a) hB
      obtain ⟨z1, z2⟩ := RT.nrm_sz (a := 1 + a) hB
      obtain ⟨f0, f1⟩ := frac_in (A := 1 + a) (B := 2 + c) (by omega) (by omega) nf.pos hv
      have hr6 : (mup M5 p b6.mo) r = some (.lst (ws.map spoD)) := by rw [mup_ne nrp]; exact hr5
      refine ⟨_, rfl, rfl, 1 + a, 2 + c, rfl, hB, (sm_le (by omega) (by omega)).lg, Nat.le_of_ble_eq_true rfl, _, hr6, by rw [List.length_map]; omega, ?_⟩
      refine ⟨b6, ws ++ [(u, v, (RT.nrm (1 + a) (2 + c)).1, (RT.nrm (1 + a) (2 + c)).2)], _, _, _, _, mk6.set (ds := []) nrp nrP, by rw [mup_same, List.map_append]; rfl, ?_, by simp [hl], rfl⟩
      intro w hw'
      rcases List.mem_append.mp hw' with hw' | hw'
      · exact hw w hw'
      · simp only [List.mem_cons, List.not_mem_nil, or_false] at hw'
        subst hw'
        exact ⟨bu, bv, nf, f0, f1, by show (RT.nrm (1 + a) (2 + c)).2 ≤ 101; omega⟩
    · clear mk mk1 mk2 hr
      rintro ρ M2 ⟨b, ws, r4, r5, r6, r7, mk, hr, hw, hl, rfl⟩
      rw [upto_length] at hl
      have lw : ws.length ≤ 4 := by omega
      have lw1 : 1 ≤ ws.length := by omega
      refine ⟨_, rfl, r, _, rfl, hr, lcC_mapS (S := ws) (g := spoD) (fun w => .str (TX.mkS (plcL w))) (by rw [List.length_map]; omega) hr (fun w hw' K hK => ⟨_, rfl, rfl, w.1, w.2.1, w.2.2.1, w.2.2.2, rfl, (hw w hw').p, (hw w hw').q, (hw w hw').sz.1, (hw w hw').sz.2, hK⟩) (fun d K K' => gN_mono K K') ?_⟩
      refine ⟨_, rfl, r, _, rfl, hr, lcC_mapS (S := ws) (g := spoD) (plcD cl) (by rw [List.length_map]; omega) hr (fun w hw' K hK => ⟨_, rfl, rfl, w.1, w.2.1, w.2.2.1, w.2.2.2, rfl, (hw w hw').nf, TX.log_ten (hw w hw').sz.2, hK⟩) (fun d K K' => gN_mono K K') ⟨_, _, rfl, ?_⟩⟩
      have oks : ∀ w ∈ ws, WOk w := fun w hw' => (hw w hw').ok
      have em : ws.map (fun w => D.str (TX.mkS (plcL w))) = (ws.map fun w => TX.mkS (plcL w)).map D.str := by rw [List.map_map]; rfl
      have rl : ∀ z ∈ ws.map (fun w => TX.mkS (plcL w)), z.length ≤ 126 ∧ 9 ≤ z.length := fun z hz => by
        obtain ⟨w, hw', rfl⟩ := List.mem_map.mp hz
        rw [TX.mk_len]
        exact ⟨plcL_len (oks w hw'), plcL_ge w⟩
      have ej : TX.mkS (wayL (ws.map plcL)) = TX.mkS (wayL ((ws.map fun w => TX.mkS (plcL w)).map TL.tl)) := by rw [List.map_map]; rfl
      refine ⟨_, rfl, rfl, rfl, _, ws, rfl, .inl rfl, oks, by omega, ?_⟩
      refine ⟨_, rfl, rfl, _, by rw [em], by rw [List.length_map]; omega, fun z hz => by have := rl z hz; omega, .of (eqD_str _ _) ⟨_, rfl, ?_⟩⟩
      rw [decide_eq_true ej]
      refine iteF ?_
      refine ⟨_, rfl, rfl, _, ws, rfl, .inr rfl, oks, by omega, ?_⟩
      refine ⟨_, rfl, rfl, _, by rw [em], by rw [List.length_map]; omega, fun z hz => by have := rl z hz; omega, .of (eqD_str _ _) ⟨_, rfl, ?_⟩⟩
      rw [decide_eq_true ej]
      refine iteF ?_
      rw [em]
      have lz : (ws.map fun w => TX.mkS (plcL w)).length = ws.length := List.length_map ..
      clear em ej oks
      generalize (ws.map fun w => TX.mkS (plcL w)) = zs at *
      have lm : (zs.map D.str).length = ws.length := by rw [List.length_map, lz]
      refine ⟨_, rfl, _, rfl, rfl, pullG mk (by rw [lm]; omega) (by rw [lm]; exact log2_small (by omega) (by omega)) fun at_ b1 a0 a1 mk1 => ?_⟩
      rw [lm] at a1
      obtain ⟨i, rfl⟩ := Int.eq_ofNat_of_zero_le a0
      refine ⟨_, rfl, rfl, pullG mk1 (by decide) (by decide) fun n b2 n0 n1 mk2 => ⟨n, rfl, by omega, by omega, ?_⟩⟩
      refine ForK.of (fun j ρ M' => ∃ (b : Bag) (ys : List Str) (r10 r12 : Option D), Mk P0 p b M' ∧ ys.length = ws.length ∧ (∀ z ∈ ys, Row z j) ∧ ρ = [some (.scr ns), some (.cel p), some d, some (.cel r), r4, r5, r6, r7, some (.lst (ys.map .str)), some (.lst (ws.map (plcD cl))), r10, some (.int (i : Nat)), r12, r13, r14, r15, r16, r17, r18, none]) ?_ ?_ ?_
      · exact ⟨b2, zs, _, _, mk2, lz, fun z hz => ⟨by have := rl z hz; omega, by have := rl z hz; omega⟩, rfl⟩
      · clear mk mk1 mk2 hr
        rintro j e ρ M3 he ⟨b, ys, r10, r12, mk, ly, hy, rfl⟩
        have hj : j < 3 := by
          have := (List.getElem?_eq_some_iff.mp he).1
          rw [upto_length] at this
          omega
        have hi : i < ys.length := by omega
        obtain ⟨y, hyi⟩ : ∃ y, ys[i]? = some y := ⟨ys[i], List.getElem?_eq_getElem hi⟩
        have hym := hy y (List.mem_of_getElem? hyi)
        have l0 : y.length ≤ 126 + j := hym.1
        refine ⟨_, rfl, _, rfl, _, rfl, _, rfl, _, rfl, _, rfl, .str y, atI_nat (by rw [List.getElem?_map, hyi]; rfl), rfl, p, b, y, rfl, mk.bag, mk.ok, by omega, fun z' b' h1 h2 ok' => ⟨Nat.le_of_ble_eq_true rfl, ?_⟩⟩
        rw [cutD_lo, ← List.map_take]
        refine ⟨by rw [List.length_map, List.length_take]; simp; omega, _, rfl, _, rfl, _, rfl, ?_⟩
        have e2 : DL.cutD (ys.map D.str) (some ((i : Int) + 1)) none = (ys.drop (i + 1)).map D.str := by rw [cutD_hi, ← List.map_drop]
        refine ⟨?_, ?_⟩
        · show (List.map D.str (List.take i ys) ++ [D.str z']).length + (DL.cutD (ys.map D.str) (some ((i : Int) + 1)) none).length ≤ sizeLine
          rw [e2, List.length_append, List.length_map, List.length_map, List.length_take, List.length_drop, List.length_cons, List.length_nil]
          omega
        have e3 : List.map D.str (List.take i ys) ++ [D.str z'] ++ DL.cutD (ys.map D.str) (some ((i : Int) + 1)) none = (ys.take i ++ [z'] ++ ys.drop (i + 1)).map D.str := by rw [e2, List.map_append, List.map_append]; rfl
        refine ⟨b', ys.take i ++ [z'] ++ ys.drop (i + 1), _, _, mk.put ok', by rw [List.length_append, List.length_append, List.length_take, List.length_drop, List.length_cons, List.length_nil]; omega, ?_, by rw [← e3]; rfl⟩
        intro w hw'
        rcases List.mem_append.mp hw' with hw' | hw'
        · rcases List.mem_append.mp hw' with hw' | hw'
          · have := hy w (List.mem_of_mem_take hw')
            exact ⟨by have := this.1; omega, by have := this.2; omega⟩
          · simp only [List.mem_cons, List.not_mem_nil, or_false] at hw'
            subst hw'
            exact ⟨by have := hym.1; omega, by have := hym.2; omega⟩
        · have := hy w (List.mem_of_mem_drop hw')
          exact ⟨by have := this.1; omega, by have := this.2; omega⟩
      · clear mk mk1 mk2 hr
        rintro ρ M3 ⟨b, ys, r10, r12, mk, ly, hy, rfl⟩
        rw [upto_length] at hy
        have hy2 : ∀ z ∈ ys, z.length ≤ 130 := fun z hz => by have := (hy z hz).1; omega
        have hy3 : ∀ z ∈ ys, z.length ≤ 1000 := fun z hz => by have := hy2 z hz; omega
        have wl := way_len ys hy2
        have wg : 8 ≤ (wayL (ys.map TL.tl)).length := by
          match ys, ly, hy with
          | [], ly, _ => simp at ly; omega
          | y :: r, _, hy =>
            have h1 := (hy y (by simp)).2
            have h2 := way_ge (z := y) (zs := r)
            omega
        rw [← TX.mk_len] at wl wg
        have y1 : ys.length ≤ 100 := by omega
        have wl2 : (TX.mkS (wayL (ys.map TL.tl))).length ≤ 600 := by
          have : ys.length * 131 ≤ 4 * 131 := Nat.mul_le_mul_right _ (by omega)
          omega
        have l1 : (Str.ofString "\n").length = 1 := by decide +kernel
        refine ⟨fun ρ M' => ∃ (b : Bag) (z : Str) (r2 r3 r4 r5 r6 r7 r8 r9 r10 r11 r12 r14 r15 r16 r17 r18 : Option D), Mk P0 p b M' ∧ 0 < z.length ∧ z.length ≤ 1000 ∧ ρ = [some (.scr ns), some (.cel p), r2, r3, r4, r5, r6, r7, r8, r9, r10, r11, r12, some (.str z), r14, r15, r16, r17, r18, none], ?_, ?_⟩
        · refine ⟨_, rfl, _, rfl, rfl, ys, rfl, y1, hy3, _, rfl, rfl, ys, rfl, y1, hy3, _, rfl, rfl, ys, rfl, y1, hy3, _, rfl, by omega, _, rfl, rfl, ys, rfl, y1, hy3, by omega, Nat.le_of_ble_eq_true rfl, rfl, ?_⟩
          refine pickG mk (Nat.le_of_ble_eq_true rfl) (Nat.le_of_ble_eq_true rfl) fun e he b1 mk1 => ?_
          have m1 := cutS_m1 (TX.mkS (wayL (ys.map TL.tl)))
          obtain ⟨z, rfl, z0, z1⟩ : ∃ z : Str, e = .str z ∧ 0 < z.length ∧ z.length ≤ 1000 := by
            simp only [List.mem_cons, List.not_mem_nil, or_false] at he
            rcases he with rfl | rfl | rfl | rfl
            · exact ⟨_, rfl, by omega, by omega⟩
            · exact ⟨_, rfl, by omega, by omega⟩
            · exact ⟨_, rfl, by rw [m1]; omega, by rw [m1]; omega⟩
            · exact ⟨_, rfl, by rw [Str.length_append]; omega, by rw [Str.length_append]; omega⟩
          exact ⟨b1, z, _, _, _, _, _, _, _, _, _, _, _, _, _, _, _, _, mk1, z0, z1, rfl⟩
        · clear mk hy hy2 hy3 wl wg wl2 y1 ly hw hl lw lw1 rl lz lm
          rintro ρ M4 ⟨b, z, r2, r3, r4, r5, r6, r7, r8, r9, r10, r11, r12, r14, r15, r16, r17, r18, mk, z0, z1, rfl⟩
          have hne : z ≠ Str.ofString "" := fun w => by
            rw [w, show (Str.ofString "").length = 0 by decide +kernel] at z0
            omega
          refine ⟨_, rfl, rfl, z, Str.ofString "\n", rfl, rfl, by decide +kernel, by omega, ?_⟩
          obtain ⟨ps, l, hs⟩ := TX.last_of _ (TX.split_neC TX.tl_nl (by decide +kernel) z)
          have hcnt := TX.split_countC TX.tl_nl (by decide +kernel) z
          have hlen := TX.split_lenC TX.tl_nl (by decide +kernel) z
          rw [hs] at hcnt hlen
          rw [List.length_append, List.length_cons, List.length_nil] at hcnt
          rw [hs, List.map_append]
          have ec : DL.cutD (ps.map D.str ++ [l].map D.str) none (some (-1)) = ps.map D.str := TX.cutD_init _ _
          refine ⟨_, rfl, _, rfl, ?_⟩
          show LcK _ _ _ _ _ (DL.cutD (ps.map D.str ++ [l].map D.str) none (some (-1))) _ _
          rw [ec]
          refine lc_mapS (S := ps) (g := D.str) (plcF spoD) (by rw [List.length_map]; omega) (fun y hy K hK => ?_) (fun d K K' => gN_mono K K') ?_
          · have := hlen y (List.mem_append_left _ hy)
            refine ⟨_, rfl, rfl, y, rfl, by omega, fun p1 q1 a1 b1 w => ?_, fun w => ?_⟩
            · rw [plW_yes (show PlW y (p1, q1, a1, b1) from w)] at hK
              exact hK
            · rw [plW_no (show ∀ w', ¬ PlW y w' from fun w' h => w _ _ _ _ h)] at hK
              exact hK
          obtain ⟨pP, pS⟩ := found_P ps
          have elen : (((ps.map D.str ++ [l].map D.str).length : Nat) : Int) - 1 = ps.length := by simp
          by_cases hall : ∀ y ∈ ps, ∃ w, PlW y w
          · refine ⟨_, rfl, _, _, rfl, pP, rfl, pS, _, rfl, ?_⟩
            rw [any_no hall]
            refine iteT ⟨_, rfl, ?_⟩
            refine ⟨_, rfl, .str l, TX.atI_last _ _, .of (eqD_str _ _) ⟨_, rfl, ?_⟩⟩
            by_cases e : l = Str.ofString ""
            · rw [decide_eq_true e]
              refine iteT ⟨_, rfl, ?_⟩
              obtain ⟨wl, w1, w2, w3⟩ := all_ws (cl := cl) ps hall
              refine ⟨mk.tab, _, rfl, rfl, rfl, .str z, rfl, .inl ⟨z, ps, l, rfl, by omega, hne, hs, fun h => absurd e h, fun _ => ⟨fun i y h1 h2 _ => ?_, fun _ => ?_⟩⟩⟩
              · obtain ⟨w, hw⟩ := hall y (List.mem_of_getElem? h1)
                exact absurd hw (h2 w)
              · refine ⟨_, rfl, _, rfl, .of (eqD_str _ _) ⟨_, rfl, iteF ⟨_, rfl, _, rfl, rfl, wl, by rw [w2], by omega, ?_⟩⟩⟩
                refine ⟨_, rfl, rfl, sameK (by rw [w3]) (by simp only [pureD, pure_sp wl, Bool.true_and, decide_eq_true_eq, List.length_map]; omega) ⟨_, rfl, iteF ?_⟩⟩
                exact ⟨b, _, _, _, _, _, _, _, _, _, _, _, _, _, _, _, _, _, mk, rfl⟩
            · rw [decide_eq_false e]
              refine iteF ⟨_, rfl, Nat.le_of_ble_eq_true rfl, ?_⟩
              refine ⟨mk.tab, _, rfl, rfl, rfl, .str z, rfl, .inl ⟨z, ps, l, rfl, by omega, hne, hs, fun _ M' hx => ⟨GL, .int ps.length, rfl, ?_⟩, fun h => absurd h e⟩⟩
              refine ⟨_, rfl, _, rfl, .of (eqD_str _ _) ⟨_, rfl, iteT ⟨_, rfl, _, rfl, rfl, sameK (by rw [← elen]) rfl ⟨_, rfl, iteF ?_⟩⟩⟩⟩
              exact ⟨b, _, _, _, _, _, _, _, _, _, _, _, _, _, _, _, _, _, mk.ext hx, rfl⟩
          · obtain ⟨i, y, h1, h2, h3⟩ := first_bad ps hall
            refine ⟨_, rfl, _, _, rfl, pP, rfl, pS, _, rfl, ?_⟩
            rw [any_yes h1 h2]
            refine iteF ⟨_, rfl, rfl, .non, .none, _, i, .none, rfl, pP, rfl, pS, rfl, by rw [List.getElem?_map, h1]; show some (spQ (plcF spoD y)) = _; rw [spQ_no h2], rfl, fun m z' hm hz' => ?_, Nat.le_of_ble_eq_true rfl, ?_⟩
            · rw [List.getElem?_map] at hz'
              cases e : ps[m]? with
              | none => rw [e] at hz'; cases hz'
              | some y' =>
                rw [e] at hz'
                cases hz'
                exact spQ_yes (h3 m y' hm e)
            refine ⟨_, rfl, .str l, TX.atI_last _ _, .of (eqD_str _ _) ⟨_, rfl, ?_⟩⟩
            by_cases e : l = Str.ofString ""
            · rw [decide_eq_true e]
              refine iteT ⟨_, rfl, ?_⟩
              refine ⟨mk.tab, _, rfl, rfl, rfl, .str z, rfl, .inl ⟨z, ps, l, rfl, by omega, hne, hs, fun h => absurd e h, fun _ => ⟨fun i' y' g1 g2 g3 M' hx => ⟨GL, .int i', rfl, ?_⟩, fun h => absurd h hall⟩⟩⟩
              obtain rfl : i = i' := by
                rcases Nat.lt_trichotomy i i' with h | h | h
                · obtain ⟨w, hw⟩ := g3 i y h h1
                  exact absurd hw (h2 w)
                · exact h
                · obtain ⟨w, hw⟩ := h3 i' y' h g1
                  exact absurd hw (g2 w)
              refine ⟨_, rfl, _, rfl, .of (eqD_str _ _) ⟨_, rfl, iteT ⟨_, rfl, _, rfl, rfl, sameK rfl rfl ⟨_, rfl, iteF ?_⟩⟩⟩⟩
              exact ⟨b, _, _, _, _, _, _, _, _, _, _, _, _, _, _, _, _, _, mk.ext hx, rfl⟩
            · rw [decide_eq_false e]
              refine iteF ⟨_, rfl, Nat.le_of_ble_eq_true rfl, ?_⟩
              refine ⟨mk.tab, _, rfl, rfl, rfl, .str z, rfl, .inl ⟨z, ps, l, rfl, by omega, hne, hs, fun _ M' hx => ⟨GL, .int ps.length, rfl, ?_⟩, fun h => absurd h e⟩⟩
              refine ⟨_, rfl, _, rfl, .of (eqD_str _ _) ⟨_, rfl, iteT ⟨_, rfl, _, rfl, rfl, sameK (by rw [← elen]) rfl ⟨_, rfl, iteF ?_⟩⟩⟩⟩
              exact ⟨b, _, _, _, _, _, _, _, _, _, _, _, _, _, _, _, _, _, mk.ext hx, rfl⟩
  · rintro ρ M' ⟨b, r2, r3, r4, r5, r6, r7, r8, r9, r10, r11, r12, r13, r14, r15, r16, r17, r18, mk, rfl⟩
    refine ⟨_, rfl, Nat.le_of_ble_eq_true rfl, Nat.le_of_ble_eq_true rfl, rfl, pickG mk (Nat.le_of_ble_eq_true rfl) (Nat.le_of_ble_eq_true rfl) fun d hd b4 mk4 => ?_⟩
    have hbad : d = .str (Str.ofString "") ∨ ∃ ku, kd d = some ku ∧ ku ≠ .str := by
      simp only [List.mem_cons, List.not_mem_nil, or_false] at hd
      rcases hd with rfl | rfl | rfl | rfl
      · exact .inl rfl
      · exact .inr ⟨_, rfl, by decide⟩
      · exact .inr ⟨_, rfl, by decide⟩
      · exact .inr ⟨_, rfl, by decide⟩
    refine ⟨mk4.tab, _, rfl, rfl, d, rfl, .inr ⟨hbad, fun M' hx => ⟨GL, .int 0, rfl, ?_⟩⟩⟩
    refine ⟨Nat.le_of_ble_eq_true rfl, rfl, sameK rfl rfl ⟨_, rfl, iteT ?_⟩⟩
    refine ⟨Nat.le_of_ble_eq_true rfl, rfl, .lst [], [], rfl, .inl rfl, (fun w hw => by cases hw), by decide, .of (eqD_str _ _) ?_⟩
    rw [decide_eq_true (show TX.mkS (wayL (List.map plcL [])) = Str.ofString "" by decide +kernel)]
    exact q _


end W58
set_option Elab.async false
set_option linter.all false
set_option maxRecDepth 100000
set_option maxHeartbeats 4000000
set_option pp.deepTerms false
set_option pp.deepTerms.threshold 12
set_option pp.maxSteps 4000
namespace W58
open PySem PySem.Spec PyProof.Rows L2 DL
local macro_rules | `(tactic| walk_at "sc") => `(tactic| first | assumption | rfl | exact Nat.le_of_ble_eq_true rfl | decide | omega | exact mul_small (by omega) (by omega) | exact mul_smallR (by omega) (by omega) | exact ⟨by decide, by decide, by decide⟩ | exact ⟨by omega, by assumption⟩ | exact ⟨by decide, log2_small (by decide) (by decide)⟩)
local macro_rules | `(tactic| walk_at "go1") => `(tactic| first | refine ⟨_, rfl, ?_⟩ | refine ⟨rfl, ?_⟩ | refine ⟨_, by assumption, ?_⟩ | refine ⟨_, mup_same, ?_⟩ | refine eqI ?_ | refine neI ?_ | refine iteT ?_ | refine iteF ?_ | refine ⟨(by walk_at "sc"), ?_⟩)
local macro_rules | `(tactic| walk_at "go") => `(tactic| repeat walk_at "go1")
theorem raise_InvalidRatio {P : Program} {w : World} {K : PySem.W.Frag} {mg : Str → Option Value} {base : Heap} {CR fX cdX ccX : Addr} {ocX kVX dcX pmX ctX eX clX : Value} {odX anX deX cldX : Option Addr} {slX sX cslX : Array (Option Value)} {vsX : Array Value} {fileX : Str} {tfX : Tok}
    (m : mg "InvalidRatio" = some (.ref CR)) (T : OexC K CR) (iX : PySem.W.findIn K (.ref CR) "__init__" = some (some (.ref fX))) (tiX : PySem.W.typeIn K (.ref fX) = some (.type "function"))
    (lfX : K.lookup fX = some ⟨ocX, odX, .func (PySem.W.ksFn "__init__" "InvalidRatio.__init__" (defArgs st_InvalidRatio___init__) (defBody st_InvalidRatio___init__) (defScope st_InvalidRatio___init__) .none kVX dcX pmX anX (.ref cdX) ctX ccX), slX⟩)
    (lcX : K.lookup cdX = some ⟨eX, deX, .fields vsX, sX⟩) (h2X : vsX[2]? = some (.str fileX tfX)) (hfX : ((P.main.file : Str) == fileX) = true) (lccX : K.lookup ccX = some ⟨clX, cldX, .cell (some (.ref CR)), cslX⟩) (cX : PySem.W.codeIn K (.ref cdX) "InvalidRatio.__init__" = true)
    (tpX : (P.main.scope.names.lookup ("super" : Str)).isSome = false) (XC : XI.XCls K mg CR CR) (n1 : PySem.W.findIn K (.ref CR) "given" = some none) (nc : PySem.W.findIn K (.ref CR) "code" = some none) : RaiseF P w K mg base "InvalidRatio" CR 1 (XI.fl1 "InvalidRatio" "given") := by
  refine ⟨m, T, fX, _, ["self", "given"], iX, tiX, ?_, XI.fn_exc1 (k := 0) ⟨⟨_, _, _, _, _, _, _, _, _, _, _, _, _, _, _, _, _, _, rfl, lfX, lcX, h2X, hfX, lccX⟩, cX, tpX⟩ ss_InvalidRatio XC n1 nc (by decide) (by decide) (fun _ => rfl) (fun _ => rfl) (fun _ => rfl) ⟩
  intro s us _ hl
  match us, hl with
  | [a0, a1], _ => exact .of_eq rfl

theorem raise_InvalidText {P : Program} {w : World} {K : PySem.W.Frag} {mg : Str → Option Value} {base : Heap} {CR fX cdX ccX : Addr} {ocX kVX dcX pmX ctX eX clX : Value} {odX anX deX cldX : Option Addr} {slX sX cslX : Array (Option Value)} {vsX : Array Value} {fileX : Str} {tfX : Tok}
    (m : mg "InvalidText" = some (.ref CR)) (T : OexC K CR) (iX : PySem.W.findIn K (.ref CR) "__init__" = some (some (.ref fX))) (tiX : PySem.W.typeIn K (.ref fX) = some (.type "function"))
    (lfX : K.lookup fX = some ⟨ocX, odX, .func (PySem.W.ksFn "__init__" "InvalidText.__init__" (defArgs st_InvalidText___init__) (defBody st_InvalidText___init__) (defScope st_InvalidText___init__) .none kVX dcX pmX anX (.ref cdX) ctX ccX), slX⟩)
    (lcX : K.lookup cdX = some ⟨eX, deX, .fields vsX, sX⟩) (h2X : vsX[2]? = some (.str fileX tfX)) (hfX : ((P.main.file : Str) == fileX) = true) (lccX : K.lookup ccX = some ⟨clX, cldX, .cell (some (.ref CR)), cslX⟩) (cX : PySem.W.codeIn K (.ref cdX) "InvalidText.__init__" = true)
    (tpX : (P.main.scope.names.lookup ("super" : Str)).isSome = false) (XC : XI.XCls K mg CR CR) (n1 : PySem.W.findIn K (.ref CR) "line" = some none) (nc : PySem.W.findIn K (.ref CR) "code" = some none) : RaiseF P w K mg base "InvalidText" CR 1 (XI.fl1 "InvalidText" "line") := by
  refine ⟨m, T, fX, _, ["self", "line"], iX, tiX, ?_, XI.fn_exc1 (k := 0) ⟨⟨_, _, _, _, _, _, _, _, _, _, _, _, _, _, _, _, _, _, rfl, lfX, lcX, h2X, hfX, lccX⟩, cX, tpX⟩ ss_InvalidText XC n1 nc (by decide) (by decide) (fun _ => rfl) (fun _ => rfl) (fun _ => rfl) ⟩
  intro s us _ hl
  match us, hl with
  | [a0, a1], _ => exact .of_eq rfl
theorem line_mk {K : PySem.W.Frag} {mg : Str → Option Value} {P : Program} {w : World} {base : Heap} {fT : Addr} {G1 : Value} {ocT kVT dcT pmT cdT ctT : Value} {odT anT : Option Addr} {slT : Array (Option Value)}
    (m : mg "_law_line_try" = some (.ref fT)) (g1 : mg "InvalidText" = some G1) (kT : PySem.W.keepIn K (.ref fT) = true)
    (lT : K.lookup fT = some ⟨ocT, odT, .func (PySem.W.fnOf "_law_line_try" "_law_line_try" (defArgs st__law_line_try) (defBody st__law_line_try) (defScope st__law_line_try) .none kVT dcT pmT anT cdT ctT), slT⟩) (cT : PySem.W.codeIn K cdT "_law_line_try" = true) : LineF P w K mg base G1 fT := by
  refine ⟨m, kT, ⟨_, _, _, _, _, _, _, _, _, _, _, _, _, _, _, _, _, _, _, _, _, _, _, _, _, _, _, _, _, lT, cT, ?_, sc__law_line_try, rfl, rfl, rfl⟩, g1⟩
  intro s us _ hl
  match us, hl with
  | [a], _ => exact .of_eq rfl

end W58
set_option Elab.async false
set_option linter.all false
set_option maxRecDepth 100000
set_option maxHeartbeats 4000000
set_option pp.deepTerms false
set_option pp.deepTerms.threshold 12
set_option pp.maxSteps 4000
namespace W58
open PySem PySem.Spec PyProof.Rows L2 DL
theorem all_mk {l : PySem.W.OpenLaw} {w : World} {K : PySem.W.Frag} {h : Heap} {mg : Str → Option Value} {fa f0 f1 f2 f3 f4 f5 f6 f7 f8 f9 f10 f11 f12 f13 f14 f15 f16 f17 f18 f19 f20 f21 f22 f23 f24 f25 f26 f27 f28 f29 f30 f31 f32 f33 f34 f35 f36 f37 f38 f39 f40 f41 f42 f43 f44 f45 f46 f47 f48 C0 : Addr} (X : K.In h) (G : h.Ns mainGlobals mg) (hfa : mg "law" = some (.ref fa))
    {od0 an0 od1 an1 od2 an2 od3 an3 od4 an4 od5 an5 od6 an6 od7 an7 od8 an8 od9 an9 od10 an10 od11 an11 od12 an12 od13 an13 od14 an14 od15 an15 od16 an16 od17 an17 od18 an18 od19 an19 od20 an20 od21 an21 od22 an22 od23 an23 od24 an24 od25 an25 od26 an26 od27 an27 od28 an28 od29 an29 od30 an30 od31 an31 od32 an32 od33 an33 od34 an34 od35 an35 od36 an36 od37 an37 od38 an38 od39 an39 od40 an40 od41 an41 od42 an42 od43 an43 od44 an44 od45 an45 od46 an46 od47 an47 od48 an48 : Option Addr} {sl0 sl1 sl2 sl3 sl4 sl5 sl6 sl7 sl8 sl9 sl10 sl11 sl12 sl13 sl14 sl15 sl16 sl17 sl18 sl19 sl20 sl21 sl22 sl23 sl24 sl25 sl26 sl27 sl28 sl29 sl30 sl31 sl32 sl33 sl34 sl35 sl36 sl37 sl38 sl39 sl40 sl41 sl42 sl43 sl44 sl45 sl46 sl47 sl48 : Array (Option Value)} {oc0 dc0 pm0 cd0 ct0 oc1 dc1 pm1 cd1 ct1 oc2 dc2 pm2 cd2 ct2 oc3 dc3 pm3 cd3 ct3 oc4 dc4 pm4 cd4 ct4 oc5 dc5 pm5 cd5 ct5 oc6 dc6 pm6 cd6 ct6 oc7 dc7 pm7 cd7 ct7 oc8 dc8 pm8 cd8 ct8 oc9 dc9 pm9 cd9 ct9 oc10 dc10 pm10 cd10 ct10 oc11 dc11 pm11 cd11 ct11 oc12 dc12 pm12 cd12 ct12 oc13 dc13 pm13 cd13 ct13 oc14 dc14 pm14 cd14 ct14 oc15 dc15 pm15 cd15 ct15 oc16 dc16 pm16 cd16 ct16 oc17 dc17 pm17 cd17 ct17 oc18 dc18 pm18 cd18 ct18 oc19 dc19 pm19 cd19 ct19 oc20 dc20 pm20 cd20 ct20 oc21 dc21 pm21 cd21 ct21 oc22 dc22 pm22 cd22 ct22 oc23 dc23 pm23 cd23 ct23 oc24 dc24 pm24 cd24 ct24 oc25 dc25 pm25 cd25 ct25 oc26 dc26 pm26 cd26 ct26 oc27 dc27 pm27 cd27 ct27 oc28 dc28 pm28 cd28 ct28 oc29 dc29 pm29 cd29 ct29 oc30 dc30 pm30 cd30 ct30 oc31 dc31 pm31 cd31 ct31 oc32 dc32 pm32 cd32 ct32 oc33 dc33 pm33 cd33 ct33 oc34 dc34 pm34 cd34 ct34 oc35 dc35 pm35 cd35 ct35 oc36 dc36 pm36 cd36 ct36 oc37 dc37 pm37 cd37 ct37 oc38 dc38 pm38 cd38 ct38 oc39 dc39 pm39 cd39 ct39 oc40 dc40 pm40 cd40 ct40 oc41 dc41 pm41 cd41 ct41 oc42 dc42 pm42 cd42 ct42 oc43 dc43 pm43 cd43 ct43 oc44 dc44 pm44 cd44 ct44 oc45 dc45 pm45 cd45 ct45 oc46 dc46 pm46 cd46 ct46 oc47 dc47 pm47 cd47 ct47 oc48 dc48 pm48 ct48 : Value}
    {kV0 : Value} {kV1 : Value} {kV2 : Value} {kV3 : Value} {kV4 : Value} {T4 : Addr} {oT4 : Value} {dT4 : Option Addr} {nT4 : Nat} {sT4 : Array (Option Value)} {tk4_0 : _}  {p5 : Addr} {rest5 : List Value} {kV5 : Value} {p6 : Addr} {rest6 : List Value} {kV6 : Value} {kV7 : Value} {p8 : Addr} {rest8 : List Value} {kV8 : Value} {kV9 : Value} {kV10 : Value} {kV11 : Value} {kV12 : Value} {kV13 : Value} {kV14 : Value} {kV15 : Value} {kV16 : Value} {kV17 : Value} {kV18 : Value} {kV19 : Value} {kV20 : Value} {kV21 : Value} {kV22 : Value} {kV23 : Value} {kV24 : Value} {kV25 : Value} {kV26 : Value} {kV27 : Value} {kV28 : Value} {kV29 : Value} {kV30 : Value} {kV31 : Value} {kV32 : Value} {kV33 : Value} {kV34 : Value} {kV35 : Value} {kV36 : Value} {kV37 : Value} {kV38 : Value} {kV39 : Value} {kV40 : Value} {kV41 : Value} {kV42 : Value} {kV43 : Value} {kV44 : Value} {kV45 : Value} {kV46 : Value} {kV47 : Value} {kV48 : Value} {t_FARTHEST : _} {t_FIGURES : _} {t_LONGEST : _} {t_LONGEST_PAIR : _}
    {q : Program} {fT : Addr} {ocT kVT dcT pmT cdT ctT : Value} {odT anT : Option Addr} {slT : Array (Option Value)} {cL48 PL48 : Addr} {eL48 : Value} {deL48 : Option Addr} {vsL48 : Array Value} {sL48 : Array (Option Value)}
    {CX0 fX0 cdX0 ccX0 : Addr} {ocX0 kVX0 dcX0 pmX0 ctX0 eX0 clX0 : Value} {odX0 anX0 deX0 cldX0 : Option Addr} {slX0 sX0 cslX0 : Array (Option Value)} {vsX0 : Array Value} {fileX0 : Str} {tfX0 : Tok} {nmX0 : _} {qX0 : _} {NX0 : _} {bsX0 : _} {bmX0 : _} {snX0 : _} {subX0 : _} {abX0 : _} {colX0 : _} {ddX0 : _} {k0X0 : _} {k1X0 : _} {k2X0 : _} {k3X0 : _} {k5X0 : _}
    {CX1 fX1 cdX1 ccX1 : Addr} {ocX1 kVX1 dcX1 pmX1 ctX1 eX1 clX1 : Value} {odX1 anX1 deX1 cldX1 : Option Addr} {slX1 sX1 cslX1 : Array (Option Value)} {vsX1 : Array Value} {fileX1 : Str} {tfX1 : Tok} {nmX1 : _} {qX1 : _} {NX1 : _} {bsX1 : _} {bmX1 : _} {snX1 : _} {subX1 : _} {abX1 : _} {colX1 : _} {ddX1 : _} {k0X1 : _} {k1X1 : _} {k2X1 : _} {k3X1 : _} {k5X1 : _}
    (aC0 : PySem.W.nsIn K mainGlobals "Ratio" = some (some (.ref C0)))
    (pg0 : PySem.W.plainGet K C0 Str.empty = true)
    (hd0 : PySem.W.hasDictIn K C0 = true)
    (po0 : PySem.W.plainOver K C0 = true)
    (sa0 : PySem.W.findIn K (.ref C0) "__setattr__" = some (some (.builtin "object.__setattr__")))
    (ha0 : PySem.W.findIn K (.ref C0) "__class__" = some (some (.builtin "object.__class__")))
    (hm0 : PySem.W.mroIn K C0 (.type "object") = some true)
    (ic0 : PySem.W.isClsIn K C0 = true)
    (ty0 : PySem.W.typeIn K (.ref C0) = some (.type "type"))
    (sf0 : PySem.W.selfFirst K C0 = true)
    (kb0_non : PySem.W.subIn K (.type "NoneType") (.ref C0) = some false)
    (kb0_bl : PySem.W.subIn K (.type "bool") (.ref C0) = some false)
    (kb0_int : PySem.W.subIn K (.type "int") (.ref C0) = some false)
    (kb0_str : PySem.W.subIn K (.type "str") (.ref C0) = some false)
    (kb0_lst : PySem.W.subIn K (.type "list") (.ref C0) = some false)
    (kb0_tup : PySem.W.subIn K (.type "tuple") (.ref C0) = some false)
    (ki0_bool : PySem.W.subIn K (.ref C0) (.type "bool") = some false)
    (ki0_int : PySem.W.subIn K (.ref C0) (.type "int") = some false)
    (ki0_list : PySem.W.subIn K (.ref C0) (.type "list") = some false)
    (ki0_str : PySem.W.subIn K (.ref C0) (.type "str") = some false)
    (ki0_tuple : PySem.W.subIn K (.ref C0) (.type "tuple") = some false)
    (fm0 : PySem.W.findIn K (.ref C0) "__format__" = some (some (.builtin "object.__format__")))
    (rd0 : PySem.W.readsIn K C0 (.type "type") = true)
    (ga0 : PySem.W.specialIn K (.ref C0) "__getattribute__" = some (some (.builtin "type.__getattribute__")))
    (hn : PySem.W.specialIn K (.builtin "object.__class__") "__get__" = some (some (.builtin "getset_descriptor.__get__")))
    (htk : PySem.W.takesIn K (.builtin "object.__class__") = some true)
    (na_Ratio_own_bottom : PySem.W.findIn K (.ref C0) "own_bottom" = some none)
    (na_Ratio_own_top : PySem.W.findIn K (.ref C0) "own_top" = some none)
    (a0 : PySem.W.nsIn K mainGlobals "is_number" = some (some (.ref f0)))
    (l0 : K.lookup f0 = some ⟨oc0, od0, .func (PySem.W.fnOf "is_number" "is_number" (defArgs st_is_number) (defBody st_is_number) (defScope st_is_number) .none kV0 dc0 pm0 an0 cd0 ct0), sl0⟩)
    (c0 : PySem.W.codeIn K cd0 "is_number" = true)
    (k0 : PySem.W.keepIn K (.ref f0) = true)
    (a1 : PySem.W.nsIn K mainGlobals "common_divisor" = some (some (.ref f1)))
    (l1 : K.lookup f1 = some ⟨oc1, od1, .func (PySem.W.fnOf "common_divisor" "common_divisor" (defArgs st_common_divisor) (defBody st_common_divisor) (defScope st_common_divisor) .none kV1 dc1 pm1 an1 cd1 ct1), sl1⟩)
    (c1 : PySem.W.codeIn K cd1 "common_divisor" = true)
    (k1 : PySem.W.keepIn K (.ref f1) = true)
    (a2 : PySem.W.nsIn K mainGlobals "figures_number" = some (some (.ref f2)))
    (l2 : K.lookup f2 = some ⟨oc2, od2, .func (PySem.W.fnOf "figures_number" "figures_number" (defArgs st_figures_number) (defBody st_figures_number) (defScope st_figures_number) .none kV2 dc2 pm2 an2 cd2 ct2), sl2⟩)
    (c2 : PySem.W.codeIn K cd2 "figures_number" = true)
    (k2 : PySem.W.keepIn K (.ref f2) = true)
    (a3 : PySem.W.nsIn K mainGlobals "signed_number" = some (some (.ref f3)))
    (l3 : K.lookup f3 = some ⟨oc3, od3, .func (PySem.W.fnOf "signed_number" "signed_number" (defArgs st_signed_number) (defBody st_signed_number) (defScope st_signed_number) .none kV3 dc3 pm3 an3 cd3 ct3), sl3⟩)
    (c3 : PySem.W.codeIn K cd3 "signed_number" = true)
    (k3 : PySem.W.keepIn K (.ref f3) = true)
    (a4 : PySem.W.findIn K (.ref C0) "__init__" = some (some (.ref f4)))
    (i4 : PySem.W.isFn K (.ref f4) = true)
    (l4 : K.lookup f4 = some ⟨oc4, od4, .func (PySem.W.fnOf "__init__" "Ratio.__init__" (defArgs st_Ratio___init__) (defBody st_Ratio___init__) (defScope st_Ratio___init__) (.ref T4) kV4 dc4 pm4 an4 cd4 ct4), sl4⟩)
    (lT4 : K.lookup T4 = some ⟨oT4, dT4, .seq #[(.int 1 tk4_0)] nT4, sT4⟩)
    (c4 : PySem.W.codeIn K cd4 "Ratio.__init__" = true)
    (k4 : PySem.W.keepIn K (.ref f4) = true)
    (a5 : PySem.W.findIn K (.ref C0) "top" = some (some (.ref p5)))
    (g5 : PySem.W.specialIn K (.ref p5) "__get__" = some (some (.builtin "property.__get__")))
    (t5 : PySem.W.takesIn K (.ref p5) = some true)
    (r5 : PySem.W.recIn K p5 "property" = some (.ref f5 :: rest5))
    (l5 : K.lookup f5 = some ⟨oc5, od5, .func (PySem.W.fnOf "top" "Ratio.top" (defArgs st_Ratio_top) (defBody st_Ratio_top) (defScope st_Ratio_top) .none kV5 dc5 pm5 an5 cd5 ct5), sl5⟩)
    (c5 : PySem.W.codeIn K cd5 "Ratio.top" = true)
    (k5 : PySem.W.keepIn K (.ref f5) = true)
    (a6 : PySem.W.findIn K (.ref C0) "bottom" = some (some (.ref p6)))
    (g6 : PySem.W.specialIn K (.ref p6) "__get__" = some (some (.builtin "property.__get__")))
    (t6 : PySem.W.takesIn K (.ref p6) = some true)
    (r6 : PySem.W.recIn K p6 "property" = some (.ref f6 :: rest6))
    (l6 : K.lookup f6 = some ⟨oc6, od6, .func (PySem.W.fnOf "bottom" "Ratio.bottom" (defArgs st_Ratio_bottom) (defBody st_Ratio_bottom) (defScope st_Ratio_bottom) .none kV6 dc6 pm6 an6 cd6 ct6), sl6⟩)
    (c6 : PySem.W.codeIn K cd6 "Ratio.bottom" = true)
    (k6 : PySem.W.keepIn K (.ref f6) = true)
    (a7 : PySem.W.findIn K (.ref C0) "__str__" = some (some (.ref f7)))
    (i7 : PySem.W.isFn K (.ref f7) = true)
    (l7 : K.lookup f7 = some ⟨oc7, od7, .func (PySem.W.fnOf "__str__" "Ratio.__str__" (defArgs st_Ratio___str__) (defBody st_Ratio___str__) (defScope st_Ratio___str__) .none kV7 dc7 pm7 an7 cd7 ct7), sl7⟩)
    (c7 : PySem.W.codeIn K cd7 "Ratio.__str__" = true)
    (k7 : PySem.W.keepIn K (.ref f7) = true)
    (a8 : PySem.W.findCls K (.ref C0) (.type "type") "read" = some (.get (.builtin "classmethod.__get__") (.ref p8) .none (.ref C0)))
    (r8 : PySem.W.recIn K p8 "classmethod" = some (.ref f8 :: rest8))
    (fi8 : PySem.W.fnIn K f8 = true)
    (l8 : K.lookup f8 = some ⟨oc8, od8, .func (PySem.W.fnOf "read" "Ratio.read" (defArgs st_Ratio_read) (defBody st_Ratio_read) (defScope st_Ratio_read) .none kV8 dc8 pm8 an8 cd8 ct8), sl8⟩)
    (c8 : PySem.W.codeIn K cd8 "Ratio.read" = true)
    (k8 : PySem.W.keepIn K (.ref f8) = true)
    (a9 : PySem.W.findIn K (.ref C0) "is_below" = some (some (.ref f9)))
    (i9 : PySem.W.isFn K (.ref f9) = true)
    (l9 : K.lookup f9 = some ⟨oc9, od9, .func (PySem.W.fnOf "is_below" "Ratio.is_below" (defArgs st_Ratio_is_below) (defBody st_Ratio_is_below) (defScope st_Ratio_is_below) .none kV9 dc9 pm9 an9 cd9 ct9), sl9⟩)
    (c9 : PySem.W.codeIn K cd9 "Ratio.is_below" = true)
    (k9 : PySem.W.keepIn K (.ref f9) = true)
    (a10 : PySem.W.nsIn K mainGlobals "zero" = some (some (.ref f10)))
    (l10 : K.lookup f10 = some ⟨oc10, od10, .func (PySem.W.fnOf "zero" "zero" (defArgs st_zero) (defBody st_zero) (defScope st_zero) .none kV10 dc10 pm10 an10 cd10 ct10), sl10⟩)
    (c10 : PySem.W.codeIn K cd10 "zero" = true)
    (k10 : PySem.W.keepIn K (.ref f10) = true)
    (a11 : PySem.W.nsIn K mainGlobals "unit" = some (some (.ref f11)))
    (l11 : K.lookup f11 = some ⟨oc11, od11, .func (PySem.W.fnOf "unit" "unit" (defArgs st_unit) (defBody st_unit) (defScope st_unit) .none kV11 dc11 pm11 an11 cd11 ct11), sl11⟩)
    (c11 : PySem.W.codeIn K cd11 "unit" = true)
    (k11 : PySem.W.keepIn K (.ref f11) = true)
    (a12 : PySem.W.nsIn K mainGlobals "is_point" = some (some (.ref f12)))
    (l12 : K.lookup f12 = some ⟨oc12, od12, .func (PySem.W.fnOf "is_point" "is_point" (defArgs st_is_point) (defBody st_is_point) (defScope st_is_point) .none kV12 dc12 pm12 an12 cd12 ct12), sl12⟩)
    (c12 : PySem.W.codeIn K cd12 "is_point" = true)
    (k12 : PySem.W.keepIn K (.ref f12) = true)
    (a13 : PySem.W.nsIn K mainGlobals "is_side" = some (some (.ref f13)))
    (l13 : K.lookup f13 = some ⟨oc13, od13, .func (PySem.W.fnOf "is_side" "is_side" (defArgs st_is_side) (defBody st_is_side) (defScope st_is_side) .none kV13 dc13 pm13 an13 cd13 ct13), sl13⟩)
    (c13 : PySem.W.codeIn K cd13 "is_side" = true)
    (k13 : PySem.W.keepIn K (.ref f13) = true)
    (a14 : PySem.W.nsIn K mainGlobals "pair_text" = some (some (.ref f14)))
    (l14 : K.lookup f14 = some ⟨oc14, od14, .func (PySem.W.fnOf "pair_text" "pair_text" (defArgs st_pair_text) (defBody st_pair_text) (defScope st_pair_text) .none kV14 dc14 pm14 an14 cd14 ct14), sl14⟩)
    (c14 : PySem.W.codeIn K cd14 "pair_text" = true)
    (k14 : PySem.W.keepIn K (.ref f14) = true)
    (a15 : PySem.W.nsIn K mainGlobals "side_text" = some (some (.ref f15)))
    (l15 : K.lookup f15 = some ⟨oc15, od15, .func (PySem.W.fnOf "side_text" "side_text" (defArgs st_side_text) (defBody st_side_text) (defScope st_side_text) .none kV15 dc15 pm15 an15 cd15 ct15), sl15⟩)
    (c15 : PySem.W.codeIn K cd15 "side_text" = true)
    (k15 : PySem.W.keepIn K (.ref f15) = true)
    (a16 : PySem.W.nsIn K mainGlobals "place_text" = some (some (.ref f16)))
    (l16 : K.lookup f16 = some ⟨oc16, od16, .func (PySem.W.fnOf "place_text" "place_text" (defArgs st_place_text) (defBody st_place_text) (defScope st_place_text) .none kV16 dc16 pm16 an16 cd16 ct16), sl16⟩)
    (c16 : PySem.W.codeIn K cd16 "place_text" = true)
    (k16 : PySem.W.keepIn K (.ref f16) = true)
    (a17 : PySem.W.nsIn K mainGlobals "pair_in" = some (some (.ref f17)))
    (l17 : K.lookup f17 = some ⟨oc17, od17, .func (PySem.W.fnOf "pair_in" "pair_in" (defArgs st_pair_in) (defBody st_pair_in) (defScope st_pair_in) .none kV17 dc17 pm17 an17 cd17 ct17), sl17⟩)
    (c17 : PySem.W.codeIn K cd17 "pair_in" = true)
    (k17 : PySem.W.keepIn K (.ref f17) = true)
    (a18 : PySem.W.nsIn K mainGlobals "side_in" = some (some (.ref f18)))
    (l18 : K.lookup f18 = some ⟨oc18, od18, .func (PySem.W.fnOf "side_in" "side_in" (defArgs st_side_in) (defBody st_side_in) (defScope st_side_in) .none kV18 dc18 pm18 an18 cd18 ct18), sl18⟩)
    (c18 : PySem.W.codeIn K cd18 "side_in" = true)
    (k18 : PySem.W.keepIn K (.ref f18) = true)
    (a19 : PySem.W.nsIn K mainGlobals "place_in" = some (some (.ref f19)))
    (l19 : K.lookup f19 = some ⟨oc19, od19, .func (PySem.W.fnOf "place_in" "place_in" (defArgs st_place_in) (defBody st_place_in) (defScope st_place_in) .none kV19 dc19 pm19 an19 cd19 ct19), sl19⟩)
    (c19 : PySem.W.codeIn K cd19 "place_in" = true)
    (k19 : PySem.W.keepIn K (.ref f19) = true)
    (a20 : PySem.W.nsIn K mainGlobals "way_text" = some (some (.ref f20)))
    (l20 : K.lookup f20 = some ⟨oc20, od20, .func (PySem.W.fnOf "way_text" "way_text" (defArgs st_way_text) (defBody st_way_text) (defScope st_way_text) .none kV20 dc20 pm20 an20 cd20 ct20), sl20⟩)
    (c20 : PySem.W.codeIn K cd20 "way_text" = true)
    (k20 : PySem.W.keepIn K (.ref f20) = true)
    (a21 : PySem.W.nsIn K mainGlobals "lines_of" = some (some (.ref f21)))
    (l21 : K.lookup f21 = some ⟨oc21, od21, .func (PySem.W.fnOf "lines_of" "lines_of" (defArgs st_lines_of) (defBody st_lines_of) (defScope st_lines_of) .none kV21 dc21 pm21 an21 cd21 ct21), sl21⟩)
    (c21 : PySem.W.codeIn K cd21 "lines_of" = true)
    (k21 : PySem.W.keepIn K (.ref f21) = true)
    (a22 : PySem.W.nsIn K mainGlobals "read_way" = some (some (.ref f22)))
    (l22 : K.lookup f22 = some ⟨oc22, od22, .func (PySem.W.fnOf "read_way" "read_way" (defArgs st_read_way) (defBody st_read_way) (defScope st_read_way) .none kV22 dc22 pm22 an22 cd22 ct22), sl22⟩)
    (c22 : PySem.W.codeIn K cd22 "read_way" = true)
    (k22 : PySem.W.keepIn K (.ref f22) = true)
    (a23 : PySem.W.nsIn K mainGlobals "_law_start" = some (some (.ref f23)))
    (l23 : K.lookup f23 = some ⟨oc23, od23, .func (PySem.W.fnOf "_law_start" "_law_start" (defArgs st__law_start) (defBody st__law_start) (defScope st__law_start) .none kV23 dc23 pm23 an23 cd23 ct23), sl23⟩)
    (c23 : PySem.W.codeIn K cd23 "_law_start" = true)
    (k23 : PySem.W.keepIn K (.ref f23) = true)
    (a24 : PySem.W.nsIn K mainGlobals "_law_pull" = some (some (.ref f24)))
    (l24 : K.lookup f24 = some ⟨oc24, od24, .func (PySem.W.fnOf "_law_pull" "_law_pull" (defArgs st__law_pull) (defBody st__law_pull) (defScope st__law_pull) .none kV24 dc24 pm24 an24 cd24 ct24), sl24⟩)
    (c24 : PySem.W.codeIn K cd24 "_law_pull" = true)
    (k24 : PySem.W.keepIn K (.ref f24) = true)
    (a25 : PySem.W.nsIn K mainGlobals "_law_pick" = some (some (.ref f25)))
    (l25 : K.lookup f25 = some ⟨oc25, od25, .func (PySem.W.fnOf "_law_pick" "_law_pick" (defArgs st__law_pick) (defBody st__law_pick) (defScope st__law_pick) .none kV25 dc25 pm25 an25 cd25 ct25), sl25⟩)
    (c25 : PySem.W.codeIn K cd25 "_law_pick" = true)
    (k25 : PySem.W.keepIn K (.ref f25) = true)
    (a26 : PySem.W.nsIn K mainGlobals "_law_key" = some (some (.ref f26)))
    (l26 : K.lookup f26 = some ⟨oc26, od26, .func (PySem.W.fnOf "_law_key" "_law_key" (defArgs st__law_key) (defBody st__law_key) (defScope st__law_key) .none kV26 dc26 pm26 an26 cd26 ct26), sl26⟩)
    (c26 : PySem.W.codeIn K cd26 "_law_key" = true)
    (k26 : PySem.W.keepIn K (.ref f26) = true)
    (a27 : PySem.W.nsIn K mainGlobals "_law_gcd" = some (some (.ref f27)))
    (l27 : K.lookup f27 = some ⟨oc27, od27, .func (PySem.W.fnOf "_law_gcd" "_law_gcd" (defArgs st__law_gcd) (defBody st__law_gcd) (defScope st__law_gcd) .none kV27 dc27 pm27 an27 cd27 ct27), sl27⟩)
    (c27 : PySem.W.codeIn K cd27 "_law_gcd" = true)
    (k27 : PySem.W.keepIn K (.ref f27) = true)
    (a28 : PySem.W.nsIn K mainGlobals "_law_frac" = some (some (.ref f28)))
    (l28 : K.lookup f28 = some ⟨oc28, od28, .func (PySem.W.fnOf "_law_frac" "_law_frac" (defArgs st__law_frac) (defBody st__law_frac) (defScope st__law_frac) .none kV28 dc28 pm28 an28 cd28 ct28), sl28⟩)
    (c28 : PySem.W.codeIn K cd28 "_law_frac" = true)
    (k28 : PySem.W.keepIn K (.ref f28) = true)
    (a29 : PySem.W.nsIn K mainGlobals "_law_pair_text" = some (some (.ref f29)))
    (l29 : K.lookup f29 = some ⟨oc29, od29, .func (PySem.W.fnOf "_law_pair_text" "_law_pair_text" (defArgs st__law_pair_text) (defBody st__law_pair_text) (defScope st__law_pair_text) .none kV29 dc29 pm29 an29 cd29 ct29), sl29⟩)
    (c29 : PySem.W.codeIn K cd29 "_law_pair_text" = true)
    (k29 : PySem.W.keepIn K (.ref f29) = true)
    (a30 : PySem.W.nsIn K mainGlobals "_law_side_text" = some (some (.ref f30)))
    (l30 : K.lookup f30 = some ⟨oc30, od30, .func (PySem.W.fnOf "_law_side_text" "_law_side_text" (defArgs st__law_side_text) (defBody st__law_side_text) (defScope st__law_side_text) .none kV30 dc30 pm30 an30 cd30 ct30), sl30⟩)
    (c30 : PySem.W.codeIn K cd30 "_law_side_text" = true)
    (k30 : PySem.W.keepIn K (.ref f30) = true)
    (a31 : PySem.W.nsIn K mainGlobals "_law_text" = some (some (.ref f31)))
    (l31 : K.lookup f31 = some ⟨oc31, od31, .func (PySem.W.fnOf "_law_text" "_law_text" (defArgs st__law_text) (defBody st__law_text) (defScope st__law_text) .none kV31 dc31 pm31 an31 cd31 ct31), sl31⟩)
    (c31 : PySem.W.codeIn K cd31 "_law_text" = true)
    (k31 : PySem.W.keepIn K (.ref f31) = true)
    (a32 : PySem.W.nsIn K mainGlobals "_law_spot_text" = some (some (.ref f32)))
    (l32 : K.lookup f32 = some ⟨oc32, od32, .func (PySem.W.fnOf "_law_spot_text" "_law_spot_text" (defArgs st__law_spot_text) (defBody st__law_spot_text) (defScope st__law_spot_text) .none kV32 dc32 pm32 an32 cd32 ct32), sl32⟩)
    (c32 : PySem.W.codeIn K cd32 "_law_spot_text" = true)
    (k32 : PySem.W.keepIn K (.ref f32) = true)
    (a33 : PySem.W.nsIn K mainGlobals "_law_sort" = some (some (.ref f33)))
    (l33 : K.lookup f33 = some ⟨oc33, od33, .func (PySem.W.fnOf "_law_sort" "_law_sort" (defArgs st__law_sort) (defBody st__law_sort) (defScope st__law_sort) .none kV33 dc33 pm33 an33 cd33 ct33), sl33⟩)
    (c33 : PySem.W.codeIn K cd33 "_law_sort" = true)
    (k33 : PySem.W.keepIn K (.ref f33) = true)
    (a34 : PySem.W.nsIn K mainGlobals "_law_same" = some (some (.ref f34)))
    (l34 : K.lookup f34 = some ⟨oc34, od34, .func (PySem.W.fnOf "_law_same" "_law_same" (defArgs st__law_same) (defBody st__law_same) (defScope st__law_same) .none kV34 dc34 pm34 an34 cd34 ct34), sl34⟩)
    (c34 : PySem.W.codeIn K cd34 "_law_same" = true)
    (k34 : PySem.W.keepIn K (.ref f34) = true)
    (a35 : PySem.W.nsIn K mainGlobals "_law_ratio" = some (some (.ref f35)))
    (l35 : K.lookup f35 = some ⟨oc35, od35, .func (PySem.W.fnOf "_law_ratio" "_law_ratio" (defArgs st__law_ratio) (defBody st__law_ratio) (defScope st__law_ratio) .none kV35 dc35 pm35 an35 cd35 ct35), sl35⟩)
    (c35 : PySem.W.codeIn K cd35 "_law_ratio" = true)
    (k35 : PySem.W.keepIn K (.ref f35) = true)
    (a36 : PySem.W.nsIn K mainGlobals "_law_made_place" = some (some (.ref f36)))
    (l36 : K.lookup f36 = some ⟨oc36, od36, .func (PySem.W.fnOf "_law_made_place" "_law_made_place" (defArgs st__law_made_place) (defBody st__law_made_place) (defScope st__law_made_place) .none kV36 dc36 pm36 an36 cd36 ct36), sl36⟩)
    (c36 : PySem.W.codeIn K cd36 "_law_made_place" = true)
    (k36 : PySem.W.keepIn K (.ref f36) = true)
    (a37 : PySem.W.nsIn K mainGlobals "_law_bent_text" = some (some (.ref f37)))
    (l37 : K.lookup f37 = some ⟨oc37, od37, .func (PySem.W.fnOf "_law_bent_text" "_law_bent_text" (defArgs st__law_bent_text) (defBody st__law_bent_text) (defScope st__law_bent_text) .none kV37 dc37 pm37 an37 cd37 ct37), sl37⟩)
    (c37 : PySem.W.codeIn K cd37 "_law_bent_text" = true)
    (k37 : PySem.W.keepIn K (.ref f37) = true)
    (a38 : PySem.W.nsIn K mainGlobals "_law_number_in" = some (some (.ref f38)))
    (l38 : K.lookup f38 = some ⟨oc38, od38, .func (PySem.W.fnOf "_law_number_in" "_law_number_in" (defArgs st__law_number_in) (defBody st__law_number_in) (defScope st__law_number_in) .none kV38 dc38 pm38 an38 cd38 ct38), sl38⟩)
    (c38 : PySem.W.codeIn K cd38 "_law_number_in" = true)
    (k38 : PySem.W.keepIn K (.ref f38) = true)
    (a39 : PySem.W.nsIn K mainGlobals "_law_signed" = some (some (.ref f39)))
    (l39 : K.lookup f39 = some ⟨oc39, od39, .func (PySem.W.fnOf "_law_signed" "_law_signed" (defArgs st__law_signed) (defBody st__law_signed) (defScope st__law_signed) .none kV39 dc39 pm39 an39 cd39 ct39), sl39⟩)
    (c39 : PySem.W.codeIn K cd39 "_law_signed" = true)
    (k39 : PySem.W.keepIn K (.ref f39) = true)
    (a40 : PySem.W.nsIn K mainGlobals "_law_pair_in" = some (some (.ref f40)))
    (l40 : K.lookup f40 = some ⟨oc40, od40, .func (PySem.W.fnOf "_law_pair_in" "_law_pair_in" (defArgs st__law_pair_in) (defBody st__law_pair_in) (defScope st__law_pair_in) .none kV40 dc40 pm40 an40 cd40 ct40), sl40⟩)
    (c40 : PySem.W.codeIn K cd40 "_law_pair_in" = true)
    (k40 : PySem.W.keepIn K (.ref f40) = true)
    (a41 : PySem.W.nsIn K mainGlobals "_law_side_in" = some (some (.ref f41)))
    (l41 : K.lookup f41 = some ⟨oc41, od41, .func (PySem.W.fnOf "_law_side_in" "_law_side_in" (defArgs st__law_side_in) (defBody st__law_side_in) (defScope st__law_side_in) .none kV41 dc41 pm41 an41 cd41 ct41), sl41⟩)
    (c41 : PySem.W.codeIn K cd41 "_law_side_in" = true)
    (k41 : PySem.W.keepIn K (.ref f41) = true)
    (a42 : PySem.W.nsIn K mainGlobals "_law_read" = some (some (.ref f42)))
    (l42 : K.lookup f42 = some ⟨oc42, od42, .func (PySem.W.fnOf "_law_read" "_law_read" (defArgs st__law_read) (defBody st__law_read) (defScope st__law_read) .none kV42 dc42 pm42 an42 cd42 ct42), sl42⟩)
    (c42 : PySem.W.codeIn K cd42 "_law_read" = true)
    (k42 : PySem.W.keepIn K (.ref f42) = true)
    (a43 : PySem.W.nsIn K mainGlobals "_law_spot_in" = some (some (.ref f43)))
    (l43 : K.lookup f43 = some ⟨oc43, od43, .func (PySem.W.fnOf "_law_spot_in" "_law_spot_in" (defArgs st__law_spot_in) (defBody st__law_spot_in) (defScope st__law_spot_in) .none kV43 dc43 pm43 an43 cd43 ct43), sl43⟩)
    (c43 : PySem.W.codeIn K cd43 "_law_spot_in" = true)
    (k43 : PySem.W.keepIn K (.ref f43) = true)
    (a44 : PySem.W.nsIn K mainGlobals "_law_of_ratio" = some (some (.ref f44)))
    (l44 : K.lookup f44 = some ⟨oc44, od44, .func (PySem.W.fnOf "_law_of_ratio" "_law_of_ratio" (defArgs st__law_of_ratio) (defBody st__law_of_ratio) (defScope st__law_of_ratio) .none kV44 dc44 pm44 an44 cd44 ct44), sl44⟩)
    (c44 : PySem.W.codeIn K cd44 "_law_of_ratio" = true)
    (k44 : PySem.W.keepIn K (.ref f44) = true)
    (a45 : PySem.W.nsIn K mainGlobals "_law_of_place" = some (some (.ref f45)))
    (l45 : K.lookup f45 = some ⟨oc45, od45, .func (PySem.W.fnOf "_law_of_place" "_law_of_place" (defArgs st__law_of_place) (defBody st__law_of_place) (defScope st__law_of_place) .none kV45 dc45 pm45 an45 cd45 ct45), sl45⟩)
    (c45 : PySem.W.codeIn K cd45 "_law_of_place" = true)
    (k45 : PySem.W.keepIn K (.ref f45) = true)
    (a46 : PySem.W.nsIn K mainGlobals "_law_joined_rows" = some (some (.ref f46)))
    (l46 : K.lookup f46 = some ⟨oc46, od46, .func (PySem.W.fnOf "_law_joined_rows" "_law_joined_rows" (defArgs st__law_joined_rows) (defBody st__law_joined_rows) (defScope st__law_joined_rows) .none kV46 dc46 pm46 an46 cd46 ct46), sl46⟩)
    (c46 : PySem.W.codeIn K cd46 "_law_joined_rows" = true)
    (k46 : PySem.W.keepIn K (.ref f46) = true)
    (a47 : PySem.W.nsIn K mainGlobals "_law_of_places" = some (some (.ref f47)))
    (l47 : K.lookup f47 = some ⟨oc47, od47, .func (PySem.W.fnOf "_law_of_places" "_law_of_places" (defArgs st__law_of_places) (defBody st__law_of_places) (defScope st__law_of_places) .none kV47 dc47 pm47 an47 cd47 ct47), sl47⟩)
    (c47 : PySem.W.codeIn K cd47 "_law_of_places" = true)
    (k47 : PySem.W.keepIn K (.ref f47) = true)
    (a48 : PySem.W.nsIn K mainGlobals "law" = some (some (.ref f48)))
    (l48 : K.lookup f48 = some ⟨oc48, od48, .func (PySem.W.fnOf "law" "law" (defArgs st_law) (defBody st_law) (defScope st_law) .none kV48 dc48 pm48 an48 (.ref cL48) ct48), sl48⟩)
    (c48 : PySem.W.codeIn K (.ref cL48) "law" = true)
    (k48 : PySem.W.keepIn K (.ref f48) = true)
    (mk0 : PySem.W.makesIn K C0 = true)
    (kc0 : PySem.W.keepIn K (.ref C0) = true)
    (dgX : PySem.W.nsIn K cStatics "sys.int_max_str_digits" = some none)
    (b_abs : PySem.W.nsIn K mainGlobals "abs" = some none)
    (b_all : PySem.W.nsIn K mainGlobals "all" = some none)
    (b_bool : PySem.W.nsIn K mainGlobals "bool" = some none)
    (b_enumerate : PySem.W.nsIn K mainGlobals "enumerate" = some none)
    (b_int : PySem.W.nsIn K mainGlobals "int" = some none)
    (b_isinstance : PySem.W.nsIn K mainGlobals "isinstance" = some none)
    (b_len : PySem.W.nsIn K mainGlobals "len" = some none)
    (b_list : PySem.W.nsIn K mainGlobals "list" = some none)
    (b_range : PySem.W.nsIn K mainGlobals "range" = some none)
    (b_str : PySem.W.nsIn K mainGlobals "str" = some none)
    (b_tuple : PySem.W.nsIn K mainGlobals "tuple" = some none)
    (b_zip : PySem.W.nsIn K mainGlobals "zip" = some none)
    (c_FARTHEST : PySem.W.nsIn K mainGlobals "FARTHEST" = some (some (.int 1000000 t_FARTHEST)))
    (c_FIGURES : PySem.W.nsIn K mainGlobals "FIGURES" = some (some (.str "0123456789" t_FIGURES)))
    (c_LONGEST : PySem.W.nsIn K mainGlobals "LONGEST" = some (some (.int 2000 t_LONGEST)))
    (c_LONGEST_PAIR : PySem.W.nsIn K mainGlobals "LONGEST_PAIR" = some (some (.int 20 t_LONGEST_PAIR)))
    (lcL48 : K.lookup cL48 = some ⟨eL48, deL48, .fields vsL48, sL48⟩)
    (pL48 : vsL48[11]? = some (.ref PL48))
    (nPL48 : K.lookup PL48 = none)
    (hdL48 : PySem.W.codeHdIn K cL48 PL48 = true)
    (rc48 : ((recsOf q).any fun e => e.name == "law") = true)
    (aT : PySem.W.nsIn K mainGlobals "_law_line_try" = some (some (.ref fT)))
    (kT : PySem.W.keepIn K (.ref fT) = true)
    (lT : K.lookup fT = some ⟨ocT, odT, .func (PySem.W.fnOf "_law_line_try" "_law_line_try" (defArgs st__law_line_try) (defBody st__law_line_try) (defScope st__law_line_try) .none kVT dcT pmT anT cdT ctT), slT⟩)
    (cT : PySem.W.codeIn K cdT "_law_line_try" = true)
    (suX : PySem.W.nsIn K mainGlobals "super" = some none)
    (opX : PySem.W.nsIn K cStatics "thirdparty.any" = some none)
    (tpX : (l.prog.main.scope.names.lookup ("super" : Str)).isSome = false)
    (aX0 : PySem.W.nsIn K mainGlobals "InvalidRatio" = some (some (.ref CX0)))
    (lX0 : K.lookup CX0 = some (excClassObj nmX0 qX0 CX0 NX0 bsX0 bmX0 true snX0 subX0 abX0 colX0 ddX0 k0X0 k1X0 k2X0 k3X0 k5X0 "ValueError.__new__"))
    (rvX0 : PySem.HandSPX.refsVE bmX0 = true)
    (saX0 : PySem.W.findIn K (.ref CX0) "__setattr__" = some (some (.builtin "object.__setattr__")))
    (exX0 : PySem.W.subIn K (.ref CX0) (.type "BaseException") = some true)
    (tyX0 : PySem.W.typeIn K (.ref CX0) = some (.type "type"))
    (kX0 : PySem.W.keepIn K (.ref CX0) = true)
    (iX0 : PySem.W.findIn K (.ref CX0) "__init__" = some (some (.ref fX0)))
    (tiX0 : PySem.W.typeIn K (.ref fX0) = some (.type "function"))
    (lfX0 : K.lookup fX0 = some ⟨ocX0, odX0, .func (PySem.W.ksFn "__init__" "InvalidRatio.__init__" (defArgs st_InvalidRatio___init__) (defBody st_InvalidRatio___init__) (defScope st_InvalidRatio___init__) .none kVX0 dcX0 pmX0 anX0 (.ref cdX0) ctX0 ccX0), slX0⟩)
    (lcX0 : K.lookup cdX0 = some ⟨eX0, deX0, .fields vsX0, sX0⟩)
    (h2X0 : vsX0[2]? = some (.str fileX0 tfX0))
    (hfX0 : ((l.prog.main.file : Str) == fileX0) = true)
    (lccX0 : K.lookup ccX0 = some ⟨clX0, cldX0, .cell (some (.ref CX0)), cslX0⟩)
    (cc'X0 : PySem.W.codeIn K (.ref cdX0) "InvalidRatio.__init__" = true)
    (hDX0 : (PySem.W.clsIn K CX0).isSome = true)
    (CDX0 : PySem.W.mroIn K CX0 (.ref CX0) = some true)
    (alX0 : PySem.W.ks_superIn K CX0 CX0 "__init__" = some (some (.builtin "ValueError.__init__")))
    (VEX0 : PySem.W.subIn K (.ref CX0) (.type "ValueError") = some true)
    (xfX0 : xfB K CX0 = true)
    (no_codeX0 : PySem.W.findIn K (.ref CX0) "code" = some none)
    (no_givenX0 : PySem.W.findIn K (.ref CX0) "given" = some none)
    (no_lineX0 : PySem.W.findIn K (.ref CX0) "line" = some none)
    (no_indexX0 : PySem.W.findIn K (.ref CX0) "index" = some none)
    (no_atX0 : PySem.W.findIn K (.ref CX0) "at" = some none)
    (no_nameX0 : PySem.W.findIn K (.ref CX0) "name" = some none)
    (no_sideX0 : PySem.W.findIn K (.ref CX0) "side" = some none)
    (no_mostX0 : PySem.W.findIn K (.ref CX0) "most" = some none)
    (no_oneX0 : PySem.W.findIn K (.ref CX0) "one" = some none)
    (no_otherX0 : PySem.W.findIn K (.ref CX0) "other" = some none)
    (no_valueX0 : PySem.W.findIn K (.ref CX0) "value" = some none)
    (no_cornerX0 : PySem.W.findIn K (.ref CX0) "corner" = some none)
    (xmX0 : PySem.W.exmOne K (.ref CX0) (.ref CX0) = some true)
    (aX1 : PySem.W.nsIn K mainGlobals "InvalidText" = some (some (.ref CX1)))
    (lX1 : K.lookup CX1 = some (excClassObj nmX1 qX1 CX1 NX1 bsX1 bmX1 true snX1 subX1 abX1 colX1 ddX1 k0X1 k1X1 k2X1 k3X1 k5X1 "ValueError.__new__"))
    (rvX1 : PySem.HandSPX.refsVE bmX1 = true)
    (saX1 : PySem.W.findIn K (.ref CX1) "__setattr__" = some (some (.builtin "object.__setattr__")))
    (exX1 : PySem.W.subIn K (.ref CX1) (.type "BaseException") = some true)
    (tyX1 : PySem.W.typeIn K (.ref CX1) = some (.type "type"))
    (kX1 : PySem.W.keepIn K (.ref CX1) = true)
    (iX1 : PySem.W.findIn K (.ref CX1) "__init__" = some (some (.ref fX1)))
    (tiX1 : PySem.W.typeIn K (.ref fX1) = some (.type "function"))
    (lfX1 : K.lookup fX1 = some ⟨ocX1, odX1, .func (PySem.W.ksFn "__init__" "InvalidText.__init__" (defArgs st_InvalidText___init__) (defBody st_InvalidText___init__) (defScope st_InvalidText___init__) .none kVX1 dcX1 pmX1 anX1 (.ref cdX1) ctX1 ccX1), slX1⟩)
    (lcX1 : K.lookup cdX1 = some ⟨eX1, deX1, .fields vsX1, sX1⟩)
    (h2X1 : vsX1[2]? = some (.str fileX1 tfX1))
    (hfX1 : ((l.prog.main.file : Str) == fileX1) = true)
    (lccX1 : K.lookup ccX1 = some ⟨clX1, cldX1, .cell (some (.ref CX1)), cslX1⟩)
    (cc'X1 : PySem.W.codeIn K (.ref cdX1) "InvalidText.__init__" = true)
    (hDX1 : (PySem.W.clsIn K CX1).isSome = true)
    (CDX1 : PySem.W.mroIn K CX1 (.ref CX1) = some true)
    (alX1 : PySem.W.ks_superIn K CX1 CX1 "__init__" = some (some (.builtin "ValueError.__init__")))
    (VEX1 : PySem.W.subIn K (.ref CX1) (.type "ValueError") = some true)
    (xfX1 : xfB K CX1 = true)
    (no_codeX1 : PySem.W.findIn K (.ref CX1) "code" = some none)
    (no_givenX1 : PySem.W.findIn K (.ref CX1) "given" = some none)
    (no_lineX1 : PySem.W.findIn K (.ref CX1) "line" = some none)
    (no_indexX1 : PySem.W.findIn K (.ref CX1) "index" = some none)
    (no_atX1 : PySem.W.findIn K (.ref CX1) "at" = some none)
    (no_nameX1 : PySem.W.findIn K (.ref CX1) "name" = some none)
    (no_sideX1 : PySem.W.findIn K (.ref CX1) "side" = some none)
    (no_mostX1 : PySem.W.findIn K (.ref CX1) "most" = some none)
    (no_oneX1 : PySem.W.findIn K (.ref CX1) "one" = some none)
    (no_otherX1 : PySem.W.findIn K (.ref CX1) "other" = some none)
    (no_valueX1 : PySem.W.findIn K (.ref CX1) "value" = some none)
    (no_cornerX1 : PySem.W.findIn K (.ref CX1) "corner" = some none)
    (xmX1 : PySem.W.exmOne K (.ref CX1) (.ref CX1) = some true)
    : ∃ (fd : FuncData) (cs : List (Addr × Addr)), (cs.map (·.2)).Nodup ∧ cs.length = 1 ∧
        (∀ p ∈ cs, K.lookup p.2 = none ∧ PySem.W.codeHdIn K p.1 p.2 = true ∧ ∃ (nm : Str) (f : Addr) (o : Obj) (fd : FuncData) (e : Value) (dd : Option Addr) (vs : Array Value) (sl : Array (Option Value)), ((recsOf q).any fun e => e.name == nm) = true ∧ mg nm = some (.ref f) ∧ K.lookup f = some o ∧ o.data = .func fd ∧ fd.code = .ref p.1 ∧ K.lookup p.1 = some ⟨e, dd, .fields vs, sl⟩ ∧ vs[11]? = some (.ref p.2)) ∧
        (∀ (s : Shared) (u : Value), BindsTo s fd ⟨[u], []⟩ [("_law_script", u)]) ∧
        ∀ base : Heap, K.In base → base.Ns mainGlobals mg → (∀ p ∈ cs, LamX.TabB base mg p.1 p.2) → FnOk l.prog w K mg base (L2.CX l.prog w) 45 fa fd ["_law_script"] (spD K 1 (ph_law (cs.map (·.2)))) := by
  cases hfa.symm.trans (PySem.W.mg_of X G a48)
  have F0 := fund_mk (params := defArgs st_is_number) l0 c0 k0
  have F1 := fund_mk (params := defArgs st_common_divisor) l1 c1 k1
  have F2 := fund_mk (params := defArgs st_figures_number) l2 c2 k2
  have F3 := fund_mk (params := defArgs st_signed_number) l3 c3 k3
  have F4 := fund_mkD (params := defArgs st_Ratio___init__) (dvs := [V.int 1]) l4 lT4 c4 k4 (by simp) (.cons ⟨_, rfl⟩ (.nil))
  have F5 := fund_mk (params := defArgs st_Ratio_top) l5 c5 k5
  have F6 := fund_mk (params := defArgs st_Ratio_bottom) l6 c6 k6
  have F7 := fund_mk (params := defArgs st_Ratio___str__) l7 c7 k7
  have F8 := fund_mk (params := defArgs st_Ratio_read) l8 c8 k8
  have F9 := fund_mk (params := defArgs st_Ratio_is_below) l9 c9 k9
  have F10 := fund_mk (params := defArgs st_zero) l10 c10 k10
  have F11 := fund_mk (params := defArgs st_unit) l11 c11 k11
  have F12 := fund_mk (params := defArgs st_is_point) l12 c12 k12
  have F13 := fund_mk (params := defArgs st_is_side) l13 c13 k13
  have F14 := fund_mk (params := defArgs st_pair_text) l14 c14 k14
  have F15 := fund_mk (params := defArgs st_side_text) l15 c15 k15
  have F16 := fund_mk (params := defArgs st_place_text) l16 c16 k16
  have F17 := fund_mk (params := defArgs st_pair_in) l17 c17 k17
  have F18 := fund_mk (params := defArgs st_side_in) l18 c18 k18
  have F19 := fund_mk (params := defArgs st_place_in) l19 c19 k19
  have F20 := fund_mk (params := defArgs st_way_text) l20 c20 k20
  have F21 := fund_mk (params := defArgs st_lines_of) l21 c21 k21
  have F22 := fund_mk (params := defArgs st_read_way) l22 c22 k22
  have F23 := fund_mk (params := defArgs st__law_start) l23 c23 k23
  have F24 := fund_mk (params := defArgs st__law_pull) l24 c24 k24
  have F25 := fund_mk (params := defArgs st__law_pick) l25 c25 k25
  have F26 := fund_mk (params := defArgs st__law_key) l26 c26 k26
  have F27 := fund_mk (params := defArgs st__law_gcd) l27 c27 k27
  have F28 := fund_mk (params := defArgs st__law_frac) l28 c28 k28
  have F29 := fund_mk (params := defArgs st__law_pair_text) l29 c29 k29
  have F30 := fund_mk (params := defArgs st__law_side_text) l30 c30 k30
  have F31 := fund_mk (params := defArgs st__law_text) l31 c31 k31
  have F32 := fund_mk (params := defArgs st__law_spot_text) l32 c32 k32
  have F33 := fund_mk (params := defArgs st__law_sort) l33 c33 k33
  have F34 := fund_mk (params := defArgs st__law_same) l34 c34 k34
  have F35 := fund_mk (params := defArgs st__law_ratio) l35 c35 k35
  have F36 := fund_mk (params := defArgs st__law_made_place) l36 c36 k36
  have F37 := fund_mk (params := defArgs st__law_bent_text) l37 c37 k37
  have F38 := fund_mk (params := defArgs st__law_number_in) l38 c38 k38
  have F39 := fund_mk (params := defArgs st__law_signed) l39 c39 k39
  have F40 := fund_mk (params := defArgs st__law_pair_in) l40 c40 k40
  have F41 := fund_mk (params := defArgs st__law_side_in) l41 c41 k41
  have F42 := fund_mk (params := defArgs st__law_read) l42 c42 k42
  have F43 := fund_mk (params := defArgs st__law_spot_in) l43 c43 k43
  have F44 := fund_mk (params := defArgs st__law_of_ratio) l44 c44 k44
  have F45 := fund_mk (params := defArgs st__law_of_place) l45 c45 k45
  have F46 := fund_mk (params := defArgs st__law_joined_rows) l46 c46 k46
  have F47 := fund_mk (params := defArgs st__law_of_places) l47 c47 k47
  have F48 := fund_mk (params := defArgs st_law) l48 c48 k48
  have ci0 : ClsI K C0 := ⟨⟨pg0, hd0, po0, sa0⟩, ha0, hn, htk, hm0⟩
  have T : Txt K mg (fun n => match n with | 0 => f0 | 1 => f1 | 2 => f2 | 3 => f3 | 4 => f4 | 5 => f5 | 6 => f6 | 7 => f7 | 8 => f8 | 9 => f9 | 10 => f10 | 11 => f11 | 12 => f12 | 13 => f13 | 14 => f14 | 15 => f15 | 16 => f16 | 17 => f17 | 18 => f18 | 19 => f19 | 20 => f20 | 21 => f21 | 22 => f22 | 23 => f23 | 24 => f24 | 25 => f25 | 26 => f26 | 27 => f27 | 28 => f28 | 29 => f29 | 30 => f30 | 31 => f31 | 32 => f32 | 33 => f33 | 34 => f34 | 35 => f35 | 36 => f36 | 37 => f37 | 38 => f38 | 39 => f39 | 40 => f40 | 41 => f41 | 42 => f42 | 43 => f43 | 44 => f44 | 45 => f45 | 46 => f46 | 47 => f47 | _ => fa) (fun n => match n with | 0 => PySem.W.fnOf "is_number" "is_number" (defArgs st_is_number) (defBody st_is_number) (defScope st_is_number) .none kV0 dc0 pm0 an0 cd0 ct0 | 1 => PySem.W.fnOf "common_divisor" "common_divisor" (defArgs st_common_divisor) (defBody st_common_divisor) (defScope st_common_divisor) .none kV1 dc1 pm1 an1 cd1 ct1 | 2 => PySem.W.fnOf "figures_number" "figures_number" (defArgs st_figures_number) (defBody st_figures_number) (defScope st_figures_number) .none kV2 dc2 pm2 an2 cd2 ct2 | 3 => PySem.W.fnOf "signed_number" "signed_number" (defArgs st_signed_number) (defBody st_signed_number) (defScope st_signed_number) .none kV3 dc3 pm3 an3 cd3 ct3 | 4 => PySem.W.fnOf "__init__" "Ratio.__init__" (defArgs st_Ratio___init__) (defBody st_Ratio___init__) (defScope st_Ratio___init__) (.ref T4) kV4 dc4 pm4 an4 cd4 ct4 | 5 => PySem.W.fnOf "top" "Ratio.top" (defArgs st_Ratio_top) (defBody st_Ratio_top) (defScope st_Ratio_top) .none kV5 dc5 pm5 an5 cd5 ct5 | 6 => PySem.W.fnOf "bottom" "Ratio.bottom" (defArgs st_Ratio_bottom) (defBody st_Ratio_bottom) (defScope st_Ratio_bottom) .none kV6 dc6 pm6 an6 cd6 ct6 | 7 => PySem.W.fnOf "__str__" "Ratio.__str__" (defArgs st_Ratio___str__) (defBody st_Ratio___str__) (defScope st_Ratio___str__) .none kV7 dc7 pm7 an7 cd7 ct7 | 8 => PySem.W.fnOf "read" "Ratio.read" (defArgs st_Ratio_read) (defBody st_Ratio_read) (defScope st_Ratio_read) .none kV8 dc8 pm8 an8 cd8 ct8 | 9 => PySem.W.fnOf "is_below" "Ratio.is_below" (defArgs st_Ratio_is_below) (defBody st_Ratio_is_below) (defScope st_Ratio_is_below) .none kV9 dc9 pm9 an9 cd9 ct9 | 10 => PySem.W.fnOf "zero" "zero" (defArgs st_zero) (defBody st_zero) (defScope st_zero) .none kV10 dc10 pm10 an10 cd10 ct10 | 11 => PySem.W.fnOf "unit" "unit" (defArgs st_unit) (defBody st_unit) (defScope st_unit) .none kV11 dc11 pm11 an11 cd11 ct11 | 12 => PySem.W.fnOf "is_point" "is_point" (defArgs st_is_point) (defBody st_is_point) (defScope st_is_point) .none kV12 dc12 pm12 an12 cd12 ct12 | 13 => PySem.W.fnOf "is_side" "is_side" (defArgs st_is_side) (defBody st_is_side) (defScope st_is_side) .none kV13 dc13 pm13 an13 cd13 ct13 | 14 => PySem.W.fnOf "pair_text" "pair_text" (defArgs st_pair_text) (defBody st_pair_text) (defScope st_pair_text) .none kV14 dc14 pm14 an14 cd14 ct14 | 15 => PySem.W.fnOf "side_text" "side_text" (defArgs st_side_text) (defBody st_side_text) (defScope st_side_text) .none kV15 dc15 pm15 an15 cd15 ct15 | 16 => PySem.W.fnOf "place_text" "place_text" (defArgs st_place_text) (defBody st_place_text) (defScope st_place_text) .none kV16 dc16 pm16 an16 cd16 ct16 | 17 => PySem.W.fnOf "pair_in" "pair_in" (defArgs st_pair_in) (defBody st_pair_in) (defScope st_pair_in) .none kV17 dc17 pm17 an17 cd17 ct17 | 18 => PySem.W.fnOf "side_in" "side_in" (defArgs st_side_in) (defBody st_side_in) (defScope st_side_in) .none kV18 dc18 pm18 an18 cd18 ct18 | 19 => PySem.W.fnOf "place_in" "place_in" (defArgs st_place_in) (defBody st_place_in) (defScope st_place_in) .none kV19 dc19 pm19 an19 cd19 ct19 | 20 => PySem.W.fnOf "way_text" "way_text" (defArgs st_way_text) (defBody st_way_text) (defScope st_way_text) .none kV20 dc20 pm20 an20 cd20 ct20 | 21 => PySem.W.fnOf "lines_of" "lines_of" (defArgs st_lines_of) (defBody st_lines_of) (defScope st_lines_of) .none kV21 dc21 pm21 an21 cd21 ct21 | 22 => PySem.W.fnOf "read_way" "read_way" (defArgs st_read_way) (defBody st_read_way) (defScope st_read_way) .none kV22 dc22 pm22 an22 cd22 ct22 | 23 => PySem.W.fnOf "_law_start" "_law_start" (defArgs st__law_start) (defBody st__law_start) (defScope st__law_start) .none kV23 dc23 pm23 an23 cd23 ct23 | 24 => PySem.W.fnOf "_law_pull" "_law_pull" (defArgs st__law_pull) (defBody st__law_pull) (defScope st__law_pull) .none kV24 dc24 pm24 an24 cd24 ct24 | 25 => PySem.W.fnOf "_law_pick" "_law_pick" (defArgs st__law_pick) (defBody st__law_pick) (defScope st__law_pick) .none kV25 dc25 pm25 an25 cd25 ct25 | 26 => PySem.W.fnOf "_law_key" "_law_key" (defArgs st__law_key) (defBody st__law_key) (defScope st__law_key) .none kV26 dc26 pm26 an26 cd26 ct26 | 27 => PySem.W.fnOf "_law_gcd" "_law_gcd" (defArgs st__law_gcd) (defBody st__law_gcd) (defScope st__law_gcd) .none kV27 dc27 pm27 an27 cd27 ct27 | 28 => PySem.W.fnOf "_law_frac" "_law_frac" (defArgs st__law_frac) (defBody st__law_frac) (defScope st__law_frac) .none kV28 dc28 pm28 an28 cd28 ct28 | 29 => PySem.W.fnOf "_law_pair_text" "_law_pair_text" (defArgs st__law_pair_text) (defBody st__law_pair_text) (defScope st__law_pair_text) .none kV29 dc29 pm29 an29 cd29 ct29 | 30 => PySem.W.fnOf "_law_side_text" "_law_side_text" (defArgs st__law_side_text) (defBody st__law_side_text) (defScope st__law_side_text) .none kV30 dc30 pm30 an30 cd30 ct30 | 31 => PySem.W.fnOf "_law_text" "_law_text" (defArgs st__law_text) (defBody st__law_text) (defScope st__law_text) .none kV31 dc31 pm31 an31 cd31 ct31 | 32 => PySem.W.fnOf "_law_spot_text" "_law_spot_text" (defArgs st__law_spot_text) (defBody st__law_spot_text) (defScope st__law_spot_text) .none kV32 dc32 pm32 an32 cd32 ct32 | 33 => PySem.W.fnOf "_law_sort" "_law_sort" (defArgs st__law_sort) (defBody st__law_sort) (defScope st__law_sort) .none kV33 dc33 pm33 an33 cd33 ct33 | 34 => PySem.W.fnOf "_law_same" "_law_same" (defArgs st__law_same) (defBody st__law_same) (defScope st__law_same) .none kV34 dc34 pm34 an34 cd34 ct34 | 35 => PySem.W.fnOf "_law_ratio" "_law_ratio" (defArgs st__law_ratio) (defBody st__law_ratio) (defScope st__law_ratio) .none kV35 dc35 pm35 an35 cd35 ct35 | 36 => PySem.W.fnOf "_law_made_place" "_law_made_place" (defArgs st__law_made_place) (defBody st__law_made_place) (defScope st__law_made_place) .none kV36 dc36 pm36 an36 cd36 ct36 | 37 => PySem.W.fnOf "_law_bent_text" "_law_bent_text" (defArgs st__law_bent_text) (defBody st__law_bent_text) (defScope st__law_bent_text) .none kV37 dc37 pm37 an37 cd37 ct37 | 38 => PySem.W.fnOf "_law_number_in" "_law_number_in" (defArgs st__law_number_in) (defBody st__law_number_in) (defScope st__law_number_in) .none kV38 dc38 pm38 an38 cd38 ct38 | 39 => PySem.W.fnOf "_law_signed" "_law_signed" (defArgs st__law_signed) (defBody st__law_signed) (defScope st__law_signed) .none kV39 dc39 pm39 an39 cd39 ct39 | 40 => PySem.W.fnOf "_law_pair_in" "_law_pair_in" (defArgs st__law_pair_in) (defBody st__law_pair_in) (defScope st__law_pair_in) .none kV40 dc40 pm40 an40 cd40 ct40 | 41 => PySem.W.fnOf "_law_side_in" "_law_side_in" (defArgs st__law_side_in) (defBody st__law_side_in) (defScope st__law_side_in) .none kV41 dc41 pm41 an41 cd41 ct41 | 42 => PySem.W.fnOf "_law_read" "_law_read" (defArgs st__law_read) (defBody st__law_read) (defScope st__law_read) .none kV42 dc42 pm42 an42 cd42 ct42 | 43 => PySem.W.fnOf "_law_spot_in" "_law_spot_in" (defArgs st__law_spot_in) (defBody st__law_spot_in) (defScope st__law_spot_in) .none kV43 dc43 pm43 an43 cd43 ct43 | 44 => PySem.W.fnOf "_law_of_ratio" "_law_of_ratio" (defArgs st__law_of_ratio) (defBody st__law_of_ratio) (defScope st__law_of_ratio) .none kV44 dc44 pm44 an44 cd44 ct44 | 45 => PySem.W.fnOf "_law_of_place" "_law_of_place" (defArgs st__law_of_place) (defBody st__law_of_place) (defScope st__law_of_place) .none kV45 dc45 pm45 an45 cd45 ct45 | 46 => PySem.W.fnOf "_law_joined_rows" "_law_joined_rows" (defArgs st__law_joined_rows) (defBody st__law_joined_rows) (defScope st__law_joined_rows) .none kV46 dc46 pm46 an46 cd46 ct46 | 47 => PySem.W.fnOf "_law_of_places" "_law_of_places" (defArgs st__law_of_places) (defBody st__law_of_places) (defScope st__law_of_places) .none kV47 dc47 pm47 an47 cd47 ct47 | _ => PySem.W.fnOf "law" "law" (defArgs st_law) (defBody st_law) (defScope st_law) .none kV48 dc48 pm48 an48 (.ref cL48) ct48) (fun n => match n with  | _ => C0) :=
    { m_Ratio := PySem.W.mg_of X G aC0,
      ci_Ratio := ci0,
      sf_Ratio := sf0,
      isiC_Ratio := all_cs1 (⟨ci0, kit_same.trans kd_true⟩),
      isiB_Ratio := fun u => match u with | .non => kit_in ic0 ty0 kb0_non kit_ty' | .bl => kit_in ic0 ty0 kb0_bl kit_ty' | .int => kit_in ic0 ty0 kb0_int kit_ty' | .str => kit_in ic0 ty0 kb0_str kit_ty' | .lst => kit_in ic0 ty0 kb0_lst kit_ty' | .tup => kit_in ic0 ty0 kb0_tup kit_ty',
      fm_Ratio := fm0,
      cr_Ratio := ⟨rd0, ga0⟩,
      isi_bool := all_cs1 (⟨ci0, kit_to (by decide +kernel) ki0_bool⟩),
      isi_int := all_cs1 (⟨ci0, kit_to (by decide +kernel) ki0_int⟩),
      isi_list := all_cs1 (⟨ci0, kit_to (by decide +kernel) ki0_list⟩),
      isi_str := all_cs1 (⟨ci0, kit_to (by decide +kernel) ki0_str⟩),
      isi_tuple := all_cs1 (⟨ci0, kit_to (by decide +kernel) ki0_tuple⟩),
      na_Ratio_own_bottom := na_Ratio_own_bottom,
      na_Ratio_own_top := na_Ratio_own_top,
      m_is_number := PySem.W.mg_of X G a0,
      k_is_number := k0,
      F_is_number := F0,
      kb_is_number_1 := kbd_of F0 rfl fun _ _ _ _ _ _ us hl => match us, hl with | [_], _ => rfl,
      m_common_divisor := PySem.W.mg_of X G a1,
      k_common_divisor := k1,
      F_common_divisor := F1,
      kb_common_divisor_2 := kbd_of F1 rfl fun _ _ _ _ _ _ us hl => match us, hl with | [_, _], _ => rfl,
      m_figures_number := PySem.W.mg_of X G a2,
      k_figures_number := k2,
      F_figures_number := F2,
      kb_figures_number_1 := kbd_of F2 rfl fun _ _ _ _ _ _ us hl => match us, hl with | [_], _ => rfl,
      m_signed_number := PySem.W.mg_of X G a3,
      k_signed_number := k3,
      F_signed_number := F3,
      kb_signed_number_1 := kbd_of F3 rfl fun _ _ _ _ _ _ us hl => match us, hl with | [_], _ => rfl,
      F_Ratio___init__ := F4,
      mk_Ratio := ⟨mk0, a4, i4, kc0⟩,
      kb_Ratio___init___2 := kbd_dflt F4 2 [] [0, 1, 2] [(.int 1)] (by simp) (fun _ => .cons .int (.nil)) fun _ _ _ _ _ _ _ us its ws h1 h2 h3 => match us, its, ws, h1, h2, h3 with | [_, _], [_], [], _, _, _ => ⟨_, rfl, rfl⟩,
      kb_Ratio___init___3 := kbd_dflt F4 3 [] [0, 1, 2] [(.int 1)] (by simp) (fun _ => .cons .int (.nil)) fun _ _ _ _ _ _ _ us its ws h1 h2 h3 => match us, its, ws, h1, h2, h3 with | [_, _, _], [_], [], _, _, _ => ⟨_, rfl, rfl⟩,
      F_Ratio_top := F5,
      pp_Ratio_top := ⟨_, a5, g5, t5, _, r5⟩,
      bb_Ratio_top := FunD.bindsN F5 fun _ _ _ _ _ _ us hl => match us, hl with | [_], _ => rfl,
      F_Ratio_bottom := F6,
      pp_Ratio_bottom := ⟨_, a6, g6, t6, _, r6⟩,
      bb_Ratio_bottom := FunD.bindsN F6 fun _ _ _ _ _ _ us hl => match us, hl with | [_], _ => rfl,
      F_Ratio___str__ := F7,
      sp_Ratio___str__ := a7,
      fn_Ratio___str__ := i7,
      kb_Ratio___str___1 := kbd_of F7 rfl fun _ _ _ _ _ _ us hl => match us, hl with | [_], _ => rfl,
      F_Ratio_read := F8,
      cm_Ratio_read := ⟨_, a8, ⟨_, r8⟩, fi8⟩,
      bb_Ratio_read := FunD.bindsN F8 fun _ _ _ _ _ _ us hl => match us, hl with | [_, _], _ => rfl,
      F_Ratio_is_below := F9,
      mt_Ratio_is_below := ⟨a9, i9, k9⟩,
      kb_Ratio_is_below_2 := kbd_of F9 rfl fun _ _ _ _ _ _ us hl => match us, hl with | [_, _], _ => rfl,
      m_zero := PySem.W.mg_of X G a10,
      k_zero := k10,
      F_zero := F10,
      kb_zero_0 := kbd_of F10 rfl fun _ _ _ _ _ _ us hl => match us, hl with | [], _ => rfl,
      m_unit := PySem.W.mg_of X G a11,
      k_unit := k11,
      F_unit := F11,
      kb_unit_0 := kbd_of F11 rfl fun _ _ _ _ _ _ us hl => match us, hl with | [], _ => rfl,
      m_is_point := PySem.W.mg_of X G a12,
      k_is_point := k12,
      F_is_point := F12,
      kb_is_point_1 := kbd_of F12 rfl fun _ _ _ _ _ _ us hl => match us, hl with | [_], _ => rfl,
      m_is_side := PySem.W.mg_of X G a13,
      k_is_side := k13,
      F_is_side := F13,
      kb_is_side_1 := kbd_of F13 rfl fun _ _ _ _ _ _ us hl => match us, hl with | [_], _ => rfl,
      m_pair_text := PySem.W.mg_of X G a14,
      k_pair_text := k14,
      F_pair_text := F14,
      kb_pair_text_1 := kbd_of F14 rfl fun _ _ _ _ _ _ us hl => match us, hl with | [_], _ => rfl,
      m_side_text := PySem.W.mg_of X G a15,
      k_side_text := k15,
      F_side_text := F15,
      kb_side_text_1 := kbd_of F15 rfl fun _ _ _ _ _ _ us hl => match us, hl with | [_], _ => rfl,
      m_place_text := PySem.W.mg_of X G a16,
      k_place_text := k16,
      F_place_text := F16,
      kb_place_text_1 := kbd_of F16 rfl fun _ _ _ _ _ _ us hl => match us, hl with | [_], _ => rfl,
      m_pair_in := PySem.W.mg_of X G a17,
      k_pair_in := k17,
      F_pair_in := F17,
      kb_pair_in_1 := kbd_of F17 rfl fun _ _ _ _ _ _ us hl => match us, hl with | [_], _ => rfl,
      m_side_in := PySem.W.mg_of X G a18,
      k_side_in := k18,
      F_side_in := F18,
      kb_side_in_1 := kbd_of F18 rfl fun _ _ _ _ _ _ us hl => match us, hl with | [_], _ => rfl,
      m_place_in := PySem.W.mg_of X G a19,
      k_place_in := k19,
      F_place_in := F19,
      kb_place_in_1 := kbd_of F19 rfl fun _ _ _ _ _ _ us hl => match us, hl with | [_], _ => rfl,
      m_way_text := PySem.W.mg_of X G a20,
      k_way_text := k20,
      F_way_text := F20,
      kb_way_text_0_places := kbdk_of F20 [.inr 0] fun _ _ _ _ _ _ us ws h1 h2 => match us, ws, h1, h2 with | [], [_], _, _ => rfl,
      kb_way_text_1 := kbd_of F20 rfl fun _ _ _ _ _ _ us hl => match us, hl with | [_], _ => rfl,
      m_lines_of := PySem.W.mg_of X G a21,
      k_lines_of := k21,
      F_lines_of := F21,
      kb_lines_of_1 := kbd_of F21 rfl fun _ _ _ _ _ _ us hl => match us, hl with | [_], _ => rfl,
      m_read_way := PySem.W.mg_of X G a22,
      k_read_way := k22,
      F_read_way := F22,
      kb_read_way_0_text := kbdk_of F22 [.inr 0] fun _ _ _ _ _ _ us ws h1 h2 => match us, ws, h1, h2 with | [], [_], _, _ => rfl,
      kb_read_way_1 := kbd_of F22 rfl fun _ _ _ _ _ _ us hl => match us, hl with | [_], _ => rfl,
      m__law_start := PySem.W.mg_of X G a23,
      k__law_start := k23,
      F__law_start := F23,
      kb__law_start_1 := kbd_of F23 rfl fun _ _ _ _ _ _ us hl => match us, hl with | [_], _ => rfl,
      m__law_pull := PySem.W.mg_of X G a24,
      k__law_pull := k24,
      F__law_pull := F24,
      kb__law_pull_2 := kbd_of F24 rfl fun _ _ _ _ _ _ us hl => match us, hl with | [_, _], _ => rfl,
      m__law_pick := PySem.W.mg_of X G a25,
      k__law_pick := k25,
      F__law_pick := F25,
      kb__law_pick_2 := kbd_of F25 rfl fun _ _ _ _ _ _ us hl => match us, hl with | [_, _], _ => rfl,
      m__law_key := PySem.W.mg_of X G a26,
      k__law_key := k26,
      F__law_key := F26,
      kb__law_key_2 := kbd_of F26 rfl fun _ _ _ _ _ _ us hl => match us, hl with | [_, _], _ => rfl,
      m__law_gcd := PySem.W.mg_of X G a27,
      k__law_gcd := k27,
      F__law_gcd := F27,
      kb__law_gcd_2 := kbd_of F27 rfl fun _ _ _ _ _ _ us hl => match us, hl with | [_, _], _ => rfl,
      m__law_frac := PySem.W.mg_of X G a28,
      k__law_frac := k28,
      F__law_frac := F28,
      kb__law_frac_2 := kbd_of F28 rfl fun _ _ _ _ _ _ us hl => match us, hl with | [_, _], _ => rfl,
      m__law_pair_text := PySem.W.mg_of X G a29,
      k__law_pair_text := k29,
      F__law_pair_text := F29,
      kb__law_pair_text_1 := kbd_of F29 rfl fun _ _ _ _ _ _ us hl => match us, hl with | [_], _ => rfl,
      m__law_side_text := PySem.W.mg_of X G a30,
      k__law_side_text := k30,
      F__law_side_text := F30,
      kb__law_side_text_1 := kbd_of F30 rfl fun _ _ _ _ _ _ us hl => match us, hl with | [_], _ => rfl,
      m__law_text := PySem.W.mg_of X G a31,
      k__law_text := k31,
      F__law_text := F31,
      kb__law_text_1 := kbd_of F31 rfl fun _ _ _ _ _ _ us hl => match us, hl with | [_], _ => rfl,
      m__law_spot_text := PySem.W.mg_of X G a32,
      k__law_spot_text := k32,
      F__law_spot_text := F32,
      kb__law_spot_text_1 := kbd_of F32 rfl fun _ _ _ _ _ _ us hl => match us, hl with | [_], _ => rfl,
      m__law_sort := PySem.W.mg_of X G a33,
      k__law_sort := k33,
      F__law_sort := F33,
      kb__law_sort_1 := kbd_of F33 rfl fun _ _ _ _ _ _ us hl => match us, hl with | [_], _ => rfl,
      m__law_same := PySem.W.mg_of X G a34,
      k__law_same := k34,
      F__law_same := F34,
      kb__law_same_2 := kbd_of F34 rfl fun _ _ _ _ _ _ us hl => match us, hl with | [_, _], _ => rfl,
      m__law_ratio := PySem.W.mg_of X G a35,
      k__law_ratio := k35,
      F__law_ratio := F35,
      kb__law_ratio_1 := kbd_of F35 rfl fun _ _ _ _ _ _ us hl => match us, hl with | [_], _ => rfl,
      m__law_made_place := PySem.W.mg_of X G a36,
      k__law_made_place := k36,
      F__law_made_place := F36,
      kb__law_made_place_1 := kbd_of F36 rfl fun _ _ _ _ _ _ us hl => match us, hl with | [_], _ => rfl,
      m__law_bent_text := PySem.W.mg_of X G a37,
      k__law_bent_text := k37,
      F__law_bent_text := F37,
      kb__law_bent_text_2 := kbd_of F37 rfl fun _ _ _ _ _ _ us hl => match us, hl with | [_, _], _ => rfl,
      m__law_number_in := PySem.W.mg_of X G a38,
      k__law_number_in := k38,
      F__law_number_in := F38,
      kb__law_number_in_1 := kbd_of F38 rfl fun _ _ _ _ _ _ us hl => match us, hl with | [_], _ => rfl,
      m__law_signed := PySem.W.mg_of X G a39,
      k__law_signed := k39,
      F__law_signed := F39,
      kb__law_signed_1 := kbd_of F39 rfl fun _ _ _ _ _ _ us hl => match us, hl with | [_], _ => rfl,
      m__law_pair_in := PySem.W.mg_of X G a40,
      k__law_pair_in := k40,
      F__law_pair_in := F40,
      kb__law_pair_in_1 := kbd_of F40 rfl fun _ _ _ _ _ _ us hl => match us, hl with | [_], _ => rfl,
      m__law_side_in := PySem.W.mg_of X G a41,
      k__law_side_in := k41,
      F__law_side_in := F41,
      kb__law_side_in_1 := kbd_of F41 rfl fun _ _ _ _ _ _ us hl => match us, hl with | [_], _ => rfl,
      m__law_read := PySem.W.mg_of X G a42,
      k__law_read := k42,
      F__law_read := F42,
      kb__law_read_1 := kbd_of F42 rfl fun _ _ _ _ _ _ us hl => match us, hl with | [_], _ => rfl,
      m__law_spot_in := PySem.W.mg_of X G a43,
      k__law_spot_in := k43,
      F__law_spot_in := F43,
      kb__law_spot_in_1 := kbd_of F43 rfl fun _ _ _ _ _ _ us hl => match us, hl with | [_], _ => rfl,
      m__law_of_ratio := PySem.W.mg_of X G a44,
      k__law_of_ratio := k44,
      F__law_of_ratio := F44,
      kb__law_of_ratio_1 := kbd_of F44 rfl fun _ _ _ _ _ _ us hl => match us, hl with | [_], _ => rfl,
      m__law_of_place := PySem.W.mg_of X G a45,
      k__law_of_place := k45,
      F__law_of_place := F45,
      kb__law_of_place_1 := kbd_of F45 rfl fun _ _ _ _ _ _ us hl => match us, hl with | [_], _ => rfl,
      m__law_joined_rows := PySem.W.mg_of X G a46,
      k__law_joined_rows := k46,
      F__law_joined_rows := F46,
      kb__law_joined_rows_1 := kbd_of F46 rfl fun _ _ _ _ _ _ us hl => match us, hl with | [_], _ => rfl,
      m__law_of_places := PySem.W.mg_of X G a47,
      k__law_of_places := k47,
      F__law_of_places := F47,
      kb__law_of_places_1 := kbd_of F47 rfl fun _ _ _ _ _ _ us hl => match us, hl with | [_], _ => rfl,
      m_law := PySem.W.mg_of X G a48,
      k_law := k48,
      F_law := F48,
      b_abs := PySem.W.mg_none_of X G b_abs,
      b_all := PySem.W.mg_none_of X G b_all,
      b_bool := PySem.W.mg_none_of X G b_bool,
      b_enumerate := PySem.W.mg_none_of X G b_enumerate,
      b_int := PySem.W.mg_none_of X G b_int,
      b_isinstance := PySem.W.mg_none_of X G b_isinstance,
      b_len := PySem.W.mg_none_of X G b_len,
      b_list := PySem.W.mg_none_of X G b_list,
      b_range := PySem.W.mg_none_of X G b_range,
      b_str := PySem.W.mg_none_of X G b_str,
      b_tuple := PySem.W.mg_none_of X G b_tuple,
      b_zip := PySem.W.mg_none_of X G b_zip,
      dg := dgX,
      c_FARTHEST := ⟨_, PySem.W.mg_of X G c_FARTHEST, .int⟩,
      c_FIGURES := ⟨_, PySem.W.mg_of X G c_FIGURES, .str⟩,
      c_LONGEST := ⟨_, PySem.W.mg_of X G c_LONGEST, .int⟩,
      c_LONGEST_PAIR := ⟨_, PySem.W.mg_of X G c_LONGEST_PAIR, .int⟩ }
  have TX0 : OexC K CX0 := ⟨⟨_, _, _, _, _, _, _, _, _, _, _, _, _, _, _, lX0, rvX0⟩, saX0, exX0, tyX0, kX0⟩
  have RX0 : ∀ base : Heap, RaiseF l.prog w K mg base "InvalidRatio" CX0 1 (XI.fl1 "InvalidRatio" "given") := fun base => raise_InvalidRatio (PySem.W.mg_of X G aX0) TX0 iX0 tiX0 lfX0 lcX0 h2X0 hfX0 lccX0 cc'X0 tpX ⟨TX0, PySem.W.mg_none_of X G suX, opX, hDX0, CDX0, alX0, VEX0⟩ no_givenX0 no_codeX0
  have TX1 : OexC K CX1 := ⟨⟨_, _, _, _, _, _, _, _, _, _, _, _, _, _, _, lX1, rvX1⟩, saX1, exX1, tyX1, kX1⟩
  have RX1 : ∀ base : Heap, RaiseF l.prog w K mg base "InvalidText" CX1 1 (XI.fl1 "InvalidText" "line") := fun base => raise_InvalidText (PySem.W.mg_of X G aX1) TX1 iX1 tiX1 lfX1 lcX1 h2X1 hfX1 lccX1 cc'X1 tpX ⟨TX1, PySem.W.mg_none_of X G suX, opX, hDX1, CDX1, alX1, VEX1⟩ no_lineX1 no_codeX1
  refine ⟨PySem.W.fnOf "law" "law" (defArgs st_law) (defBody st_law) (defScope st_law) .none kV48 dc48 pm48 an48 (.ref cL48) ct48, [(cL48, PL48)], by simp, rfl, (by simp only [List.forall_mem_cons, List.not_mem_nil, false_imp_iff, implies_true, and_true]; exact ⟨nPL48, hdL48, "law", _, _, _, eL48, deL48, vsL48, sL48, rc48, PySem.W.mg_of X G a48, l48, rfl, rfl, lcL48, pL48⟩), fun s v => .of_eq rfl, fun base _ _ hT => ?_⟩
  have TB0 := hT (cL48, PL48) (by simp)
  have LK0 : DefL K "law" "law" (defArgs st_law) (defBody st_law) (defScope st_law) fa cL48 _ := ⟨⟨_, _, _, _, _, _, _, _, _, rfl, l48⟩, c48⟩
  have TF := line_mk (P := l.prog) (w := w) (base := base) (PySem.W.mg_of X G aT) (PySem.W.mg_of X G aX1) kT lT cT
  have GL : GoodL K (.ref CX1) CX1 := ⟨xfB_ok xfX1, xmX1, no_lineX1⟩
  exact ok_law T (RX0 base) xmX0 (RX1 base) TF TB0 GL LK0
end W58
open PySem PySem.W PyProof.Rows
set_option maxRecDepth 100000 in
set_option maxHeartbeats 0 in
theorem PySem.Challenge.cw_gustfloor_k58_texts_of_ways_holds : PySem.Challenge.rw_gustfloor_k58_texts_of_ways.Holds := by
  w_on; o_law; k_head; (case hw => w_witness2)
  k_fill
  refine DL.walk_DTs (l := PySem.Challenge.rw_gustfloor_k58_texts_of_ways) (k := 45) (φ := W58.ph_law) (x := "_law_script") ["law" ++ ".<locals>." ++ "<lambda>"] rfl rfl ⟨rfl, by decide, by decide⟩ (fun Ps ns M kk xx h1 h2 h3 h4 h5 h6 h7 => W58.ph_law_of h1 h4 h5 h7) (fun w h Y => PySem.W.km_in_of Y) ?F
  case F =>
    intro w mg fa h KX G hmg
    refine' W58.all_mk KX G hmg ?aC0 ?pg0 ?hd0 ?po0 ?sa0 ?ha0 ?hm0 ?ic0 ?ty0 ?sf0 ?kb0_non ?kb0_bl ?kb0_int ?kb0_str ?kb0_lst ?kb0_tup ?ki0_bool ?ki0_int ?ki0_list ?ki0_str ?ki0_tuple ?fm0 ?rd0 ?ga0 ?hn ?htk ?na_Ratio_own_bottom ?na_Ratio_own_top ?a0 ?l0 ?c0 ?k0 ?a1 ?l1 ?c1 ?k1 ?a2 ?l2 ?c2 ?k2 ?a3 ?l3 ?c3 ?k3 ?a4 ?i4 ?l4 ?lT4 ?c4 ?k4 ?a5 ?g5 ?t5 ?r5 ?l5 ?c5 ?k5 ?a6 ?g6 ?t6 ?r6 ?l6 ?c6 ?k6 ?a7 ?i7 ?l7 ?c7 ?k7 ?a8 ?r8 ?fi8 ?l8 ?c8 ?k8 ?a9 ?i9 ?l9 ?c9 ?k9 ?a10 ?l10 ?c10 ?k10 ?a11 ?l11 ?c11 ?k11 ?a12 ?l12 ?c12 ?k12 ?a13 ?l13 ?c13 ?k13 ?a14 ?l14 ?c14 ?k14 ?a15 ?l15 ?c15 ?k15 ?a16 ?l16 ?c16 ?k16 ?a17 ?l17 ?c17 ?k17 ?a18 ?l18 ?c18 ?k18 ?a19 ?l19 ?c19 ?k19 ?a20 ?l20 ?c20 ?k20 ?a21 ?l21 ?c21 ?k21 ?a22 ?l22 ?c22 ?k22 ?a23 ?l23 ?c23 ?k23 ?a24 ?l24 ?c24 ?k24 ?a25 ?l25 ?c25 ?k25 ?a26 ?l26 ?c26 ?k26 ?a27 ?l27 ?c27 ?k27 ?a28 ?l28 ?c28 ?k28 ?a29 ?l29 ?c29 ?k29 ?a30 ?l30 ?c30 ?k30 ?a31 ?l31 ?c31 ?k31 ?a32 ?l32 ?c32 ?k32 ?a33 ?l33 ?c33 ?k33 ?a34 ?l34 ?c34 ?k34 ?a35 ?l35 ?c35 ?k35 ?a36 ?l36 ?c36 ?k36 ?a37 ?l37 ?c37 ?k37 ?a38 ?l38 ?c38 ?k38 ?a39 ?l39 ?c39 ?k39 ?a40 ?l40 ?c40 ?k40 ?a41 ?l41 ?c41 ?k41 ?a42 ?l42 ?c42 ?k42 ?a43 ?l43 ?c43 ?k43 ?a44 ?l44 ?c44 ?k44 ?a45 ?l45 ?c45 ?k45 ?a46 ?l46 ?c46 ?k46 ?a47 ?l47 ?c47 ?k47 ?a48 ?l48 ?c48 ?k48 ?mk0 ?kc0 ?dgX ?b_abs ?b_all ?b_bool ?b_enumerate ?b_int ?b_isinstance ?b_len ?b_list ?b_range ?b_str ?b_tuple ?b_zip ?c_FARTHEST ?c_FIGURES ?c_LONGEST ?c_LONGEST_PAIR ?lcL48 ?pL48 ?nPL48 ?hdL48 ?rc48 ?aT ?kT ?lT ?cT ?suX ?opX ?tpX ?aX0 ?lX0 ?rvX0 ?saX0 ?exX0 ?tyX0 ?kX0 ?iX0 ?tiX0 ?lfX0 ?lcX0 ?h2X0 ?hfX0 ?lccX0 ?cc'X0 ?hDX0 ?CDX0 ?alX0 ?VEX0 ?xfX0 ?no_codeX0 ?no_givenX0 ?no_lineX0 ?no_indexX0 ?no_atX0 ?no_nameX0 ?no_sideX0 ?no_mostX0 ?no_oneX0 ?no_otherX0 ?no_valueX0 ?no_cornerX0 ?xmX0 ?aX1 ?lX1 ?rvX1 ?saX1 ?exX1 ?tyX1 ?kX1 ?iX1 ?tiX1 ?lfX1 ?lcX1 ?h2X1 ?hfX1 ?lccX1 ?cc'X1 ?hDX1 ?CDX1 ?alX1 ?VEX1 ?xfX1 ?no_codeX1 ?no_givenX1 ?no_lineX1 ?no_indexX1 ?no_atX1 ?no_nameX1 ?no_sideX1 ?no_mostX1 ?no_oneX1 ?no_otherX1 ?no_valueX1 ?no_cornerX1 ?xmX1
    (case aC0 => k_is)
    (case pg0 => k_is)
    (case hd0 => k_is)
    (case po0 => k_is)
    (case sa0 => k_is)
    (case ha0 => k_is)
    (case hm0 => k_is)
    (case ic0 => k_is)
    (case ty0 => k_is)
    (case sf0 => k_is)
    (case kb0_non => k_is)
    (case kb0_bl => k_is)
    (case kb0_int => k_is)
    (case kb0_str => k_is)
    (case kb0_lst => k_is)
    (case kb0_tup => k_is)
    (case ki0_bool => k_is)
    (case ki0_int => k_is)
    (case ki0_list => k_is)
    (case ki0_str => k_is)
    (case ki0_tuple => k_is)
    (case fm0 => k_is)
    (case rd0 => k_is)
    (case ga0 => k_is)
    (case hn => k_is)
    (case htk => k_is)
    (case na_Ratio_own_bottom => k_is)
    (case na_Ratio_own_top => k_is)
    (case a0 => k_is)
    (case l0 => k_is)
    (case c0 => k_is)
    (case k0 => k_is)
    (case a1 => k_is)
    (case l1 => k_is)
    (case c1 => k_is)
    (case k1 => k_is)
    (case a2 => k_is)
    (case l2 => k_is)
    (case c2 => k_is)
    (case k2 => k_is)
    (case a3 => k_is)
    (case l3 => k_is)
    (case c3 => k_is)
    (case k3 => k_is)
    (case a4 => k_is)
    (case i4 => k_is)
    (case l4 => k_is)
    (case lT4 => k_is)
    (case c4 => k_is)
    (case k4 => k_is)
    (case a5 => k_is)
    (case g5 => k_is)
    (case t5 => k_is)
    (case r5 => k_is)
    (case l5 => k_is)
    (case c5 => k_is)
    (case k5 => k_is)
    (case a6 => k_is)
    (case g6 => k_is)
    (case t6 => k_is)
    (case r6 => k_is)
    (case l6 => k_is)
    (case c6 => k_is)
    (case k6 => k_is)
    (case a7 => k_is)
    (case i7 => k_is)
    (case l7 => k_is)
    (case c7 => k_is)
    (case k7 => k_is)
    (case a8 => k_is)
    (case r8 => k_is)
    (case fi8 => k_is)
    (case l8 => k_is)
    (case c8 => k_is)
    (case k8 => k_is)
    (case a9 => k_is)
    (case i9 => k_is)
    (case l9 => k_is)
    (case c9 => k_is)
    (case k9 => k_is)
    (case a10 => k_is)
    (case l10 => k_is)
    (case c10 => k_is)
    (case k10 => k_is)
    (case a11 => k_is)
    (case l11 => k_is)
    (case c11 => k_is)
    (case k11 => k_is)
    (case a12 => k_is)
    (case l12 => k_is)
    (case c12 => k_is)
    (case k12 => k_is)
    (case a13 => k_is)
    (case l13 => k_is)
    (case c13 => k_is)
    (case k13 => k_is)
    (case a14 => k_is)
    (case l14 => k_is)
    (case c14 => k_is)
    (case k14 => k_is)
    (case a15 => k_is)
    (case l15 => k_is)
    (case c15 => k_is)
    (case k15 => k_is)
    (case a16 => k_is)
    (case l16 => k_is)
    (case c16 => k_is)
    (case k16 => k_is)
    (case a17 => k_is)
    (case l17 => k_is)
    (case c17 => k_is)
    (case k17 => k_is)
    (case a18 => k_is)
    (case l18 => k_is)
    (case c18 => k_is)
    (case k18 => k_is)
    (case a19 => k_is)
    (case l19 => k_is)
    (case c19 => k_is)
    (case k19 => k_is)
    (case a20 => k_is)
    (case l20 => k_is)
    (case c20 => k_is)
    (case k20 => k_is)
    (case a21 => k_is)
    (case l21 => k_is)
    (case c21 => k_is)
    (case k21 => k_is)
    (case a22 => k_is)
    (case l22 => k_is)
    (case c22 => k_is)
    (case k22 => k_is)
    (case a23 => k_is)
    (case l23 => k_is)
    (case c23 => k_is)
    (case k23 => k_is)
    (case a24 => k_is)
    (case l24 => k_is)
    (case c24 => k_is)
    (case k24 => k_is)
    (case a25 => k_is)
    (case l25 => k_is)
    (case c25 => k_is)
    (case k25 => k_is)
    (case a26 => k_is)
    (case l26 => k_is)
    (case c26 => k_is)
    (case k26 => k_is)
    (case a27 => k_is)
    (case l27 => k_is)
    (case c27 => k_is)
    (case k27 => k_is)
    (case a28 => k_is)
    (case l28 => k_is)
    (case c28 => k_is)
    (case k28 => k_is)
    (case a29 => k_is)
    (case l29 => k_is)
    (case c29 => k_is)
    (case k29 => k_is)
    (case a30 => k_is)
    (case l30 => k_is)
    (case c30 => k_is)
    (case k30 => k_is)
    (case a31 => k_is)
    (case l31 => k_is)
    (case c31 => k_is)
    (case k31 => k_is)
    (case a32 => k_is)
    (case l32 => k_is)
    (case c32 => k_is)
    (case k32 => k_is)
    (case a33 => k_is)
    (case l33 => k_is)
    (case c33 => k_is)
    (case k33 => k_is)
    (case a34 => k_is)
    (case l34 => k_is)
    (case c34 => k_is)
    (case k34 => k_is)
    (case a35 => k_is)
    (case l35 => k_is)
    (case c35 => k_is)
    (case k35 => k_is)
    (case a36 => k_is)
    (case l36 => k_is)
    (case c36 => k_is)
    (case k36 => k_is)
    (case a37 => k_is)
    (case l37 => k_is)
    (case c37 => k_is)
    (case k37 => k_is)
    (case a38 => k_is)
    (case l38 => k_is)
    (case c38 => k_is)
    (case k38 => k_is)
    (case a39 => k_is)
    (case l39 => k_is)
    (case c39 => k_is)
    (case k39 => k_is)
    (case a40 => k_is)
    (case l40 => k_is)
    (case c40 => k_is)
    (case k40 => k_is)
    (case a41 => k_is)
    (case l41 => k_is)
    (case c41 => k_is)
    (case k41 => k_is)
    (case a42 => k_is)
    (case l42 => k_is)
    (case c42 => k_is)
    (case k42 => k_is)
    (case a43 => k_is)
    (case l43 => k_is)
    (case c43 => k_is)
    (case k43 => k_is)
    (case a44 => k_is)
    (case l44 => k_is)
    (case c44 => k_is)
    (case k44 => k_is)
    (case a45 => k_is)
    (case l45 => k_is)
    (case c45 => k_is)
    (case k45 => k_is)
    (case a46 => k_is)
    (case l46 => k_is)
    (case c46 => k_is)
    (case k46 => k_is)
    (case a47 => k_is)
    (case l47 => k_is)
    (case c47 => k_is)
    (case k47 => k_is)
    (case a48 => k_is)
    (case l48 => k_is)
    (case c48 => k_is)
    (case k48 => k_is)
    (case mk0 => k_is)
    (case kc0 => k_is)
    (case dgX => k_is)
    (case b_abs => k_is)
    (case b_all => k_is)
    (case b_bool => k_is)
    (case b_enumerate => k_is)
    (case b_int => k_is)
    (case b_isinstance => k_is)
    (case b_len => k_is)
    (case b_list => k_is)
    (case b_range => k_is)
    (case b_str => k_is)
    (case b_tuple => k_is)
    (case b_zip => k_is)
    (case c_FARTHEST => k_is)
    (case c_FIGURES => k_is)
    (case c_LONGEST => k_is)
    (case c_LONGEST_PAIR => k_is)
    (case lcL48 => k_is)
    (case pL48 => exact rfl)
    (case nPL48 => kernel_rfl)
    (case hdL48 => kernel_rfl)
    (case rc48 => first | decide +kernel | kernel_rfl)
    (case aT => k_is)
    (case kT => k_is)
    (case lT => k_is)
    (case cT => k_is)
    (case suX => k_is)
    (case opX => first | k_is | kernel_rfl)
    (case tpX => kernel_rfl)
    (case aX0 => k_is)
    (case lX0 => k_is)
    (case rvX0 => exact rfl)
    (case saX0 => k_is)
    (case exX0 => k_is)
    (case tyX0 => k_is)
    (case kX0 => k_is)
    (case iX0 => k_is)
    (case tiX0 => k_is)
    (case lfX0 => k_is)
    (case lcX0 => k_is)
    (case h2X0 => exact rfl)
    (case hfX0 => kernel_rfl)
    (case lccX0 => k_is)
    (case cc'X0 => k_is)
    (case hDX0 => kernel_rfl)
    (case CDX0 => k_is)
    (case alX0 => kernel_rfl)
    (case VEX0 => k_is)
    (case xfX0 => kernel_rfl)
    (case no_codeX0 => k_is)
    (case no_givenX0 => k_is)
    (case no_lineX0 => k_is)
    (case no_indexX0 => k_is)
    (case no_atX0 => k_is)
    (case no_nameX0 => k_is)
    (case no_sideX0 => k_is)
    (case no_mostX0 => k_is)
    (case no_oneX0 => k_is)
    (case no_otherX0 => k_is)
    (case no_valueX0 => k_is)
    (case no_cornerX0 => k_is)
    (case xmX0 => kernel_rfl)
    (case aX1 => k_is)
    (case lX1 => k_is)
    (case rvX1 => exact rfl)
    (case saX1 => k_is)
    (case exX1 => k_is)
    (case tyX1 => k_is)
    (case kX1 => k_is)
    (case iX1 => k_is)
    (case tiX1 => k_is)
    (case lfX1 => k_is)
    (case lcX1 => k_is)
    (case h2X1 => exact rfl)
    (case hfX1 => kernel_rfl)
    (case lccX1 => k_is)
    (case cc'X1 => k_is)
    (case hDX1 => kernel_rfl)
    (case CDX1 => k_is)
    (case alX1 => kernel_rfl)
    (case VEX1 => k_is)
    (case xfX1 => kernel_rfl)
    (case no_codeX1 => k_is)
    (case no_givenX1 => k_is)
    (case no_lineX1 => k_is)
    (case no_indexX1 => k_is)
    (case no_atX1 => k_is)
    (case no_nameX1 => k_is)
    (case no_sideX1 => k_is)
    (case no_mostX1 => k_is)
    (case no_oneX1 => k_is)
    (case no_otherX1 => k_is)
    (case no_valueX1 => k_is)
    (case no_cornerX1 => k_is)
    (case xmX1 => kernel_rfl)
#print axioms PySem.Challenge.cw_gustfloor_k58_texts_of_ways_holds
