import PyProof.Rows.All
import Wide.All
import OpenK.AllK
import Wide.FinOn
import HandS.ForMost
import HandS.IsInst
import HandS.Zip
import HandS.Wide
import HandS.Defaults
import HandS.OwnEq
import HandS.EndBits
import HandS.Flow
import HandS.ExcInit
import HandS.Style
import HandS.Lambda
import KE.KeyNested
import KE.KDictKeyed
import HandS.MakeKw
import HandS.MakeKwOnly
import HandS.Property
import HandS.ForExc
import HandS.TupAny
import HandS.More
import KE.KOpsOwn
import KE.KCallOwn
import HandS.SlotsOwn
import HandS.ClsMeth
import HandS.Star
import PyProof.NeKinds
import HandS.TryMany
import HandS.ExcField
import KE.KExcSuper
import HandS.HotCalls
import KE.KTryMore
import HandS.EndTab
import HandS.EndOwn
import KE.KNestM
import KE.KExcInit
import KE.KExcIs
import KE.KDflt
import KE.KFmtOwn
import HandS.FStr
import HandS.Text
import PyProof.Rows.StrOr
import PyProof.StrOps2
import HandS.TryOnly
import HandS.Deep
import KE.DataCmp
import HandS.Iter
import KE.GoesEnum
import HandS.NoneIn
import PySem.Challenge.RW_gustfloor_k12_tiles_refused
import KE.KStateDown
import HandS.Head0
import HandS.Head1
import HandS.Head2
import HandS.HeadHook1
import HandS.HeadHook2
import HandS.HeadEnd
set_option Elab.async false
set_option linter.all false
set_option maxRecDepth 100000
set_option maxHeartbeats 2000000
namespace DL
open PySem PySem.Spec PyProof.Rows L2
/-- data as trees; cel a: the changing object at a -/
inductive D where
  | non | bl (b : Bool) | int (i : Int) | str (x : Str) | lst (ds : List D) | tup (ds : List D) | obj (C : Addr) (fs : List (Str × D)) | cel (a : Addr) | scr (ns : List Int) | exc (a dd : Addr) (fs : List (Str × D)) | lam (f c : Addr) (q : Str) (P : Heap → Prop) (t : Option Addr) | err (C : Addr) (fs : List (Str × D)) | dic (w : World) (es : List (NestedKey × D))
mutual
/-- a key of a dict, as data -/
def kD : NestedKey → D
  | .none => .non
  | .num i => .int i
  | .text x => .str x
  | .tup ks => .tup (kDs ks)
def kDs : List NestedKey → List D
  | [] => []
  | k :: ks => kD k :: kDs ks
end
/-- a dict whose keys are tuples of keys, by its own object: keys, where they stand, values -/
def DicO (w : World) (a : Addr) (kvs : List (NestedKey × Addr × V)) : HO := .ext fun h => kvs.length ≤ sizeLine ∧ (a == sysModules) = false ∧ ∃ xs : List (NestedKey × Addr × Value),
  Paired (fun (p : NestedKey × Addr × V) (q : NestedKey × Addr × Value) => p.1 = q.1 ∧ p.2.1 = q.2.1 ∧ RelV p.2.2 q.2.2) kvs xs ∧
  ∃ o es ep, h.get? a = some o ∧ o.ExactDict ∧ o.data = .dict es ep ∧ es.toList = xs.map (fun x => (⟨x.1.hash w, .ref x.2.1, x.2.2⟩ : DictEntry)) ∧ (xs.map (·.1)).Nodup
mutual
inductive Rep (K : PySem.W.Frag) (G : Hp) : V → D → Prop where
  | non : Rep K G .non .non
  | bl {b : Bool} : Rep K G (.bl b) (.bl b)
  | int {i : Int} : Rep K G (.int i) (.int i)
  | str {x : Str} : Rep K G (.str x) (.str x)
  | lst {a : Addr} {vs : List V} {ds : List D} (h : G a = some (.lst vs)) (r : Reps K G vs ds) : Rep K G (.ref a) (.lst ds)
  | tup {a : Addr} {vs : List V} {ds : List D} (h : SqT K G a vs) (r : Reps K G vs ds) : Rep K G (.ref a) (.tup ds)
  | obj {a C dx : Addr} {fvs : List (Str × V)} {fs : List (Str × D)} (h : G a = some (.ins C dx fvs)) (r : FRep K G fvs fs) : Rep K G (.ref a) (.obj C fs)
  | cel {a : Addr} : Rep K G (.ref a) (.cel a)
  | scr {a : Addr} {ns : List Int} (h : SqL K G a (ns.map V.int)) : Rep K G (.ref a) (.scr ns)
  | exc {a dd : Addr} {fvs : List (Str × V)} {fs : List (Str × D)} (h : G dd = some (.xd fvs)) (r : FRep K G fvs fs) : Rep K G (.ref a) (.exc a dd fs)
  | lam {f c : Addr} {q : Str} {P : Heap → Prop} {t : Option Addr} (h : G f = some (.ext P)) (hc : G c = some (LamX.CodeO c q)) (ht : ∀ b, t = some b → G b = some (.tup [.int 0])) : Rep K G (.ref f) (.lam f c q P t)
  | err {a dd C : Addr} {fvs : List (Str × V)} {fs : List (Str × D)} (h : G a = some (exo a C (some dd))) (hd : G dd = some (exd dd fvs)) (r : FRep K G fvs fs) : Rep K G (.ref a) (.err C fs)
  | dic {a : Addr} {w : World} {kvs : List (NestedKey × Addr × V)} {es : List (NestedKey × D)} (h : G a = some (DicO w a kvs)) (r : DRep K G kvs es) : Rep K G (.ref a) (.dic w es)
inductive Reps (K : PySem.W.Frag) (G : Hp) : List V → List D → Prop where
  | nil : Reps K G [] []
  | cons {v : V} {d : D} {vs : List V} {ds : List D} (h : Rep K G v d) (r : Reps K G vs ds) : Reps K G (v :: vs) (d :: ds)
inductive FRep (K : PySem.W.Frag) (G : Hp) : List (Str × V) → List (Str × D) → Prop where
  | nil : FRep K G [] []
  | cons {f : Str} {v : V} {d : D} {vs : List (Str × V)} {ds : List (Str × D)} (h : Rep K G v d) (r : FRep K G vs ds) : FRep K G ((f, v) :: vs) ((f, d) :: ds)
inductive DRep (K : PySem.W.Frag) (G : Hp) : List (NestedKey × Addr × V) → List (NestedKey × D) → Prop where
  | nil : DRep K G [] []
  | cons {k : NestedKey} {b : Addr} {v : V} {d : D} {vs : List (NestedKey × Addr × V)} {ds : List (NestedKey × D)} (hz : k.depth ≤ 8) (hk : Rep K G (.ref b) (kD k)) (h : Rep K G v d) (r : DRep K G vs ds) : DRep K G ((k, b, v) :: vs) ((k, d) :: ds)
end
theorem Same.seqL {K : PySem.W.Frag} {H H' : Hp} {a : Addr} {xs : List V} (e : Same H H') (h : SqL K H a xs) : SqL K H' a xs := by
  rcases h with (h | ⟨o, h⟩) | h
  · exact .inl (.inl (e _ _ h))
  · exact .inl (.inr ⟨o, e _ _ h⟩)
  · exact .inr h
theorem Same.seqT {K : PySem.W.Frag} {H H' : Hp} {a : Addr} {xs : List V} (e : Same H H') (h : SqT K H a xs) : SqT K H' a xs := by
  rcases h with (h | ⟨o, h⟩) | h
  · exact .inl (.inl (e _ _ h))
  · exact .inl (.inr ⟨o, e _ _ h⟩)
  · exact .inr h
section
variable {K : PySem.W.Frag} {G G' : Hp}
mutual
theorem Rep.same (s : Same G G') : ∀ {v : V} {d : D}, Rep K G v d → Rep K G' v d
  | _, _, .non => .non
  | _, _, .bl => .bl
  | _, _, .int => .int
  | _, _, .str => .str
  | _, _, .lst h r => .lst (s _ _ h) (Reps.same s r)
  | _, _, .tup h r => .tup (Same.seqT s h) (Reps.same s r)
  | _, _, .obj h r => .obj (s _ _ h) (FRep.same s r)
  | _, _, .cel => .cel
  | _, _, .scr h => .scr (Same.seqL s h)
  | _, _, .exc h r => .exc (s _ _ h) (FRep.same s r)
  | _, _, .lam h hc ht => .lam (s _ _ h) (s _ _ hc) (fun b e => s _ _ (ht b e))
  | _, _, .err h hd r => .err (s _ _ h) (s _ _ hd) (FRep.same s r)
  | _, _, .dic h r => .dic (s _ _ h) (DRep.same s r)
theorem Reps.same (s : Same G G') : ∀ {v : List V} {d : List D}, Reps K G v d → Reps K G' v d
  | _, _, .nil => .nil
  | _, _, .cons h r => .cons (Rep.same s h) (Reps.same s r)
theorem FRep.same (s : Same G G') : ∀ {v : List (Str × V)} {d : List (Str × D)}, FRep K G v d → FRep K G' v d
  | _, _, .nil => .nil
  | _, _, .cons h r => .cons (Rep.same s h) (FRep.same s r)
theorem DRep.same (s : Same G G') : ∀ {v : List (NestedKey × Addr × V)} {d : List (NestedKey × D)}, DRep K G v d → DRep K G' v d
  | _, _, .nil => .nil
  | _, _, .cons hz hk h r => .cons hz (Rep.same s hk) (Rep.same s h) (DRep.same s r)
end
theorem Reps.length : ∀ {vs : List V} {ds : List D}, Reps K G vs ds → vs.length = ds.length
  | _, _, .nil => rfl
  | _, _, .cons _ r => by rw [List.length_cons, List.length_cons, Reps.length r]
theorem Reps.get : ∀ {vs : List V} {ds : List D} {i : Nat} {d : D}, Reps K G vs ds → ds[i]? = some d → ∃ v, vs[i]? = some v ∧ Rep K G v d
  | _, _, _, _, .nil, e => by simp at e
  | _, _, 0, _, .cons h _, e => by simp at e; subst e; exact ⟨_, rfl, h⟩
  | _, _, i + 1, d, .cons _ r, e => by
    obtain ⟨v, h1, h2⟩ := Reps.get (i := i) (d := d) r (by simpa using e)
    exact ⟨v, by simpa using h1, h2⟩
theorem Reps.getV : ∀ {vs : List V} {ds : List D} {i : Nat} {v : V}, Reps K G vs ds → vs[i]? = some v → ∃ d, ds[i]? = some d ∧ Rep K G v d
  | _, _, _, _, .nil, e => by simp at e
  | _, _, 0, _, .cons h _, e => by simp at e; subst e; exact ⟨_, rfl, h⟩
  | _, _, i + 1, d, .cons _ r, e => by
    obtain ⟨v, h1, h2⟩ := Reps.getV (i := i) (v := d) r (by simpa using e)
    exact ⟨v, by simpa using h1, h2⟩
theorem Reps.append : ∀ {xs ys : List V} {ds es : List D}, Reps K G xs ds → Reps K G ys es → Reps K G (xs ++ ys) (ds ++ es)
  | _, _, _, _, .nil, s => s
  | _, _, _, _, .cons r t, s => .cons r (Reps.append t s)
theorem Reps.take : ∀ {xs : List V} {ds : List D} (n : Nat), Reps K G xs ds → Reps K G (xs.take n) (ds.take n)
  | _, _, 0, _ => .nil
  | _, _, _ + 1, .nil => .nil
  | _, _, n + 1, .cons r t => .cons r (Reps.take n t)
theorem Reps.drop : ∀ {xs : List V} {ds : List D} (n : Nat), Reps K G xs ds → Reps K G (xs.drop n) (ds.drop n)
  | _, _, 0, r => r
  | _, _, _ + 1, .nil => .nil
  | _, _, n + 1, .cons _ t => Reps.drop n t
theorem Reps.set {x : V} {u : D} (r : Rep K G x u) : ∀ {xs : List V} {us : List D} (i : Nat), Reps K G xs us → Reps K G (xs.set i x) (us.set i u)
  | _, _, _, .nil => .nil
  | _, _, 0, .cons _ t => .cons r t
  | _, _, i + 1, .cons q t => .cons q (Reps.set r i t)
theorem Reps.ints : ∀ (ns : List Int), Reps K G (ns.map V.int) (ns.map D.int)
  | [] => .nil
  | _ :: r => .cons .int (Reps.ints r)
theorem FRep.get : ∀ {vs : List (Str × V)} {ds : List (Str × D)} {f : Str} {d : D}, FRep K G vs ds → ds.lookup f = some d → ∃ v, vs.lookup f = some v ∧ Rep K G v d
  | _, _, _, _, .nil, e => by simp at e
  | _, _, f, d, .cons (f := g) (v := v) h r, e => by
    rw [List.lookup_cons] at e ⊢
    cases hb : (f == g) with
    | true =>
      rw [hb] at e
      cases e
      exact ⟨v, rfl, h⟩
    | false =>
      rw [hb] at e
      exact FRep.get r e
theorem FRep.none : ∀ {vs : List (Str × V)} {ds : List (Str × D)} {f : Str}, FRep K G vs ds → ds.lookup f = none → vs.lookup f = none
  | _, _, _, .nil, e => by simp
  | _, _, f, .cons (f := g) (v := v) h r, e => by
    rw [List.lookup_cons] at e ⊢
    cases hb : (f == g) with
    | true =>
      rw [hb] at e
      cases e
    | false =>
      rw [hb] at e
      exact FRep.none r e
theorem FRep.length : ∀ {vs : List (Str × V)} {ds : List (Str × D)}, FRep K G vs ds → vs.length = ds.length
  | _, _, .nil => rfl
  | _, _, .cons _ r => by rw [List.length_cons, List.length_cons, FRep.length r]
def putD (f : Str) (v : D) : List (Str × D) → List (Str × D)
  | [] => [(f, v)]
  | (g, u) :: r => if g = f then (f, v) :: r else (g, u) :: putD f v r
end
/-- what changes -/
inductive MO where
  | lst (ds : List D) | ins (C : Addr) (fs : List (Str × D)) | tbl (q : Str) | dic (a : Addr) (w : World) (es : List (NestedKey × D))
abbrev Mm := Addr → Option MO
def mup (M : Mm) (a : Addr) (o : MO) : Mm := fun b => if b = a then some o else M b
theorem mup_same {M : Mm} {a : Addr} {o : MO} : mup M a o a = some o := by unfold mup; rw [if_pos rfl]
theorem mup_ne {M : Mm} {a b : Addr} {o : MO} (h : b ≠ a) : mup M a o b = M b := by unfold mup; rw [if_neg h]
theorem mup_mup {M : Mm} {a : Addr} {o u : MO} : mup (mup M a o) a u = mup M a u := by
  funext b; unfold mup; split <;> rfl
def mdel (M : Mm) (a : Addr) : Mm := fun b => if b = a then none else M b
theorem mdel_same {M : Mm} {a : Addr} : mdel M a a = none := by unfold mdel; rw [if_pos rfl]
theorem mdel_ne {M : Mm} {a b : Addr} (h : b ≠ a) : mdel M a b = M b := by unfold mdel; rw [if_neg h]
theorem mdel_mup {M : Mm} {a : Addr} {o : MO} (h : M a = none) : mdel (mup M a o) a = M := by
  funext b
  unfold mdel mup
  by_cases e : b = a
  · subst e; rw [if_pos rfl, h]
  · rw [if_neg e, if_neg e]
/-- a state: the tracked heap, the part of it that never changes, what changes; the rest is hidden -/
structure Sta where
  H : Hp
  G : Hp
  M : Mm
def MRep (K : PySem.W.Frag) (G : Hp) (o : Option HO) : MO → Prop
  | .lst ds => ∃ vs, o = some (.lst vs) ∧ Reps K G vs ds
  | .ins C fs => ∃ dx fvs, o = some (.ins C dx fvs) ∧ FRep K G fvs fs
  | .tbl q => ∃ ps : Array Value, o = some (.tbl ps) ∧ TriplesOk ps.toList ∧ ∀ (pos : Pos) (cv : Value), codeAmong pos ps.toList = some cv → ∃ c, cv = .ref c ∧ G c = some (LamX.CodeO c q)
  | .dic a w es => ∃ kvs, o = some (DicO w a kvs) ∧ DRep K G kvs es
/-- an object that is hidden -/
def Sta.hidden (s : Sta) (a : Addr) : Prop := ∃ o, s.H a = some o ∧ s.G a = none ∧ s.M a = none
structure Ok (K : PySem.W.Frag) (s : Sta) : Prop where
  sub : Same s.G s.H
  apart : ∀ a mo, s.M a = some mo → s.G a = none
  cells : ∀ a mo, s.M a = some mo → MRep K s.G (s.H a) mo
structure Step (s t : Sta) : Prop where
  same : Same s.G t.G
  dom : ∀ a, (s.M a).isSome = true → (t.M a).isSome = true
  hid : ∀ a o, s.H a = some o → s.G a = none → s.M a = none → t.H a = some o ∧ t.G a = none ∧ t.M a = none
theorem Step.refl (s : Sta) : Step s s := ⟨Same.refl _, fun _ h => h, fun _ _ h1 h2 h3 => ⟨h1, h2, h3⟩⟩
theorem Step.trans {s t u : Sta} (a : Step s t) (b : Step t u) : Step s u :=
  ⟨a.same.trans b.same, fun x h => b.dom x (a.dom x h), fun x o h1 h2 h3 => let ⟨g1, g2, g3⟩ := a.hid x o h1 h2 h3; b.hid x o g1 g2 g3⟩
theorem MRep.same {K : PySem.W.Frag} {G G' : Hp} {o : Option HO} {mo : MO} (s : Same G G') (h : MRep K G o mo) : MRep K G' o mo := by
  cases mo with
  | lst ds => obtain ⟨vs, e, r⟩ := h; exact ⟨vs, e, r.same s⟩
  | ins C fs => obtain ⟨dx, fvs, e, r⟩ := h; exact ⟨dx, fvs, e, r.same s⟩
  | tbl q => obtain ⟨ps, e, ht, r⟩ := h; exact ⟨ps, e, ht, fun p cv z => let ⟨c, e1, e2⟩ := r p cv z; ⟨c, e1, s _ _ e2⟩⟩
  | dic a w es => obtain ⟨kvs, e, r⟩ := h; exact ⟨kvs, e, r.same s⟩
theorem MRep.some {K : PySem.W.Frag} {G : Hp} {o : Option HO} {mo : MO} (h : MRep K G o mo) : ∃ u, o = Option.some u := by
  cases mo with
  | lst ds => obtain ⟨vs, e, r⟩ := h; exact ⟨_, e⟩
  | ins C fs => obtain ⟨dx, fvs, e, r⟩ := h; exact ⟨_, e⟩
  | tbl q => obtain ⟨ps, e, r⟩ := h; exact ⟨_, e⟩
  | dic a w es => obtain ⟨kvs, e, r⟩ := h; exact ⟨_, e⟩
theorem same_new {G : Hp} {p : Addr} {o : HO} (h : G p = none) : Same G (upd G p o) := fun b u e => by
  rw [upd_ne (ne_of_none e h)]
  exact e
section
variable {K : PySem.W.Frag} {s : Sta} {p : Addr} {o : HO} {mo : MO}
theorem Ok.freeM (k : Ok K s) (h : s.H p = none) : s.M p = none := by
  cases e : s.M p with
  | none => rfl
  | some mo =>
    obtain ⟨u, q⟩ := (k.cells p mo e).some
    rw [h] at q
    cases q
theorem Ok.freeG (k : Ok K s) (h : s.H p = none) : s.G p = none := k.sub.free h
/-- a new object that does not change -/
theorem Ok.new (k : Ok K s) (h : s.H p = none) : Ok K ⟨upd s.H p o, upd s.G p o, s.M⟩ ∧ Step s ⟨upd s.H p o, upd s.G p o, s.M⟩ := by
  have hm := k.freeM h
  have hg := k.freeG h
  refine ⟨⟨fun b u e => ?_, fun a mo e => ?_, fun a mo e => ?_⟩, ⟨same_new hg, fun _ x => x, fun a u h1 h2 h3 => ?_⟩⟩
  · have e' : upd s.G p o b = some u := e
    show upd s.H p o b = some u
    by_cases eb : b = p
    · subst eb
      rw [upd_same] at e' ⊢
      exact e'
    · rw [upd_ne eb] at e' ⊢
      exact k.sub b u e'
  · have ne : a ≠ p := fun z => by rw [z, hm] at e; cases e
    show upd s.G p o a = none
    rw [upd_ne ne]
    exact k.apart a mo e
  · have ne : a ≠ p := fun z => by rw [z, hm] at e; cases e
    show MRep K (upd s.G p o) (upd s.H p o a) mo
    rw [upd_ne ne]
    exact (k.cells a mo e).same (same_new hg)
  · have ne : a ≠ p := ne_of_none h1 h
    exact ⟨by show upd s.H p o a = _; rw [upd_ne ne]; exact h1, by show upd s.G p o a = _; rw [upd_ne ne]; exact h2, h3⟩
/-- a new object that changes -/
theorem Ok.newM (k : Ok K s) (h : s.H p = none) (r : MRep K s.G (some o) mo) : Ok K ⟨upd s.H p o, s.G, mup s.M p mo⟩ ∧ Step s ⟨upd s.H p o, s.G, mup s.M p mo⟩ := by
  have hm := k.freeM h
  have hg := k.freeG h
  refine ⟨⟨fun b u e => ?_, fun a mo' e => ?_, fun a mo' e => ?_⟩, ⟨Same.refl _, fun a x => ?_, fun a u h1 h2 h3 => ?_⟩⟩
  · have ne : b ≠ p := ne_of_none e hg
    show upd s.H p o b = _
    rw [upd_ne ne]
    exact k.sub b u e
  · by_cases ea : a = p
    · subst ea; exact hg
    · have e' : mup s.M p mo a = some mo' := e
      rw [mup_ne ea] at e'
      exact k.apart a mo' e'
  · have e' : mup s.M p mo a = some mo' := e
    show MRep K s.G (upd s.H p o a) mo'
    by_cases ea : a = p
    · subst ea
      rw [mup_same] at e'
      cases e'
      rw [upd_same]
      exact r
    · rw [mup_ne ea] at e'
      rw [upd_ne ea]
      exact k.cells a mo' e'
  · show (mup s.M p mo a).isSome = true
    by_cases ea : a = p
    · subst ea; rw [mup_same]; rfl
    · rw [mup_ne ea]; exact x
  · have ne : a ≠ p := ne_of_none h1 h
    exact ⟨by show upd s.H p o a = _; rw [upd_ne ne]; exact h1, h2, by show mup s.M p mo a = none; rw [mup_ne ne]; exact h3⟩
/-- a changing object is changed -/
theorem Ok.put (k : Ok K s) (h : (s.M p).isSome = true) (r : MRep K s.G (some o) mo) : Ok K ⟨upd s.H p o, s.G, mup s.M p mo⟩ ∧ Step s ⟨upd s.H p o, s.G, mup s.M p mo⟩ := by
  have hg : s.G p = none := by
    cases e : s.M p with
    | none => rw [e] at h; cases h
    | some m => exact k.apart p m e
  refine ⟨⟨fun b u e => ?_, fun a mo' e => ?_, fun a mo' e => ?_⟩, ⟨Same.refl _, fun a x => ?_, fun a u h1 h2 h3 => ?_⟩⟩
  · have ne : b ≠ p := ne_of_none e hg
    show upd s.H p o b = _
    rw [upd_ne ne]
    exact k.sub b u e
  · by_cases ea : a = p
    · subst ea; exact hg
    · have e' : mup s.M p mo a = some mo' := e
      rw [mup_ne ea] at e'
      exact k.apart a mo' e'
  · have e' : mup s.M p mo a = some mo' := e
    show MRep K s.G (upd s.H p o a) mo'
    by_cases ea : a = p
    · subst ea
      rw [mup_same] at e'
      cases e'
      rw [upd_same]
      exact r
    · rw [mup_ne ea] at e'
      rw [upd_ne ea]
      exact k.cells a mo' e'
  · show (mup s.M p mo a).isSome = true
    by_cases ea : a = p
    · subst ea; rw [mup_same]; rfl
    · rw [mup_ne ea]; exact x
  · have ne : a ≠ p := fun z => by rw [z] at h3; rw [h3] at h; cases h
    exact ⟨by show upd s.H p o a = _; rw [upd_ne ne]; exact h1, h2, by show mup s.M p mo a = none; rw [mup_ne ne]; exact h3⟩
/-- a changing object is kept as it is from now on; b: the state that is looked back to, which did not know it -/
theorem Ok.freeze {b : Sta} (k : Ok K s) (st : Step b s) (hb : b.H p = none) (hbm : b.M p = none) (hm : (s.M p).isSome = true) (ho : s.H p = some o) : Ok K ⟨s.H, upd s.G p o, mdel s.M p⟩ ∧ Step b ⟨s.H, upd s.G p o, mdel s.M p⟩ ∧ Same s.G (upd s.G p o) := by
  have hg : s.G p = none := by
    cases e : s.M p with
    | none => rw [e] at hm; cases hm
    | some m => exact k.apart p m e
  refine ⟨⟨fun c u e => ?_, fun a mo' e => ?_, fun a mo' e => ?_⟩, ⟨st.same.trans (same_new hg), fun a x => ?_, fun a u h1 h2 h3 => ?_⟩, same_new hg⟩
  · have e' : upd s.G p o c = some u := e
    by_cases ec : c = p
    · subst ec
      rw [upd_same] at e'
      cases e'
      exact ho
    · rw [upd_ne ec] at e'
      exact k.sub c u e'
  · have e' : mdel s.M p a = some mo' := e
    by_cases ea : a = p
    · subst ea; rw [mdel_same] at e'; cases e'
    · rw [mdel_ne ea] at e'
      show upd s.G p o a = none
      rw [upd_ne ea]
      exact k.apart a mo' e'
  · have e' : mdel s.M p a = some mo' := e
    by_cases ea : a = p
    · subst ea; rw [mdel_same] at e'; cases e'
    · rw [mdel_ne ea] at e'
      exact (k.cells a mo' e').same (same_new hg)
  · have ne : a ≠ p := fun z => by rw [z, hbm] at x; cases x
    show (mdel s.M p a).isSome = true
    rw [mdel_ne ne]
    exact st.dom a x
  · have ne : a ≠ p := ne_of_none h1 hb
    obtain ⟨g1, g2, g3⟩ := st.hid a u h1 h2 h3
    exact ⟨g1, by show upd s.G p o a = none; rw [upd_ne ne]; exact g2, by show mdel s.M p a = none; rw [mdel_ne ne]; exact g3⟩
/-- a hidden object is shown -/
theorem Ok.shown {b : Sta} (k : Ok K s) (st : Step b s) (hb : b.H p = none) (hg : s.G p = none) (hm : s.M p = none) (ho : s.H p = some o) : Ok K ⟨s.H, upd s.G p o, s.M⟩ ∧ Step b ⟨s.H, upd s.G p o, s.M⟩ ∧ Same s.G (upd s.G p o) := by
  refine ⟨⟨fun c u e => ?_, fun a mo' e => ?_, fun a mo' e => ?_⟩, ⟨st.same.trans (same_new hg), st.dom, fun a u h1 h2 h3 => ?_⟩, same_new hg⟩
  · have e' : upd s.G p o c = some u := e
    by_cases ec : c = p
    · subst ec
      rw [upd_same] at e'
      cases e'
      exact ho
    · rw [upd_ne ec] at e'
      exact k.sub c u e'
  · have ne : a ≠ p := fun z => by rw [z, hm] at e; cases e
    show upd s.G p o a = none
    rw [upd_ne ne]
    exact k.apart a mo' e
  · exact (k.cells a mo' e).same (same_new hg)
  · have ne : a ≠ p := ne_of_none h1 hb
    obtain ⟨g1, g2, g3⟩ := st.hid a u h1 h2 h3
    exact ⟨g1, by show upd s.G p o a = none; rw [upd_ne ne]; exact g2, g3⟩
/-- .. where it was not hidden before -/
theorem Ok.shown2 {b : Sta} (k : Ok K s) (st : Step b s) (hb : ¬ b.hidden p) (hg : s.G p = none) (hm : s.M p = none) (ho : s.H p = some o) : Ok K ⟨s.H, upd s.G p o, s.M⟩ ∧ Step b ⟨s.H, upd s.G p o, s.M⟩ ∧ Same s.G (upd s.G p o) := by
  refine ⟨⟨fun c u e => ?_, fun a mo' e => ?_, fun a mo' e => ?_⟩, ⟨st.same.trans (same_new hg), st.dom, fun a u h1 h2 h3 => ?_⟩, same_new hg⟩
  · have e' : upd s.G p o c = some u := e
    by_cases ec : c = p
    · subst ec
      rw [upd_same] at e'
      cases e'
      exact ho
    · rw [upd_ne ec] at e'
      exact k.sub c u e'
  · have ne : a ≠ p := fun z => by rw [z, hm] at e; cases e
    show upd s.G p o a = none
    rw [upd_ne ne]
    exact k.apart a mo' e
  · exact (k.cells a mo' e).same (same_new hg)
  · have ne : a ≠ p := fun z => hb (by rw [← z]; exact ⟨u, h1, h2, h3⟩)
    obtain ⟨g1, g2, g3⟩ := st.hid a u h1 h2 h3
    exact ⟨g1, by show upd s.G p o a = none; rw [upd_ne ne]; exact g2, g3⟩
/-- a hidden object is laid, or changed -/
theorem Ok.hide {b : Sta} (k : Ok K s) (st : Step b s) (hb : b.H p = none) (hg : s.G p = none) (hm : s.M p = none) : Ok K ⟨upd s.H p o, s.G, s.M⟩ ∧ Step b ⟨upd s.H p o, s.G, s.M⟩ := by
  refine ⟨⟨fun c u e => ?_, k.apart, fun a mo' e => ?_⟩, ⟨st.same, st.dom, fun a u h1 h2 h3 => ?_⟩⟩
  · have ne : c ≠ p := ne_of_none e hg
    show upd s.H p o c = _
    rw [upd_ne ne]
    exact k.sub c u e
  · have ne : a ≠ p := fun z => by rw [z, hm] at e; cases e
    show MRep K s.G (upd s.H p o a) mo'
    rw [upd_ne ne]
    exact k.cells a mo' e
  · have ne : a ≠ p := ne_of_none h1 hb
    obtain ⟨g1, g2, g3⟩ := st.hid a u h1 h2 h3
    exact ⟨by show upd s.H p o a = _; rw [upd_ne ne]; exact g1, g2, g3⟩
end
abbrev DEnv := List (Option D)
abbrev DK := D → Mm → Prop
abbrev DKA := List D → Mm → Prop
abbrev DX := Addr → List (Str × D) → Mm → Prop
abbrev DE := DEnv → Mm → DK → DX → Prop
abbrev DT := DEnv → Mm → (Bool → Mm → Prop) → DX → Prop
abbrev DA := DEnv → Mm → DKA → DX → Prop
structure DEnds where
  nx : DEnv → Mm → Prop
  rt : DK
  m0 : Mm
  bk : DEnv → Mm → Prop := fun _ _ => False
  ct : DEnv → Mm → Prop := fun _ _ => False
abbrev DS := DEnds → DX → DEnv → Mm → Prop
structure ER (K : PySem.W.Frag) (s : Sta) (σ : L2.St) (ρ : DEnv) : Prop where
  ok : Ok K s
  len : σ.length = ρ.length
  at_ : ∀ (i : Nat) (d : D), ρ[i]? = some (some d) → ∃ v, σ[i]? = some (some v) ∧ Rep K s.G v d
section
variable {K : PySem.W.Frag} {s t : Sta} {σ : L2.St} {ρ ρ' : DEnv}
theorem ER.step (e : ER K s σ ρ) (st : Step s t) (k : Ok K t) : ER K t σ ρ := ⟨k, e.len, fun i d h => let ⟨v, h1, h2⟩ := e.at_ i d h; ⟨v, h1, h2.same st.same⟩⟩
theorem ER.set (e : ER K s σ ρ) (i : Nat) {v : V} {d : D} (r : Rep K s.G v d) : ER K s (σ.set i (some v)) (ρ.set i (some d)) := by
  refine ⟨e.ok, by rw [List.length_set, List.length_set]; exact e.len, fun j d' h => ?_⟩
  by_cases hj : j = i
  · subst hj
    by_cases hl : j < ρ.length
    · rw [List.getElem?_set_self hl] at h
      cases h
      exact ⟨v, List.getElem?_set_self (by rw [e.len]; exact hl), r⟩
    · rw [List.getElem?_eq_none (by rw [List.length_set]; omega)] at h
      cases h
  · rw [List.getElem?_set_ne (Ne.symm hj)] at h
    rw [List.getElem?_set_ne (Ne.symm hj)]
    exact e.at_ j d' h
theorem ER.unset (e : ER K s σ ρ) (i : Nat) : ER K s (σ.set i none) (ρ.set i none) := by
  refine ⟨e.ok, by rw [List.length_set, List.length_set]; exact e.len, fun j d' h => ?_⟩
  by_cases hj : j = i
  · subst hj
    by_cases hl : j < ρ.length
    · rw [List.getElem?_set_self hl] at h
      cases h
    · rw [List.getElem?_eq_none (by rw [List.length_set]; omega)] at h
      cases h
  · rw [List.getElem?_set_ne (Ne.symm hj)] at h
    rw [List.getElem?_set_ne (Ne.symm hj)]
    exact e.at_ j d' h
end
def Post (K : PySem.W.Frag) (s : Sta) (k : DK) (Q : VK) : Prop := ∀ (d : D) (t : Sta), k d t.M → Step s t → Ok K t → ∀ v, Rep K t.G v d → Q v t.H
def PostT (K : PySem.W.Frag) (s : Sta) (k : Bool → Mm → Prop) (Q : Bool → Hp → Prop) : Prop := ∀ (b : Bool) (t : Sta), k b t.M → Step s t → Ok K t → Q b t.H
def PostA (K : PySem.W.Frag) (s : Sta) (k : DKA) (Q : List V → Hp → Prop) : Prop := ∀ (ds : List D) (t : Sta), k ds t.M → Step s t → Ok K t → ∀ vs, Reps K t.G vs ds → Q vs t.H
def PostN (K : PySem.W.Frag) (s : Sta) (k : DEnv → Mm → Prop) (Q : L2.St → Hp → Prop) : Prop := ∀ (ρ : DEnv) (t : Sta), k ρ t.M → Step s t → ∀ σ, ER K t σ ρ → Q σ t.H
def PostX (K : PySem.W.Frag) (E : XK) (s : Sta) (x : DX) : Prop := ∀ (C : Addr) (fs : List (Str × D)) (t : Sta), x C fs t.M → Step s t → Ok K t → ∀ dx fvs, t.H dx = some (.xd fvs) → t.G dx = none → t.M dx = none → ¬ s.hidden dx → FRep K t.G fvs fs → E (.ref C) (some dx) t.H
section
variable {K : PySem.W.Frag} {s t : Sta} {E : XK}
theorem Post.step {k : DK} {Q : VK} (p : Post K s k Q) (st : Step s t) : Post K t k Q := fun d u h s' r v e => p d u h (st.trans s') r v e
theorem PostT.step {k : Bool → Mm → Prop} {Q : Bool → Hp → Prop} (p : PostT K s k Q) (st : Step s t) : PostT K t k Q := fun d u h s' r => p d u h (st.trans s') r
theorem PostA.step {k : DKA} {Q : List V → Hp → Prop} (p : PostA K s k Q) (st : Step s t) : PostA K t k Q := fun d u h s' r v e => p d u h (st.trans s') r v e
theorem PostN.step {k : DEnv → Mm → Prop} {Q : L2.St → Hp → Prop} (p : PostN K s k Q) (st : Step s t) : PostN K t k Q := fun d u h s' v e => p d u h (st.trans s') v e
theorem PostX.step {x : DX} (p : PostX K E s x) (st : Step s t) : PostX K E t x := fun C fs u h s' k dx fvs h1 h2 h3 hn h4 => p C fs u h (st.trans s') k dx fvs h1 h2 h3 (fun ⟨o, z1, z2, z3⟩ => hn ⟨o, st.hid dx o z1 z2 z3⟩) h4
theorem PostX.never : PostX K E s (fun _ _ _ => False) := fun _ _ _ h => h.elim
theorem Post.now {k : DK} {Q : VK} (p : Post K s k Q) {d : D} {v : V} (h : k d s.M) (o : Ok K s) (r : Rep K s.G v d) : Q v s.H := p d s h (Step.refl s) o v r
end
def up (K : PySem.W.Frag) (E : XK) (τ : DE) : TE := fun σ H Q => ∃ ρ s k x, s.H = H ∧ ER K s σ ρ ∧ τ ρ s.M k x ∧ Post K s k Q ∧ PostX K E s x
def upT (K : PySem.W.Frag) (E : XK) (τ : DT) : TT := fun σ H Q => ∃ ρ s k x, s.H = H ∧ ER K s σ ρ ∧ τ ρ s.M k x ∧ PostT K s k Q ∧ PostX K E s x
def upA (K : PySem.W.Frag) (E : XK) (τ : DA) : TA := fun σ H Q => ∃ ρ s k x, s.H = H ∧ ER K s σ ρ ∧ τ ρ s.M k x ∧ PostA K s k Q ∧ PostX K E s x
structure EndsR (K : PySem.W.Frag) (s : Sta) (k : DEnds) (D : Ends) : Prop where
  nx : PostN K s k.nx D.nx
  rt : ∃ b, Step b s ∧ Ok K b ∧ b.M = k.m0 ∧ Post K b k.rt D.rt
  bk : PostN K s k.bk D.bk
  ct : PostN K s k.ct D.ct
theorem EndsR.step {K : PySem.W.Frag} {s t : Sta} {k : DEnds} {D : Ends} (p : EndsR K s k D) (st : Step s t) : EndsR K t k D :=
  ⟨p.nx.step st, let ⟨b, s1, o, m, q⟩ := p.rt; ⟨b, s1.trans st, o, m, q⟩, p.bk.step st, p.ct.step st⟩
def upS (K : PySem.W.Frag) (E : XK) (τ : DS) : TS := fun D σ H => ∃ ρ s k x, s.H = H ∧ ER K s σ ρ ∧ τ k x ρ s.M ∧ EndsR K s k D ∧ PostX K E s x
def DP (X : Cx) (E : XK) (e : Expr) (τ : DE) : Prop := PE X e (up X.K E τ)
def DPT (X : Cx) (E : XK) (e : Expr) (τ : DT) : Prop := PT X e (upT X.K E τ)
def DPW (X : Cx) (E : XK) (e : Expr) (τ : DT) : Prop := PW X e (upT X.K E τ)
def DPA (X : Cx) (E : XK) (es : List Expr) (τ : DA) : Prop := PA X es (upA X.K E τ)
def DPS (X : Cx) (E : XK) (st : Stmt) (τ : DS) : Prop := PS X st (upS X.K E τ)
def DPB (X : Cx) (E : XK) (st : List Stmt) (τ : DS) : Prop := PSs X st (upS X.K E τ)
section
variable {X : Cx} {E : XK} {e a b c : Expr} {pos : Pos}
theorem pe_mono {t t' : TE} (h : PE X e t) (m : ∀ σ H Q, t' σ H Q → t σ H Q) : PE X e t' := ⟨fun pins s σ H Q I q => h.run pins s σ H Q I (m σ H Q q)⟩
theorem pt_mono {t t' : TT} (h : PT X e t) (m : ∀ σ H Q, t' σ H Q → t σ H Q) : PT X e t' := ⟨fun pins s σ H Q I q => h.run pins s σ H Q I (m σ H Q q)⟩
theorem pw_mono {t t' : TT} (h : PW X e t) (m : ∀ σ H Q, t' σ H Q → t σ H Q) : PW X e t' := ⟨fun wh pins s σ H Q I q => h.run wh pins s σ H Q I (m σ H Q q)⟩
theorem pa_mono {es : List Expr} {t t' : TA} (h : PA X es t) (m : ∀ σ H Q, t' σ H Q → t σ H Q) : PA X es t' := ⟨fun p pins s σ H Q I q => h.run p pins s σ H Q I (m σ H Q q)⟩
theorem ps_mono {st : Stmt} {t t' : TS} (h : PS X st t) (m : ∀ D σ H, t' D σ H → t D σ H) : PS X st t' := ⟨fun pins s σ H D I q => h.run pins s σ H D I (m D σ H q)⟩
theorem pss_mono {st : List Stmt} {t t' : TS} (h : PSs X st t) (m : ∀ D σ H, t' D σ H → t D σ H) : PSs X st t' := ⟨fun pins s σ H D I q => h.run pins s σ H D I (m D σ H q)⟩
def dVar (i : Nat) : DE := fun ρ M k _ => ∃ d, ρ[i]? = some (some d) ∧ k d M
def dC (d : D) : DE := fun _ M k _ => k d M
theorem up_var {K : PySem.W.Frag} {i : Nat} {σ : L2.St} {H : Hp} {Q : VK} (h : up K E (dVar i) σ H Q) : tVar i σ H Q := by
  obtain ⟨ρ, s, k, x, rfl, er, ⟨d, e1, q⟩, p, _⟩ := h
  obtain ⟨v, e2, r⟩ := er.at_ i d e1
  exact ⟨v, e2, p.now q er.ok r⟩
theorem dv (i : Nat) {x : Str} (hN : X.N[i]? = some x := by rfl) (hv : Vis X.env.scope x := by first | exact Or.inl rfl | exact Or.inr (Or.inl rfl) | exact Or.inr (Or.inr rfl)) (hd : (x == ("__debug__" : Str)) = false := by decide)
    (hcd : (x == ("__classdict__" : Str)) = false := by decide) : DP X E (.Name x pos) (dVar i) := pe_mono (pe_var hN hv hd hcd) fun _ _ _ h => up_var h
theorem up_c {K : PySem.W.Frag} {d : D} {v : V} {σ : L2.St} {H : Hp} {Q : VK} (r : ∀ G, Rep K G v d) (h : up K E (dC d) σ H Q) : tC v σ H Q := by
  obtain ⟨ρ, s, k, x, rfl, er, q, p, _⟩ := h
  exact p.now q er.ok (r _)
theorem d_int {i j} : DP X E (.Constant (.int i) j pos) (dC (.int i)) := pe_mono pe_int fun _ _ _ h => up_c (fun _ => .int) h
theorem d_bl {b j} : DP X E (.Constant (.bool b) j pos) (dC (.bl b)) := pe_mono pe_bl fun _ _ _ h => up_c (fun _ => .bl) h
theorem d_non {j} : DP X E (.Constant .none j pos) (dC .non) := pe_mono pe_non fun _ _ _ h => up_c (fun _ => .non) h
theorem d_str {x j} : DP X E (.Constant (.str x) j pos) (dC (.str x)) := pe_mono pe_str fun _ _ _ h => up_c (fun _ => .str) h
/-- a module's constant -/
inductive KC : D → Value → Prop where
  | int {i t} : KC (.int i) (.int i t)
  | str {x t} : KC (.str x) (.str x t)
theorem d_glob {x : Str} {d : D} {u : Value} (hg : Gl X x) (hm : X.mg x = some u) (r : KC d u) (hd : (x == ("__debug__" : Str)) = false := by decide) : DP X E (.Name x pos) (dC d) := by
  cases r with
  | int => exact pe_mono (pe_glob (v := .int _) hg hm ⟨_, rfl⟩ hd) fun _ _ _ h => up_c (fun _ => .int) h
  | str => exact pe_mono (pe_glob (v := .str _) hg hm ⟨_, rfl⟩ hd) fun _ _ _ h => up_c (fun _ => .str) h
abbrev D2 := D → D → Mm → DK → DX → Prop
abbrev D1 := D → Mm → DK → DX → Prop
abbrev DN := List D → Mm → DK → DX → Prop
def r2 (K : PySem.W.Frag) (E : XK) (f : D2) : R2 := fun x y H Q => ∃ s dx dy k xx, s.H = H ∧ Ok K s ∧ Rep K s.G x dx ∧ Rep K s.G y dy ∧ f dx dy s.M k xx ∧ Post K s k Q ∧ PostX K E s xx
def r1 (K : PySem.W.Frag) (E : XK) (f : D1) : V → Hp → VK → Prop := fun x H Q => ∃ s dx k xx, s.H = H ∧ Ok K s ∧ Rep K s.G x dx ∧ f dx s.M k xx ∧ Post K s k Q ∧ PostX K E s xx
def rA (K : PySem.W.Frag) (E : XK) (f : DN) : List V → Hp → VK → Prop := fun xs H Q => ∃ s ds k xx, s.H = H ∧ Ok K s ∧ Reps K s.G xs ds ∧ f ds s.M k xx ∧ Post K s k Q ∧ PostX K E s xx
def dOp (f : D2) (τa τb : DE) : DE := fun ρ M k x => τa ρ M (fun u M1 => τb ρ M1 (fun v M2 => f u v M2 k x) x) x
def dUn (f : D1) (τa : DE) : DE := fun ρ M k x => τa ρ M (fun u M1 => f u M1 k x) x
theorem up_op {K : PySem.W.Frag} {f : D2} {τa τb : DE} {σ : L2.St} {H : Hp} {Q : VK} (h : up K E (dOp f τa τb) σ H Q) : tOp (r2 K E f) (up K E τa) (up K E τb) σ H Q := by
  obtain ⟨ρ, s, k, x, rfl, er, q, p, px⟩ := h
  refine ⟨ρ, s, _, x, rfl, er, q, fun u s1 q1 st1 ok1 v1 r1 => ?_, px⟩
  refine ⟨ρ, s1, _, x, rfl, er.step st1 ok1, q1, fun w s2 q2 st2 ok2 v2 r2 => ?_, px.step st1⟩
  exact ⟨s2, u, w, k, x, rfl, ok2, r1.same st2.same, r2, q2, p.step (st1.trans st2), px.step (st1.trans st2)⟩
theorem up_un {K : PySem.W.Frag} {f : D1} {τa : DE} {σ : L2.St} {H : Hp} {Q : VK} (h : up K E (dUn f τa) σ H Q) : tUn (r1 K E f) (up K E τa) σ H Q := by
  obtain ⟨ρ, s, k, x, rfl, er, q, p, px⟩ := h
  exact ⟨ρ, s, _, x, rfl, er, q, fun u s1 q1 st1 ok1 v1 r1 => ⟨s1, u, k, x, rfl, ok1, r1, q1, p.step st1, px.step st1⟩, px⟩
variable {τa τb τc : DE}
theorem d_op {op : Operator} {f : D2} (ho : OpR X (binaryOp op) (r2 X.K E f)) (ha : DP X E a τa) (hb : DP X E b τb) : DP X E (.BinOp a op b pos) (dOp f τa τb) := pe_mono (pe_op ho ha hb) fun _ _ _ h => up_op h
theorem d_un {op : UnaryOp} {f : D1} (ho : UnR X (unaryOp op) (r1 X.K E f)) (ha : DP X E a τa) : DP X E (.UnaryOp op a pos) (dUn f τa) := pe_mono (pe_un ho ha) fun _ _ _ h => up_un h
theorem d_cmp {op : CmpOp} {f : D2} (ho : OpR X (compareOp op) (r2 X.K E f)) (ha : DP X E a τa) (hb : DP X E b τb) (hm : behindInMarks op b = false) : DP X E (.Compare a [op] [b] pos) (dOp f τa τb) := pe_mono (pe_cmpR ho ha hb hm) fun _ _ _ h => up_op h
/-- a value that is a bool, as a test -/
def dB (τ : DE) : DT := fun ρ M k x => τ ρ M (fun u M1 => ∃ b, u = .bl b ∧ k b M1) x
section
variable {K : PySem.W.Frag} {G : Hp} {v : V}
theorem Rep.bl_of {b : Bool} (h : Rep K G v (.bl b)) : v = .bl b := by cases h; rfl
theorem Rep.int_of {b : Int} (h : Rep K G v (.int b)) : v = .int b := by cases h; rfl
theorem Rep.non_of (h : Rep K G v .non) : v = .non := by cases h; rfl
theorem Rep.cel_of {a : Addr} (h : Rep K G v (.cel a)) : v = .ref a := by cases h; rfl
theorem Rep.lst_of {ds : List D} (h : Rep K G v (.lst ds)) : ∃ a vs, v = .ref a ∧ G a = some (.lst vs) ∧ Reps K G vs ds := by cases h with | lst h r => exact ⟨_, _, rfl, h, r⟩
theorem Rep.tup_of {ds : List D} (h : Rep K G v (.tup ds)) : ∃ a vs, v = .ref a ∧ SqT K G a vs ∧ Reps K G vs ds := by cases h with | tup h r => exact ⟨_, _, rfl, h, r⟩
theorem Reps.one {v : List V} {d : D} (h : Reps K G v [d]) : ∃ x, v = [x] ∧ Rep K G x d := by
  cases h with | cons h r => cases r; exact ⟨_, rfl, h⟩
theorem Reps.two {v : List V} {d e : D} (h : Reps K G v [d, e]) : ∃ x y, v = [x, y] ∧ Rep K G x d ∧ Rep K G y e := by
  cases h with | cons h r => cases r with | cons h' r => cases r; exact ⟨_, _, rfl, h, h'⟩
end
theorem upT_B {K : PySem.W.Frag} {τ : DE} {σ : L2.St} {H : Hp} {Q : Bool → Hp → Prop} (h : upT K E (dB τ) σ H Q) : up K E τ σ H fun x H' => ∃ k, x = .bl k ∧ Q k H' := by
  obtain ⟨ρ, s, k, x, rfl, er, q, p, px⟩ := h
  refine ⟨ρ, s, _, x, rfl, er, q, fun u s1 q1 st1 ok1 v1 r1 => ?_, px⟩
  obtain ⟨b, rfl, q1⟩ := q1
  exact ⟨b, r1.bl_of, p b s1 q1 st1 ok1⟩
theorem t_cmp {op : CmpOp} {f : D2} (ho : OpR X (compareOp op) (r2 X.K E f)) (ha : DP X E a τa) (hb : DP X E b τb) (hm : behindInMarks op b = false) : DPT X E (.Compare a [op] [b] pos) (dB (dOp f τa τb)) :=
  pt_mono (pt_cmpR ho ha hb hm) fun σ H Q h => up_op (upT_B h)
theorem t_val (h : DP X E e τa) (he : ∀ whole, isTrue e X.env whole = (do let v ← whole; standAt e.pos; holding [v] (truthy v)) := by intro _; rfl) : DPT X E e (dB τa) :=
  pt_mono (pt_val h he) fun σ H Q h => upT_B h
variable {θa θb : DT} {rest : List Expr}
def dAnd (t u : DT) : DT := fun ρ M k x => t ρ M (fun c M1 => if c = true then u ρ M1 k x else k false M1) x
def dOr (t u : DT) : DT := fun ρ M k x => t ρ M (fun c M1 => if c = true then k true M1 else u ρ M1 k x) x
def dNot (t : DT) : DT := fun ρ M k x => t ρ M (fun c M1 => k (!c) M1) x
theorem w_and1 (ha : DPT X E a θa) : DPW X E (.BoolOp .And [a] pos) θa := pw_and1 ha
theorem w_or1 (ha : DPT X E a θa) : DPW X E (.BoolOp .Or [a] pos) θa := pw_or1 ha
theorem w_and (ha : DPT X E a θa) (hb : DPW X E (.BoolOp .And (b :: rest) pos) θb) : DPW X E (.BoolOp .And (a :: b :: rest) pos) (dAnd θa θb) :=
  pw_mono (pw_and ha hb) fun σ H Q h => by
    obtain ⟨ρ, s, k, x, rfl, er, q, p, px⟩ := h
    refine ⟨ρ, s, _, x, rfl, er, q, fun b s1 q1 st1 ok1 => ?_, px⟩
    cases b with
    | true =>
      rw [if_pos rfl] at q1 ⊢
      exact ⟨ρ, s1, k, x, rfl, er.step st1 ok1, q1, p.step st1, px.step st1⟩
    | false =>
      rw [if_neg Bool.false_ne_true] at q1 ⊢
      exact p false s1 q1 st1 ok1
theorem w_or (ha : DPT X E a θa) (hb : DPW X E (.BoolOp .Or (b :: rest) pos) θb) : DPW X E (.BoolOp .Or (a :: b :: rest) pos) (dOr θa θb) :=
  pw_mono (pw_or ha hb) fun σ H Q h => by
    obtain ⟨ρ, s, k, x, rfl, er, q, p, px⟩ := h
    refine ⟨ρ, s, _, x, rfl, er, q, fun b s1 q1 st1 ok1 => ?_, px⟩
    cases b with
    | true =>
      rw [if_pos rfl] at q1 ⊢
      exact p true s1 q1 st1 ok1
    | false =>
      rw [if_neg Bool.false_ne_true] at q1 ⊢
      exact ⟨ρ, s1, k, x, rfl, er.step st1 ok1, q1, p.step st1, px.step st1⟩
theorem t_not (ha : DPT X E a θa) : DPT X E (.UnaryOp .Not a pos) (dNot θa) :=
  pt_mono (pt_not ha) fun σ H Q h => by
    obtain ⟨ρ, s, k, x, rfl, er, q, p, px⟩ := h
    exact ⟨ρ, s, _, x, rfl, er, q, fun b s1 q1 st1 ok1 => p (!b) s1 q1 st1 ok1, px⟩
theorem DPW.t (h : DPW X E e θa) : DPT X E e θa := PW.pt h
/-- .. as values -/
def dAndV (ta tb : DE) : DE := fun ρ M k x => ta ρ M (fun u M1 => ∃ c, u = .bl c ∧ if c = true then tb ρ M1 k x else k (.bl false) M1) x
def dNotV (ta : DE) : DE := fun ρ M k x => ta ρ M (fun u M1 => ∃ c, u = .bl c ∧ k (.bl (!c)) M1) x
theorem d_one {op} (h : DP X E a τa) : DP X E (.BoolOp op [a] pos) τa := pe_one h
theorem d_and (ha : DP X E a τa) (hb : DP X E (.BoolOp .And (b :: rest) pos) τb) : DP X E (.BoolOp .And (a :: b :: rest) pos) (dAndV τa τb) :=
  pe_mono (pe_and ha hb) fun σ H Q h => by
    obtain ⟨ρ, s, k, x, rfl, er, q, p, px⟩ := h
    refine ⟨ρ, s, _, x, rfl, er, q, fun u s1 q1 st1 ok1 v1 r1 => ?_, px⟩
    obtain ⟨c, rfl, q1⟩ := q1
    refine ⟨c, r1.bl_of, ?_⟩
    cases c with
    | true =>
      rw [if_pos rfl] at q1 ⊢
      exact ⟨ρ, s1, k, x, rfl, er.step st1 ok1, q1, p.step st1, px.step st1⟩
    | false =>
      rw [if_neg Bool.false_ne_true] at q1 ⊢
      exact p _ s1 q1 st1 ok1 _ .bl
theorem d_not (ha : DP X E a τa) : DP X E (.UnaryOp .Not a pos) (dNotV τa) :=
  pe_mono (pe_not ha) fun σ H Q h => by
    obtain ⟨ρ, s, k, x, rfl, er, q, p, px⟩ := h
    refine ⟨ρ, s, _, x, rfl, er, q, fun u s1 q1 st1 ok1 v1 r1 => ?_, px⟩
    obtain ⟨c, rfl, q1⟩ := q1
    exact ⟨c, r1.bl_of, p _ s1 q1 st1 ok1 _ .bl⟩
def dIf (t : DT) (ta tb : DE) : DE := fun ρ M k x => t ρ M (fun c M1 => if c = true then ta ρ M1 k x else tb ρ M1 k x) x
theorem d_if (hc : DPT X E c θa) (ha : DP X E a τa) (hb : DP X E b τb) : DP X E (.IfExp c a b pos) (dIf θa τa τb) :=
  pe_mono (pe_ifExp hc ha hb) fun σ H Q h => by
    obtain ⟨ρ, s, k, x, rfl, er, q, p, px⟩ := h
    refine ⟨ρ, s, _, x, rfl, er, q, fun c s1 q1 st1 ok1 => ?_, px⟩
    cases c with
    | true =>
      rw [if_pos rfl] at q1 ⊢
      exact ⟨ρ, s1, k, x, rfl, er.step st1 ok1, q1, p.step st1, px.step st1⟩
    | false =>
      rw [if_neg Bool.false_ne_true] at q1 ⊢
      exact ⟨ρ, s1, k, x, rfl, er.step st1 ok1, q1, p.step st1, px.step st1⟩
/-- a < b < c -/
def dChain (f g : D2) (τa τb τc : DE) : DE := fun ρ M k x => τa ρ M (fun u M1 => τb ρ M1 (fun v M2 => f u v M2 (fun z M3 => ∃ c, z = .bl c ∧ if c = true then τc ρ M3 (fun w M4 => g v w M4 k x) x else k (.bl false) M3) x) x) x
variable {es : List Expr} {αa : DA}
def dNil : DA := fun _ M k _ => k [] M
def dCons (ta : DE) (tr : DA) : DA := fun ρ M k x => ta ρ M (fun u M1 => tr ρ M1 (fun us M2 => k (u :: us) M2) x) x
theorem a_nil : DPA X E [] dNil := pa_mono pa_nil fun σ H Q h => by
  obtain ⟨ρ, s, k, x, rfl, er, q, p, px⟩ := h
  exact p [] s q (Step.refl s) er.ok [] .nil
theorem a_cons (ha : DP X E e τa) (hr : DPA X E es αa) (hs : starEach (e :: es) X.env = (false, eval e X.env) :: starEach es X.env := by rfl) : DPA X E (e :: es) (dCons τa αa) :=
  pa_mono (pa_cons ha hr hs) fun σ H Q h => by
    obtain ⟨ρ, s, k, x, rfl, er, q, p, px⟩ := h
    refine ⟨ρ, s, _, x, rfl, er, q, fun u s1 q1 st1 ok1 v1 r1 => ?_, px⟩
    refine ⟨ρ, s1, _, x, rfl, er.step st1 ok1, q1, fun us s2 q2 st2 ok2 vs r2 => ?_, px.step st1⟩
    exact p _ s2 q2 (st1.trans st2) ok2 _ (.cons (r1.same st2.same) r2)
def dTup (t : DA) : DE := fun ρ M k x => t ρ M (fun xs M1 => xs.length ≤ sizeLine ∧ k (.tup xs) M1) x
def dLst (t : DA) : DE := fun ρ M k x => t ρ M (fun xs M1 => xs.length ≤ sizeLine ∧ k (.lst xs) M1) x
/-- a list that changes -/
def dLstM (t : DA) : DE := fun ρ M k x => t ρ M (fun xs M1 => xs.length ≤ sizeLine ∧ ∀ p, M1 p = none → k (.cel p) (mup M1 p (.lst xs))) x
section
variable {K : PySem.W.Frag} {s : Sta} {k : DK} {Q : VK} {xs : List V} {ds : List D} {q : Addr}
theorem Post.tup (p : Post K s k Q) (h : k (.tup ds) s.M) (o : Ok K s) (r : Reps K s.G xs ds) (hq : s.H q = none) : Q (.ref q) (upd s.H q (.tup xs)) := by
  obtain ⟨a, b⟩ := o.new (o := .tup xs) hq
  exact p _ ⟨upd s.H q (.tup xs), upd s.G q (.tup xs), s.M⟩ h b a _ (.tup (SqT.of upd_same) (r.same b.same))
theorem Post.lst (p : Post K s k Q) (h : k (.lst ds) s.M) (o : Ok K s) (r : Reps K s.G xs ds) (hq : s.H q = none) : Q (.ref q) (upd s.H q (.lst xs)) := by
  obtain ⟨a, b⟩ := o.new (o := .lst xs) hq
  exact p _ ⟨upd s.H q (.lst xs), upd s.G q (.lst xs), s.M⟩ h b a _ (.lst upd_same (r.same b.same))
theorem Post.lstM (p : Post K s k Q) (h : ∀ p, s.M p = none → k (.cel p) (mup s.M p (.lst ds))) (o : Ok K s) (r : Reps K s.G xs ds) (hq : s.H q = none) : Q (.ref q) (upd s.H q (.lst xs)) := by
  obtain ⟨a, b⟩ := o.newM (o := .lst xs) (mo := .lst ds) hq ⟨xs, rfl, r⟩
  exact p _ ⟨upd s.H q (.lst xs), s.G, mup s.M q (.lst ds)⟩ (h q (o.freeM hq)) b a _ .cel
end
theorem d_tup {x1} (h : DPA X E es αa) : DP X E (.Tuple es x1 pos) (dTup αa) :=
  pe_mono (pe_tup h) fun σ H Q h => by
    obtain ⟨ρ, s, k, x, rfl, er, q, p, px⟩ := h
    refine ⟨ρ, s, _, x, rfl, er, q, fun us s1 q1 st1 ok1 vs r1 => ?_, px⟩
    exact ⟨by rw [r1.length]; exact q1.1, fun t ht => (p.step st1).tup q1.2 ok1 r1 ht⟩
theorem d_lst (h : DPA X E es αa) : DP X E (.List es pos) (dLst αa) :=
  pe_mono (pe_lst h) fun σ H Q h => by
    obtain ⟨ρ, s, k, x, rfl, er, q, p, px⟩ := h
    refine ⟨ρ, s, _, x, rfl, er, q, fun us s1 q1 st1 ok1 vs r1 => ?_, px⟩
    exact ⟨by rw [r1.length]; exact q1.1, fun t ht => (p.step st1).lst q1.2 ok1 r1 ht⟩
theorem d_lstM (h : DPA X E es αa) : DP X E (.List es pos) (dLstM αa) :=
  pe_mono (pe_lst h) fun σ H Q h => by
    obtain ⟨ρ, s, k, x, rfl, er, q, p, px⟩ := h
    refine ⟨ρ, s, _, x, rfl, er, q, fun us s1 q1 st1 ok1 vs r1 => ?_, px⟩
    exact ⟨by rw [r1.length]; exact q1.1, fun t ht => (p.step st1).lstM q1.2 ok1 r1 ht⟩
def dCB (f : DN) (t : DA) : DE := fun ρ M k x => t ρ M (fun ds M1 => f ds M1 k x) x
theorem up_cb {K : PySem.W.Frag} {f : DN} {σ : L2.St} {H : Hp} {Q : VK} (h : up K E (dCB f αa) σ H Q) : tCB (rA K E f) (upA K E αa) σ H Q := by
  obtain ⟨ρ, s, k, x, rfl, er, q, p, px⟩ := h
  exact ⟨ρ, s, _, x, rfl, er, q, fun us s1 q1 st1 ok1 vs r1 => ⟨s1, us, k, x, rfl, ok1, r1, q1, p.step st1, px.step st1⟩, px⟩
theorem d_callB {id : String} {x : Str} {p : Pos} {f : DN} (hc : CallR X (.builtin id) (rA X.K E f)) (hg : Gl X x) (hm : X.mg x = none) (hv : bootBuiltins x = some (.builtin id)) (ha : DPA X E (e :: es) αa) (hn : x ≠ "__name__" := by decide) (hdb : (x == ("__debug__" : Str)) = false := by decide) (hs : starEach (e :: es) X.env = (false, eval e X.env) :: starEach es X.env := by rfl) (hpl : (backTo pos (starEach es X.env)).any (·.1) = false := by rfl) :
    DP X E (.Call (.Name x p) (e :: es) [] pos) (dCB f αa) := pe_mono (pe_callB hc hg hm hv ha hn hdb hs hpl) fun _ _ _ h => up_cb h
theorem d_callTy {T : String} {x : Str} {p : Pos} {f : DN} (hc : CallR X (.type T) (rA X.K E f)) (hg : Gl X x) (hm : X.mg x = none) (hv : bootBuiltins x = some (.type T)) (ha : DPA X E (e :: es) αa) (hn : x ≠ "__name__" := by decide) (hdb : (x == ("__debug__" : Str)) = false := by decide) (hs : starEach (e :: es) X.env = (false, eval e X.env) :: starEach es X.env := by rfl) (hpl : (backTo pos (starEach es X.env)).any (·.1) = false := by rfl) :
    DP X E (.Call (.Name x p) (e :: es) [] pos) (dCB f αa) := pe_mono (pe_callTy hc hg hm hv ha hn hdb hs hpl) fun _ _ _ h => up_cb h
variable {st : Stmt} {sts : List Stmt} {τs τt : DS}
def dNext : DS := fun k _ ρ M => k.nx ρ M
def dSeq (t u : DS) : DS := fun k x ρ M => t { k with nx := u k x } x ρ M
theorem b_nil : DPB X E [] dNext := pss_mono pss_nil fun D σ H h => by
  obtain ⟨ρ, s, k, x, rfl, er, q, p, px⟩ := h
  exact p.nx ρ s q (Step.refl s) σ er
theorem b_cons (h1 : DPS X E st τs) (h2 : DPB X E sts τt) : DPB X E (st :: sts) (dSeq τs τt) := pss_mono (pss_cons h1 h2) fun D σ H h => by
  obtain ⟨ρ, s, k, x, rfl, er, q, p, px⟩ := h
  refine ⟨ρ, s, _, x, rfl, er, q, ⟨fun ρ1 s1 q1 st1 σ1 er1 => ?_, p.rt, p.bk, p.ct⟩, px⟩
  exact ⟨ρ1, s1, k, x, rfl, er1, q1, p.step st1, px.step st1⟩
theorem b_one (h1 : DPS X E st τs) : DPB X E [st] τs := pss_one h1
def dDrop (τ : DE) : DS := fun k x ρ M => τ ρ M (fun _ M1 => k.nx ρ M1) x
theorem s_expr (he : DP X E e τa) (hs : swapsWith e none pos.line X.env = pure false := by rfl) : DPS X E (.Expr e pos) (dDrop τa) := ps_mono (ps_expr he hs) fun D σ H h => by
  obtain ⟨ρ, s, k, x, rfl, er, q, p, px⟩ := h
  exact ⟨ρ, s, _, x, rfl, er, q, fun u s1 q1 st1 ok1 v1 r1 => p.nx ρ s1 q1 st1 σ (er.step st1 ok1), px⟩
def dRet (τ : DE) : DS := fun k x ρ M => τ ρ M k.rt x
theorem s_ret (he : DP X E e τa) : DPS X E (.Return (some e) pos) (dRet τa) := ps_mono (ps_ret he) fun D σ H h => by
  obtain ⟨ρ, s, k, x, rfl, er, q, p, px⟩ := h
  obtain ⟨b, sb, ob, mb, pb⟩ := p.rt
  exact ⟨ρ, s, k.rt, x, rfl, er, q, pb.step sb, px⟩
/-- a changing list, as it is from now on, given back -/
def dRetZ (τ : DE) : DS := fun k x ρ M => τ ρ M (fun u M1 => ∃ a ds, u = .cel a ∧ M1 a = some (.lst ds) ∧ k.m0 a = none ∧ k.rt (.lst ds) (mdel M1 a)) x
theorem s_retZ (he : DP X E e τa) : DPS X E (.Return (some e) pos) (dRetZ τa) := ps_mono (ps_ret he) fun D σ H h => by
  obtain ⟨ρ, s, k, x, rfl, er, q, p, px⟩ := h
  obtain ⟨b, sb, ob, mb, pb⟩ := p.rt
  refine ⟨ρ, s, _, x, rfl, er, q, fun u s1 q1 st1 ok1 v1 r1 => ?_, px⟩
  obtain ⟨a, ds, rfl, hm, h0, q1⟩ := q1
  have hv := r1.cel_of
  subst hv
  obtain ⟨vs, ho, rs⟩ := ok1.cells _ _ hm
  have st : Step b s1 := sb.trans st1
  have bm : b.M a = none := by rw [mb]; exact h0
  have bh : b.H a = none := by
    cases eh : b.H a with
    | none => rfl
    | some o =>
      cases eg : b.G a with
      | none =>
        have z := (st.hid a o eh eg bm).2.2
        rw [hm] at z
        cases z
      | some u =>
        have z := st.same a u eg
        rw [ok1.apart _ _ hm] at z
        cases z
  obtain ⟨k2, st2, sm⟩ := ok1.freeze st bh bm (by rw [hm]; rfl) ho
  exact pb _ ⟨s1.H, upd s1.G a (.lst vs), mdel s1.M a⟩ q1 st2 k2 _ (.lst upd_same (rs.same sm))
def dIfS (c : DT) (t u : DS) : DS := fun k x ρ M => c ρ M (fun b M1 => if b = true then t k x ρ M1 else u k x ρ M1) x
theorem s_if {sa sb : List Stmt} (hc : DPT X E c θa) (ha : DPB X E sa τs) (hb : DPB X E sb τt) : DPS X E (.If c sa sb pos) (dIfS θa τs τt) := ps_mono (ps_if hc ha hb) fun D σ H h => by
  obtain ⟨ρ, s, k, x, rfl, er, q, p, px⟩ := h
  refine ⟨ρ, s, _, x, rfl, er, q, fun c s1 q1 st1 ok1 => ?_, px⟩
  cases c with
  | true =>
    rw [if_pos rfl] at q1 ⊢
    exact ⟨ρ, s1, k, x, rfl, er.step st1 ok1, q1, p.step st1, px.step st1⟩
  | false =>
    rw [if_neg Bool.false_ne_true] at q1 ⊢
    exact ⟨ρ, s1, k, x, rfl, er.step st1 ok1, q1, p.step st1, px.step st1⟩
/-- name = value -/
def dSet (i : Nat) (τ : DE) : DS := fun k x ρ M => τ ρ M (fun u M1 => k.nx (ρ.set i (some u)) M1) x
theorem s_set {i : Nat} {x : Str} {pos' : Pos} (hN : X.N.Nodup) (hi : X.N[i]? = some x) (hx : Loc X.env.scope x) (he : DP X E e τa) (hs : swapsWith e (some (.Name x pos')) pos.line X.env = pure false := by rfl) (hf : X.fn x = true ∨ X.env.scope.names.lookup x = some .local := by first | exact .inl rfl | exact .inr rfl | assumption) :
    DPS X E (.Assign [.Name x pos'] e pos) (dSet i τa) := ps_mono (ps_set hN hi hx he hs hf) fun D σ H h => by
  obtain ⟨ρ, s, k, x, rfl, er, q, p, px⟩ := h
  exact ⟨ρ, s, _, x, rfl, er, q, fun u s1 q1 st1 ok1 v1 r1 => p.nx _ s1 q1 st1 _ ((er.step st1 ok1).set i r1), px⟩
/-- a, b = x, y -/
def dPar (i j : Nat) (α : DA) : DS := fun k x ρ M => α ρ M (fun us M1 => ∃ u v, us = [u, v] ∧ k.nx ((ρ.set i (some u)).set j (some v)) M1) x
theorem s_par {i j : Nat} {x y : Str} {px py pt : Pos} {kt k2 pt2} (hc : X.calm = true) (hN : X.N.Nodup) (hi : X.N[i]? = some x) (hj : X.N[j]? = some y) (hij : i ≠ j)
    (hx : X.env.scope.names.lookup x = some .local) (hy : X.env.scope.names.lookup y = some .local) (ha : DPA X E [a, b] αa)
    (hw : swappedStores [.Tuple [.Name x px, .Name y py] kt pt] (.Tuple [a, b] k2 pt2) X.env = pure (some [x, y]))
    (hs : swapsWithSole [.Tuple [.Name x px, .Name y py] kt pt] (.Tuple [a, b] k2 pt2) pos.line X.env = pure false := by rfl) :
    DPS X E (.Assign [.Tuple [.Name x px, .Name y py] kt pt] (.Tuple [a, b] k2 pt2) pos) (dPar i j αa) := ps_mono (ps_par hc hN hi hj hij hx hy ha hw hs) fun D σ H h => by
  obtain ⟨ρ, s, k, x, rfl, er, q, p, px⟩ := h
  refine ⟨ρ, s, _, x, rfl, er, q, fun us s1 q1 st1 ok1 vs r1 => ?_, px⟩
  obtain ⟨u, v, rfl, q1⟩ := q1
  obtain ⟨u', v', rfl, ru, rv⟩ := r1.two
  exact ⟨u', v', rfl, p.nx _ s1 q1 st1 _ (((er.step st1 ok1).set i ru).set j rv)⟩
end
end DL
set_option Elab.async false
set_option linter.all false
set_option maxRecDepth 100000
set_option maxHeartbeats 2000000
namespace DL
open PySem PySem.Spec PyProof.Rows L2
/-- J gives the data ds, one by one, in s and whatever follows it -/
structure ItD (K : PySem.W.Frag) (s : Sta) (J : It) (ds : List D) : Prop where
  go : ∀ (i : Nat) (t : Sta), Step s t → Ok K t → i < ds.length → J.go i t.H
  stop : ∀ (t : Sta), Step s t → Ok K t → J.stop ds.length t.H
  yld : ∀ (i : Nat) (t : Sta) (x : V) (H' : Hp), Step s t → Ok K t → J.yld i t.H x H' → ∀ d, ds[i]? = some d → ∃ u : Sta, u.H = H' ∧ u.M = t.M ∧ Step t u ∧ Ok K u ∧ Rep K u.G x d
abbrev DI := DEnv → Mm → DKA → DX → Prop
def upI (K : PySem.W.Frag) (E : XK) (ι : DI) : TI := fun σ H R => ∃ ρ s k x, s.H = H ∧ ER K s σ ρ ∧ ι ρ s.M k x ∧ PostX K E s x ∧ ∀ (ds : List D) (t : Sta), k ds t.M → Step s t → Ok K t → ∀ J, ItD K t J ds → R J t.H
def DPI (X : Cx) (E : XK) (tg iter : Expr) (ι : DI) : Prop := PI X tg iter (upI X.K E ι)
section
variable {X : Cx} {E : XK} {e a b c : Expr} {pos : Pos} {tg iter : Expr} {τa τb : DE} {αa : DA}
theorem pi_mono {t t' : TI} (h : PI X tg iter t) (m : ∀ σ H R, t' σ H R → t σ H R) : PI X tg iter t' := ⟨fun pins s σ H R I q => h.run pins s σ H R I (m σ H R q)⟩
theorem itD_list {K : PySem.W.Frag} {s : Sta} {l : Addr} {vs : List V} {ds : List D} (h : s.G l = some (.lst vs)) (r : Reps K s.G vs ds) : ItD K s (Itl K l) ds := by
  have at_ : ∀ t, Step s t → Ok K t → SqL K t.H l vs := fun t st ok => SqL.of (ok.sub _ _ (st.same _ _ h))
  have hl := r.length
  refine ⟨fun i t st ok hi => ?_, fun t st ok => ⟨vs, at_ t st ok, by omega⟩, fun i t x H' st ok y d hd => ?_⟩
  · exact ⟨vs, vs[i]'(by omega), at_ t st ok, by simp [hl ▸ hi]⟩
  · obtain ⟨v, hv, rv⟩ := r.get hd
    have q := y.2 vs (at_ t st ok)
    rw [hv] at q
    cases q
    exact ⟨t, y.1.symm, rfl, Step.refl t, ok, rv.same st.same⟩
theorem itD_tup {K : PySem.W.Frag} {s : Sta} {l : Addr} {vs : List V} {ds : List D} (h : SqT K s.G l vs) (r : Reps K s.G vs ds) : ItD K s (Itt K l) ds := by
  have at_ : ∀ t, Step s t → Ok K t → SqT K t.H l vs := fun t st ok => Same.seqT ok.sub (Same.seqT st.same h)
  have hl := r.length
  refine ⟨fun i t st ok hi => ?_, fun t st ok => ⟨vs, at_ t st ok, by omega⟩, fun i t x H' st ok y d hd => ?_⟩
  · exact ⟨vs, vs[i]'(by omega), at_ t st ok, by simp [hl ▸ hi]⟩
  · obtain ⟨v, hv, rv⟩ := r.get hd
    have q := y.2 vs (at_ t st ok)
    rw [hv] at q
    cases q
    exact ⟨t, y.1.symm, rfl, Step.refl t, ok, rv.same st.same⟩
/-- a text's signs -/
def signs (x : Str) : List D := x.cps.toList.map fun c => D.str ⟨#[c]⟩
theorem itD_str {K : PySem.W.Frag} {s : Sta} (x : Str) : ItD K s (Its x) (signs x) := by
  have hl : (signs x).length = x.cps.size := by unfold signs; simp
  refine ⟨fun i t st ok hi => by rw [hl] at hi; exact hi, fun t st ok => by rw [hl]; exact Nat.le_refl _, fun i t v H' st ok y d hd => ?_⟩
  obtain ⟨e, c, hc, rfl⟩ := y
  have q : d = D.str ⟨#[c]⟩ := by
    unfold signs at hd
    rw [List.getElem?_map] at hd
    have : x.cps.toList[i]? = some c := by simpa using hc
    rw [this] at hd
    exact (Option.some.inj hd).symm
  subst q
  exact ⟨t, e.symm, rfl, Step.refl t, ok, .str⟩
def upto (lo : Int) (n : Nat) : List D := (List.range n).map fun i => D.int (lo + (i : Nat))
theorem upto_length (lo : Int) (n : Nat) : (upto lo n).length = n := by unfold upto; simp
theorem upto_get {lo : Int} {n i : Nat} {d : D} (h : (upto lo n)[i]? = some d) : i < n ∧ d = .int (lo + i) := by
  unfold upto at h
  rw [List.getElem?_map] at h
  by_cases hi : i < n
  · rw [List.getElem?_range hi] at h
    exact ⟨hi, (Option.some.inj h).symm⟩
  · rw [List.getElem?_eq_none (by simpa using hi)] at h
    cases h
theorem itD_range {K : PySem.W.Frag} {s : Sta} (lo : Int) (n : Nat) : ItD K s (Itr lo n) (upto lo n) := by
  refine ⟨fun i t st ok hi => by rw [upto_length] at hi; exact hi, fun t st ok => by rw [upto_length]; exact Nat.le_refl _, fun i t v H' st ok y d hd => ?_⟩
  obtain ⟨e, rfl⟩ := y
  obtain ⟨_, rfl⟩ := upto_get hd
  exact ⟨t, e.symm, rfl, Step.refl t, ok, .int⟩
/-- pairs of two lists -/
def zips : List D → List D → List D
  | x :: xs, y :: ys => .tup [x, y] :: zips xs ys
  | _, _ => []
theorem zips_get : ∀ {xs ys : List D} {i : Nat} {d : D}, (zips xs ys)[i]? = some d → ∃ x y, xs[i]? = some x ∧ ys[i]? = some y ∧ d = .tup [x, y]
  | [], _, _, _, h => by simp [zips] at h
  | _ :: _, [], _, _, h => by simp [zips] at h
  | x :: xs, y :: ys, 0, d, h => by simp [zips] at h; exact ⟨x, y, rfl, rfl, h.symm⟩
  | x :: xs, y :: ys, i + 1, d, h => by
    obtain ⟨u, v, h1, h2, h3⟩ := zips_get (xs := xs) (ys := ys) (i := i) (d := d) (by simpa [zips] using h)
    exact ⟨u, v, by simpa using h1, by simpa using h2, h3⟩
theorem zips_length : ∀ (xs ys : List D), (zips xs ys).length = min xs.length ys.length
  | [], _ => by simp [zips]
  | _ :: _, [] => by simp [zips]
  | x :: xs, y :: ys => by simp [zips, zips_length xs ys]
theorem yld_pair {K : PySem.W.Frag} {t : Sta} {T : Addr} {x y : V} {d e : D} (ok : Ok K t) (hT : t.H T = none) (rx : Rep K t.G x d) (ry : Rep K t.G y e) :
    ∃ u : Sta, u.H = upd t.H T (.tup [x, y]) ∧ u.M = t.M ∧ Step t u ∧ Ok K u ∧ Rep K u.G (.ref T) (.tup [d, e]) := by
  obtain ⟨k, st⟩ := ok.new (o := .tup [x, y]) hT
  exact ⟨⟨_, _, _⟩, rfl, rfl, st, k, .tup (SqT.of upd_same) (.cons (rx.same st.same) (.cons (ry.same st.same) .nil))⟩
theorem itD_zipL {K : PySem.W.Frag} {s : Sta} {l m : Addr} {vs us : List V} {ds es : List D} (h : s.G l = some (.lst vs)) (h' : s.G m = some (.lst us)) (r : Reps K s.G vs ds) (r' : Reps K s.G us es) : ItD K s (Itz K l m) (zips ds es) := by
  have at1 : ∀ t, Step s t → Ok K t → SqL K t.H l vs := fun t st ok => SqL.of (ok.sub _ _ (st.same _ _ h))
  have at2 : ∀ t, Step s t → Ok K t → SqL K t.H m us := fun t st ok => SqL.of (ok.sub _ _ (st.same _ _ h'))
  have hl := r.length
  have hl' := r'.length
  refine ⟨fun i t st ok hi => ?_, fun t st ok => ⟨vs, us, at1 t st ok, at2 t st ok, ?_⟩, fun i t x H' st ok y d hd => ?_⟩
  · rw [zips_length] at hi
    exact ⟨vs, us, vs[i]'(by omega), us[i]'(by omega), at1 t st ok, at2 t st ok, by simp, by simp⟩
  · rw [zips_length]; omega
  · obtain ⟨d1, d2, e1, e2, rfl⟩ := zips_get hd
    obtain ⟨T, x1, x2, rfl, hT, rfl, y1, y2⟩ := y
    obtain ⟨v1, w1, p1⟩ := r.get e1
    obtain ⟨v2, w2, p2⟩ := r'.get e2
    have q1 := y1 vs (at1 t st ok)
    have q2 := y2 us (at2 t st ok)
    rw [w1] at q1
    rw [w2] at q2
    cases q1
    cases q2
    exact yld_pair ok hT (p1.same st.same) (p2.same st.same)
theorem itD_zipT {K : PySem.W.Frag} {s : Sta} {l m : Addr} {vs us : List V} {ds es : List D} (h : SqT K s.G l vs) (h' : SqT K s.G m us) (r : Reps K s.G vs ds) (r' : Reps K s.G us es) : ItD K s (RZ.ItzT K l m) (zips ds es) := by
  have at1 : ∀ t, Step s t → Ok K t → SqT K t.H l vs := fun t st ok => Same.seqT ok.sub (Same.seqT st.same h)
  have at2 : ∀ t, Step s t → Ok K t → SqT K t.H m us := fun t st ok => Same.seqT ok.sub (Same.seqT st.same h')
  have hl := r.length
  have hl' := r'.length
  refine ⟨fun i t st ok hi => ?_, fun t st ok => ⟨vs, us, at1 t st ok, at2 t st ok, ?_⟩, fun i t x H' st ok y d hd => ?_⟩
  · rw [zips_length] at hi
    exact ⟨vs, us, vs[i]'(by omega), us[i]'(by omega), at1 t st ok, at2 t st ok, by simp, by simp⟩
  · rw [zips_length]; omega
  · obtain ⟨d1, d2, e1, e2, rfl⟩ := zips_get hd
    obtain ⟨T, x1, x2, rfl, hT, rfl, y1, y2⟩ := y
    obtain ⟨v1, w1, p1⟩ := r.get e1
    obtain ⟨v2, w2, p2⟩ := r'.get e2
    have q1 := y1 vs (at1 t st ok)
    have q2 := y2 us (at2 t st ok)
    rw [w1] at q1
    rw [w2] at q2
    cases q1
    cases q2
    exact yld_pair ok hT (p1.same st.same) (p2.same st.same)
/-- what a walked value gives -/
def dItems : D → DKA → Mm → Prop
  | .lst ds, k, M => k ds M
  | .tup ds, k, M => k ds M
  | .str x, k, M => k (signs x) M
  | _, _, _ => False
def iSeq (τ : DE) : DI := fun ρ M k x => τ ρ M (fun u M1 => dItems u k M1) x
theorem i_seq (he : DP X E e τa) : DPI X E tg e (iSeq τa) := by
  refine ⟨fun pins s σ H R I h => ?_⟩
  obtain ⟨ρ, s0, k, x, rfl, er, q, px, p⟩ := h
  refine thn (he.run pins s σ s0.H (fun v H1 => ∃ d t, t.H = H1 ∧ Step s0 t ∧ Ok X.K t ∧ Rep X.K t.G v d ∧ dItems d k t.M) I ⟨ρ, s0, _, x, rfl, er, q, fun d t q1 st1 ok1 v1 r1 => ⟨d, t, rfl, st1, ok1, r1, q1⟩, px⟩) fun v s1 ⟨y, H1, I1, r1, d, t, eH, st, ok, rd, q1⟩ => ?_
  subst eH
  cases rd with
  | lst ha rs =>
    rename_i a vs ds
    cases r1
    have hq : SqL X.K t.H a vs := SqL.of (ok.sub _ _ ha)
    obtain ⟨its, rv, pl, hz⟩ := I1.list hq
    refine wpAny_pyIter_list pl.isList ?_
    refine ⟨s1.heap.objs.size, [s1.heap.objs.size], _, _, t.H, rfl, I1.kept (t' := s1.toks) fun b o e => Heap.get?_push_of_some _ e, turn_list a _, ⟨_, Heap.get?_push_size _ rfl, rfl, rfl⟩, fun b hb => ?_, p ds t q1 st ok _ (itD_list ha rs)⟩
    have e : b = s1.heap.objs.size := by simpa using hb
    subst e
    exact I1.fpOk (Nat.le_refl _) (I1.hok.fresh (Nat.le_refl _))
  | tup ha rs =>
    rename_i a vs ds
    cases r1
    have hq : SqT X.K t.H a vs := (Same.seqT ok.sub ha)
    obtain ⟨its, rv, pl, hz⟩ := I1.tuple hq
    refine wpAny_pyIter_tuple (show s1.heap.IsTuple a its.toArray from pl) ?_
    refine ⟨s1.heap.objs.size, [s1.heap.objs.size], _, _, t.H, rfl, I1.kept (t' := s1.toks) fun b o e => Heap.get?_push_of_some _ e, turn_tuple a _, ⟨_, Heap.get?_push_size _ rfl, rfl, rfl⟩, fun b hb => ?_, p ds t q1 st ok _ (itD_tup ha rs)⟩
    have e : b = s1.heap.objs.size := by simpa using hb
    subst e
    exact I1.fpOk (Nat.le_refl _) (I1.hok.fresh (Nat.le_refl _))
  | str =>
    rename_i z
    obtain ⟨tt, rfl⟩ := r1
    have q2 := p (signs z) t q1 st ok _ (itD_str z)
    cases ha : z.cps.all (· < 128)
    · exact wpAny_pyIter_wide ha (pi_one (tk := s1.toks) I1 _ (turn_str _ z tt "str_iterator" (.inr rfl)) ⟨_, Heap.get?_push_size _ rfl, rfl, rfl⟩ q2)
    · exact wpAny_pyIter_ascii ha (pi_one (tk := s1.toks) I1 _ (turn_str _ z tt "str_ascii_iterator" (.inl rfl)) ⟨_, Heap.get?_push_size _ rfl, rfl, rfl⟩ q2)
  | _ => exact q1.elim
def iRange1 (α : DA) : DI := fun ρ M k x => α ρ M (fun us M1 => ∃ j : Int, us = [.int j] ∧ -(2 ^ 62) ≤ j ∧ j < 2 ^ 62 ∧ k (upto 0 j.toNat) M1) x
theorem i_range1 {p : Pos} (hg : Gl X "range") (hm : X.mg "range" = none) (ha : DPA X E [a] αa) (hs : starEach [a] X.env = [(false, eval a X.env)] := by rfl) : DPI X E tg (.Call (.Name "range" p) [a] [] pos) (iRange1 αa) :=
  pi_mono (pi_range1 hg hm ha hs) fun σ H R h => by
    obtain ⟨ρ, s, k, x, rfl, er, q, px, p⟩ := h
    refine ⟨ρ, s, _, x, rfl, er, q, fun us s1 q1 st1 ok1 vs r1 => ?_, px⟩
    obtain ⟨j, rfl, h1, h2, q1⟩ := q1
    obtain ⟨v, rfl, rv⟩ := r1.one
    exact ⟨j, by rw [rv.int_of], h1, h2, p _ s1 q1 st1 ok1 _ (itD_range 0 j.toNat)⟩
def iRange2 (α : DA) : DI := fun ρ M k x => α ρ M (fun us M1 => ∃ i j : Int, us = [.int i, .int j] ∧ (-(2 ^ 62) ≤ i ∧ i < 2 ^ 62 ∧ -(2 ^ 62) ≤ j ∧ j < 2 ^ 62) ∧ k (upto i (j - i).toNat) M1) x
theorem i_range2 {p : Pos} (hg : Gl X "range") (hm : X.mg "range" = none) (ha : DPA X E [a, b] αa) (hs : starEach [a, b] X.env = [(false, eval a X.env), (false, eval b X.env)] := by rfl) (hs2 : starEach [b] X.env = [(false, eval b X.env)] := by rfl) : DPI X E tg (.Call (.Name "range" p) [a, b] [] pos) (iRange2 αa) :=
  pi_mono (pi_range2 hg hm ha hs hs2) fun σ H R h => by
    obtain ⟨ρ, s, k, x, rfl, er, q, px, p⟩ := h
    refine ⟨ρ, s, _, x, rfl, er, q, fun us s1 q1 st1 ok1 vs r1 => ?_, px⟩
    obtain ⟨i, j, rfl, h1, q1⟩ := q1
    obtain ⟨v, w, rfl, rv, rw'⟩ := r1.two
    exact ⟨i, j, by rw [rv.int_of, rw'.int_of], h1, p _ s1 q1 st1 ok1 _ (itD_range i (j - i).toNat)⟩
def dZip : List D → DKA → Mm → Prop
  | [.lst a, .lst b], k, M => k (zips a b) M
  | [.tup a, .tup b], k, M => k (zips a b) M
  | _, _, _ => False
def iZip (α : DA) : DI := fun ρ M k x => α ρ M (fun us M1 => dZip us k M1) x
theorem i_zip {p tpos : Pos} {elts : List Expr} {kk : Nat} (hg : Gl X "zip") (hm : X.mg "zip" = none) (ha : DPA X E [a, b] αa) (hs : starEach [a, b] X.env = (false, eval a X.env) :: starEach [b] X.env := by rfl) (hpl : (backTo pos (starEach [b] X.env)).any (·.1) = false := by rfl) :
    DPI X E (.Tuple elts kk tpos) (.Call (.Name "zip" p) [a, b] [] pos) (iZip αa) :=
  pi_mono (RZ.pi_zipA hg hm ha hs hpl) fun σ H R h => by
    obtain ⟨ρ, s, k, x, rfl, er, q, px, p⟩ := h
    refine ⟨ρ, s, _, x, rfl, er, q, fun us s1 q1 st1 ok1 vs r1 => ?_, px⟩
    change dZip us k s1.M at q1
    unfold dZip at q1
    split at q1
    · obtain ⟨v, w, rfl, rv, rw'⟩ := r1.two
      obtain ⟨c, vs, rfl, hc, rs⟩ := rv.lst_of
      obtain ⟨d, ws, rfl, hd, rt⟩ := rw'.lst_of
      exact ⟨c, d, vs, ws, rfl, .inl ⟨SqL.of (ok1.sub _ _ hc), SqL.of (ok1.sub _ _ hd), p _ s1 q1 st1 ok1 _ (itD_zipL hc hd rs rt)⟩⟩
    · obtain ⟨v, w, rfl, rv, rw'⟩ := r1.two
      obtain ⟨c, vs, rfl, hc, rs⟩ := rv.tup_of
      obtain ⟨d, ws, rfl, hd, rt⟩ := rw'.tup_of
      exact ⟨c, d, vs, ws, rfl, .inr ⟨(Same.seqT ok1.sub hc), (Same.seqT ok1.sub hd), p _ s1 q1 st1 ok1 _ (itD_zipT hc hd rs rt)⟩⟩
    · exact q1.elim
abbrev DG := D → DEnv → Mm → (DEnv → Mm → Prop) → Prop
abbrev DGs := List D → DEnv → Mm → (DEnv → Mm → Prop) → Prop
def upG (K : PySem.W.Frag) (g : DG) : TG := fun v σ H Q => ∃ d ρ s k, s.H = H ∧ ER K s σ ρ ∧ Rep K s.G v d ∧ g d ρ s.M k ∧ PostN K s k Q
def upGs (K : PySem.W.Frag) (g : DGs) : TGs := fun vs σ H Q => ∃ ds ρ s k, s.H = H ∧ ER K s σ ρ ∧ Reps K s.G vs ds ∧ g ds ρ s.M k ∧ PostN K s k Q
def DPG (X : Cx) (tg : Expr) (g : DG) : Prop := PG X tg (upG X.K g)
def DPGs (X : Cx) (ts : List Expr) (g : DGs) : Prop := PGs X ts (upGs X.K g)
def gN (i : Nat) : DG := fun d ρ M k => k (ρ.set i (some d)) M
theorem pg_mono {t t' : TG} (h : PG X e t) (m : ∀ v σ H Q, t' v σ H Q → t v σ H Q) : PG X e t' := ⟨fun pins s σ H v u Q I r q => h.run pins s σ H v u Q I r (m v σ H Q q)⟩
theorem pgs_mono {es : List Expr} {t t' : TGs} (h : PGs X es t) (m : ∀ v σ H Q, t' v σ H Q → t v σ H Q) : PGs X es t' := ⟨fun pins s σ H v u Q I r q => h.run pins s σ H v u Q I r (m v σ H Q q)⟩
theorem g_name {i : Nat} {x : Str} (hN : X.N.Nodup) (hi : X.N[i]? = some x) (hx : Loc X.env.scope x) (hf : X.fn x = true ∨ X.env.scope.names.lookup x = some .local := by first | exact .inl rfl | exact .inr rfl | assumption) : DPG X (.Name x pos) (gN i) :=
  pg_mono (pg_name hN hi hx hf) fun v σ H Q h => by
    obtain ⟨d, ρ, s, k, rfl, er, r, q, p⟩ := h
    exact p _ s q (Step.refl s) _ (er.set i r)
def gsNil : DGs := fun ds ρ M k => ds = [] ∧ k ρ M
def gsCons (g : DG) (h : DGs) : DGs := fun ds ρ M k => ∃ d r, ds = d :: r ∧ g d ρ M fun ρ1 M1 => h r ρ1 M1 k
theorem gs_nil : DPGs X [] gsNil := pgs_mono pgs_nil fun vs σ H Q h => by
  obtain ⟨ds, ρ, s, k, rfl, er, r, ⟨rfl, q⟩, p⟩ := h
  cases r
  exact ⟨rfl, p _ s q (Step.refl s) _ er⟩
theorem gs_cons {es : List Expr} {g : DG} {h : DGs} (h1 : DPG X e g) (h2 : DPGs X es h) (hs : (assignEach (e :: es) X.env).map (·.2) = assign e X.env :: (assignEach es X.env).map (·.2) := by rfl) : DPGs X (e :: es) (gsCons g h) :=
  pgs_mono (pgs_cons h1 h2 hs) fun vs σ H Q hh => by
    obtain ⟨ds, ρ, s, k, rfl, er, r, ⟨d, dr, rfl, q⟩, p⟩ := hh
    cases r with
    | cons rv rs =>
      refine ⟨_, _, rfl, d, ρ, s, _, rfl, er, rv, q, fun ρ1 s1 q1 st1 σ1 er1 => ?_⟩
      exact ⟨dr, ρ1, s1, k, rfl, er1, rs.same st1.same, q1, p.step st1⟩
/-- (a, b, ..) = a tuple of that length -/
def gTupD (n : Nat) (g : DGs) : DG := fun d ρ M k => ∃ ds, d = .tup ds ∧ ds.length = n ∧ g ds ρ M k
theorem g_tup {es : List Expr} {k : Nat} {g : DGs} {n : Nat} (hc : X.calm = true) (h : DPGs X es g) (hn : (assignEach es X.env).length = n := by rfl) (hst : (assignEach es X.env).findIdx? (·.1) = none := by rfl) : DPG X (.Tuple es k pos) (gTupD n g) :=
  pg_mono (pg_tup hc h hn hst) fun v σ H Q hh => by
    obtain ⟨d, ρ, s, k, rfl, er, r, ⟨ds, rfl, hl, q⟩, p⟩ := hh
    obtain ⟨a, vs, rfl, ha, rs⟩ := r.tup_of
    exact ⟨a, vs, rfl, (Same.seqT er.ok.sub ha), by rw [rs.length]; exact hl, ds, ρ, s, k, rfl, er, rs, q, p⟩
/-- target = value -/
def dAsg (g : DG) (τ : DE) : DS := fun k x ρ M => τ ρ M (fun u M1 => g u ρ M1 k.nx) x
theorem s_asg {tg : Expr} {g : DG} (he : DP X E e τa) (hg : DPG X tg g) (hs : swapsWithSole [tg] e pos.line X.env = pure false := by rfl) (hw : swappedStores [tg] e X.env = pure none := by rfl)
    (h1 : (assignEach [tg] X.env).map (·.2) = [assign tg X.env] := by rfl) : DPS X E (.Assign [tg] e pos) (dAsg g τa) := ps_mono (ps_asg he hg hs hw h1) fun D σ H h => by
  obtain ⟨ρ, s, k, x, rfl, er, q, p, px⟩ := h
  exact ⟨ρ, s, _, x, rfl, er, q, fun u s1 q1 st1 ok1 v1 r1 => ⟨u, ρ, s1, k.nx, rfl, er.step st1 ok1, r1, q1, p.nx.step st1⟩, px⟩
/-- the turns over ds; I: what holds ahead of each turn -/
inductive ForK (g : DG) (β : DS) (k : DEnds) (x : DX) (ρ0 : DEnv) (ds : List D) (M0 : Mm) : Prop where
  | of (I : Nat → DEnv → Mm → Prop) (i0 : I 0 ρ0 M0) (turn : ∀ (j : Nat) (d : D) (ρ : DEnv) (M : Mm), ds[j]? = some d → I j ρ M → g d ρ M fun ρ1 M2 => β { k with nx := I (j + 1), bk := k.nx, ct := I (j + 1) } x ρ1 M2)
      (fin : ∀ ρ M, I ds.length ρ M → k.nx ρ M)
  | no (h : False)
def dFor (ι : DI) (g : DG) (β : DS) : DS := fun k x ρ M => ι ρ M (fun ds M1 => ForK g β k x ρ ds M1) x
theorem s_for {body : List Stmt} {ι : DI} {g : DG} {β : DS} (hp : PassesOwn (model X.prog X.w) X.A X.env X.xe) (hc : X.calm = true) (hi : DPI X E tg iter ι) (hg : DPG X tg g) (hb : DPB X E body β)
    (hs : ∀ x, foldedSetIterable iter X.env x = pure x := by intro _; rfl) : DPS X E (.For tg iter body [] pos) (dFor ι g β) := ps_mono (ps_for hp hc hi hg hb hs) fun D σ H h => by
  obtain ⟨ρ, s, k, x, rfl, er, q, p, px⟩ := h
  refine ⟨ρ, s, _, x, rfl, er, q, px, fun ds s1 q1 st1 ok1 J it => ?_⟩
  rcases q1 with ⟨I, i0, turn, fin⟩ | z
  case no => exact z.elim
  refine ⟨fun j m σ' H' => m = ds.length - j ∧ j ≤ ds.length ∧ ∃ ρ' s', s'.H = H' ∧ ER X.K s' σ' ρ' ∧ Step s1 s' ∧ I j ρ' s'.M, ⟨_, rfl, Nat.zero_le _, ρ, s1, rfl, er.step st1 ok1, Step.refl s1, i0⟩, ?_⟩
  rintro j m σ' H' ⟨rfl, hj, ρ', s', rfl, er', st', ij⟩
  by_cases hlt : j < ds.length
  · refine .inr ⟨it.go j s' st' er'.ok hlt, fun σ2 H2 => ∃ ρ2 s2, s2.H = H2 ∧ ER X.K s2 σ2 ρ2 ∧ Step s1 s2 ∧ I (j + 1) ρ2 s2.M, ?_, ?_⟩
    · rintro σ2 H2 ⟨ρ2, s2, e2, er2, st2, i2⟩
      exact ⟨ds.length - (j + 1), by omega, rfl, hlt, ρ2, s2, e2, er2, st2, i2⟩
    · intro v H2 y
      obtain ⟨d, hd⟩ : ∃ d, ds[j]? = some d := ⟨ds[j], by simp [hlt]⟩
      obtain ⟨u, rfl, eM, stu, oku, ru⟩ := it.yld j s' v H2 st' er'.ok y d hd
      have ij' : I j ρ' u.M := by rw [eM]; exact ij
      refine ⟨d, ρ', u, _, rfl, er'.step stu oku, ru, turn j d ρ' u.M hd ij', fun ρ3 s3 q3 st3 σ3 er3 => ?_⟩
      have sb : Step s1 s3 := (st'.trans stu).trans st3
      refine ⟨ρ3, s3, _, x, rfl, er3, q3, ⟨fun ρ4 s4 q4 st4 σ4 er4 => ⟨ρ4, s4, rfl, er4, sb.trans st4, q4⟩, ?_, fun ρ4 s4 q4 st4 σ4 er4 => p.nx ρ4 s4 q4 ((st1.trans sb).trans st4) σ4 er4, fun ρ4 s4 q4 st4 σ4 er4 => ⟨ρ4, s4, rfl, er4, sb.trans st4, q4⟩⟩, px.step (st1.trans sb)⟩
      obtain ⟨b, b1, b2, b3, b4⟩ := p.rt
      exact ⟨b, b1.trans (st1.trans sb), b2, b3, b4⟩
  · have ej : j = ds.length := by omega
    subst ej
    exact .inl ⟨it.stop s' st' er'.ok, p.nx ρ' s' (fin ρ' s'.M ij) (st1.trans st') σ' er'⟩
def wipeD (ρ : DEnv) : List Nat → DEnv
  | [] => ρ
  | v :: vs => (wipeD ρ vs).set v none
theorem ER.wipe {K : PySem.W.Frag} {s : Sta} {σ : L2.St} {ρ : DEnv} (er : ER K s σ ρ) : ∀ vs : List Nat, ER K s (wipe σ vs) (wipeD ρ vs)
  | [] => er
  | v :: vs => (er.wipe vs).unset v
/-- the turns of a comprehension; I: what holds ahead of each turn of the list made so far -/
inductive LcK (g : DG) (θ : DT) (ε : DE) (vs : List Nat) (ρ : DEnv) (ds : List D) (M0 : Mm) (k : DK) : Prop where
  | of (hl : ds.length < sizeLine) (I : Nat → List D → Mm → Prop) (i0 : I 0 [] M0)
      (turn : ∀ (j : Nat) (d : D) (acc : List D) (M : Mm), ds[j]? = some d → I j acc M → g d (wipeD ρ vs) M fun ρ1 M2 => θ ρ1 M2 (fun b M3 => if b = true then ε ρ1 M3 (fun y M4 => I (j + 1) (acc ++ [y]) M4) (fun _ _ _ => False) else I (j + 1) acc M3) (fun _ _ _ => False))
      (fin : ∀ acc M, I ds.length acc M → k (.lst acc) M)
  | no (h : False)
def dLc (ι : DI) (g : DG) (θ : DT) (ε : DE) (vs : List Nat) : DE := fun ρ M k x => ι ρ M (fun ds M1 => LcK g θ ε vs ρ ds M1 k) x
def DPTs (X : Cx) (E : XK) (ifs : List Expr) (θ : DT) : Prop := PTs X ifs (upT X.K E θ)
def dYes : DT := fun _ M k _ => k true M
theorem ts_nil : DPTs X E [] dYes := ⟨fun pins s σ H Q I h => by
  obtain ⟨ρ, s0, k, x, rfl, er, q, p, px⟩ := h
  exact pts_nil.run pins s σ s0.H Q I (p true s0 q (Step.refl s0) er.ok)⟩
theorem ts_one {θ : DT} (h : DPT X E c θ) : DPTs X E [c] θ := pts_one h
/-- a target, over values and over data; the slots of vs alone are set -/
structure GPair (K : PySem.W.Frag) (g : TG) (γ : DG) (vs : List Nat) : Prop where
  run : ∀ (v : V) (d : D) (σ : L2.St) (ρ : DEnv) (s : Sta) (k : DEnv → Mm → Prop) (Q : L2.St → Hp → Prop), ER K s σ ρ → Rep K s.G v d → γ d ρ s.M k →
    (∀ ρ' σ', k ρ' s.M → ER K s σ' ρ' → wipe σ' vs = wipe σ vs → Q σ' s.H) → g v σ s.H Q
structure GsPair (K : PySem.W.Frag) (g : TGs) (γ : DGs) (vs : List Nat) : Prop where
  run : ∀ (v : List V) (d : List D) (σ : L2.St) (ρ : DEnv) (s : Sta) (k : DEnv → Mm → Prop) (Q : L2.St → Hp → Prop), ER K s σ ρ → Reps K s.G v d → γ d ρ s.M k →
    (∀ ρ' σ', k ρ' s.M → ER K s σ' ρ' → wipe σ' vs = wipe σ vs → Q σ' s.H) → g v σ s.H Q
theorem wipe_set (σ : L2.St) (i : Nat) (v : Option V) : ∀ vs : List Nat, i ∈ vs → wipe (σ.set i v) vs = wipe σ vs
  | [], h => by cases h
  | j :: vs, h => by
    unfold wipe
    by_cases e : i ∈ vs
    · rw [wipe_set σ i v vs e]
    · have hj : i = j := by
        rcases List.mem_cons.mp h with z | z
        · exact z
        · exact absurd z e
      subst hj
      have key : ∀ us : List Nat, i ∉ us → wipe (σ.set i v) us = (wipe σ us).set i v := by
        intro us
        induction us with
        | nil => intro _; rfl
        | cons u us ih =>
          intro hn
          unfold wipe
          rw [ih (fun z => hn (List.mem_cons_of_mem _ z))]
          exact List.set_comm _ _ (fun z => hn (by rw [z]; exact List.mem_cons_self))
      rw [key vs e, List.set_set]
theorem wipe_wipe (σ : L2.St) : ∀ vs : List Nat, wipe (wipe σ vs) vs = wipe σ vs := by
  have h : ∀ (us vs : List Nat), (∀ u ∈ us, u ∈ vs) → wipe (wipe σ us) vs = wipe σ vs := by
    intro us
    induction us with
    | nil => intro vs _; rfl
    | cons u us ih =>
      intro vs hs
      show wipe ((wipe σ us).set u none) vs = wipe σ vs
      rw [wipe_set _ _ _ _ (hs u List.mem_cons_self)]
      exact ih vs fun z hz => hs z (List.mem_cons_of_mem _ hz)
  exact fun vs => h vs vs fun _ z => z
theorem gp_name {K : PySem.W.Frag} {i : Nat} {vs : List Nat} (h : i ∈ vs) : GPair K (gName i) (gN i) vs :=
  ⟨fun v d σ ρ s k Q er r q f => f _ _ q (er.set i r) (wipe_set σ i _ vs h)⟩
theorem gps_nil {K : PySem.W.Frag} {vs : List Nat} : GsPair K gNil gsNil vs :=
  ⟨fun v d σ ρ s k Q er r q f => by
    obtain ⟨rfl, q⟩ := q
    cases r
    exact ⟨rfl, f _ _ q er rfl⟩⟩
theorem gps_cons {K : PySem.W.Frag} {vs : List Nat} {g : TG} {γ : DG} {gs : TGs} {γs : DGs} (h : GPair K g γ vs) (hs : GsPair K gs γs vs) : GsPair K (gCons g gs) (gsCons γ γs) vs :=
  ⟨fun v d σ ρ s k Q er r q f => by
    obtain ⟨d1, dr, rfl, q⟩ := q
    cases r with
    | cons rv rs =>
      exact ⟨_, _, rfl, h.run _ d1 σ ρ s _ _ er rv q fun ρ' σ' q' er' w' => hs.run _ dr σ' ρ' s k Q er' rs q' fun ρ2 σ2 q2 er2 w2 => f ρ2 σ2 q2 er2 (w2.trans w')⟩⟩
theorem gp_tup {K : PySem.W.Frag} {vs : List Nat} {n : Nat} {gs : TGs} {γs : DGs} (hs : GsPair K gs γs vs) : GPair K (gTup K n gs) (gTupD n γs) vs :=
  ⟨fun v d σ ρ s k Q er r q f => by
    obtain ⟨ds, rfl, hl, q⟩ := q
    obtain ⟨a, us, rfl, ha, rs⟩ := r.tup_of
    exact ⟨a, us, rfl, (Same.seqT er.ok.sub ha), by rw [rs.length]; exact hl, hs.run _ ds σ ρ s k Q er rs q f⟩⟩
theorem up_lc {K : PySem.W.Frag} {ι : DI} {g : TG} {γ : DG} {θ : DT} {ε : DE} {vs : List Nat} {σ : L2.St} {H : Hp} {Q : VK} (gp : GPair K g γ vs) (h : up K E (dLc ι γ θ ε vs) σ H Q) : tLc (upI K E ι) g (upT K E0 θ) (up K E0 ε) vs σ H Q := by
  obtain ⟨ρ, s, k, x, rfl, er, q, p, px⟩ := h
  refine ⟨ρ, s, _, x, rfl, er, q, px, fun ds s1 q1 st1 ok1 J it => ?_⟩
  rcases q1 with ⟨hlen, I, i0, turn, fin⟩ | z
  case no => exact z.elim
  intro L hL
  -- the list at L is hidden while it grows
  have inv0 : ∃ (acc : List D) (vs' : List V) (s' : Sta), s'.H = upd s1.H L (.lst []) ∧ Ok K s' ∧ Step s1 s' ∧ s'.G L = none ∧ s'.M L = none ∧ s'.H L = some (.lst vs') ∧ Reps K s'.G vs' acc ∧ acc.length ≤ 0 ∧ I 0 acc s'.M := by
    obtain ⟨k1, st⟩ := ok1.hide (o := .lst []) (Step.refl s1) hL (ok1.freeG hL) (ok1.freeM hL)
    exact ⟨[], [], ⟨_, _, _⟩, rfl, k1, st, ok1.freeG hL, ok1.freeM hL, upd_same, .nil, Nat.le_refl _, i0⟩
  refine ⟨fun j m H' => m = ds.length - j ∧ j ≤ ds.length ∧ ∃ (acc : List D) (vs' : List V) (s' : Sta), s'.H = H' ∧ Ok K s' ∧ Step s1 s' ∧ s'.G L = none ∧ s'.M L = none ∧ s'.H L = some (.lst vs') ∧ Reps K s'.G vs' acc ∧ acc.length ≤ j ∧ I j acc s'.M,
    ⟨ds.length, rfl, Nat.zero_le _, inv0⟩, ?_⟩
  rintro j m H' ⟨rfl, hj, acc, vs', s', rfl, ok', st', gL, mL, hL', rs, hal, ij⟩
  by_cases hlt : j < ds.length
  · refine .inr ⟨it.go j s' st' ok' hlt, fun H2 => ∃ (acc : List D) (vs' : List V) (s' : Sta), s'.H = H2 ∧ Ok K s' ∧ Step s1 s' ∧ s'.G L = none ∧ s'.M L = none ∧ s'.H L = some (.lst vs') ∧ Reps K s'.G vs' acc ∧ acc.length ≤ j + 1 ∧ I (j + 1) acc s'.M,
      fun H2 z => ⟨ds.length - (j + 1), by omega, rfl, hlt, z⟩, fun v H2 y => ?_⟩
    obtain ⟨d, hd⟩ : ∃ d, ds[j]? = some d := ⟨ds[j], by simp [hlt]⟩
    obtain ⟨u, rfl, eM, stu, oku, ru⟩ := it.yld j s' v H2 st' ok' y d hd
    have ij' : I j acc u.M := by rw [eM]; exact ij
    obtain ⟨hLu, gLu, mLu⟩ := stu.hid L _ hL' gL mL
    have eru : ER K u (wipe σ vs) (wipeD ρ vs) := (er.step ((st1.trans st').trans stu) oku).wipe vs
    refine gp.run v d _ _ u _ _ eru ru (turn j d acc u.M hd ij') fun ρ3 σ3 q3 er3 w3 => ⟨w3.trans (wipe_wipe σ vs), ?_⟩
    refine ⟨ρ3, u, _, _, rfl, er3, q3, fun b s4 q4 st4 ok4 => ?_, PostX.never⟩
    obtain ⟨hL4, gL4, mL4⟩ := st4.hid L _ hLu gLu mLu
    cases b with
    | true =>
      rw [if_pos rfl] at q4 ⊢
      refine ⟨ρ3, s4, _, _, rfl, er3.step st4 ok4, q4, fun yd s5 q5 st5 ok5 yv ry => ?_, PostX.never⟩
      obtain ⟨hL5, gL5, mL5⟩ := st5.hid L _ hL4 gL4 mL4
      have rs5 : Reps K s5.G vs' acc := rs.same ((stu.trans st4).trans st5).same
      refine ⟨vs', hL5, by rw [rs5.length]; omega, ?_⟩
      obtain ⟨k6, st6⟩ := ok5.hide (o := .lst (vs' ++ [yv])) (((st'.trans stu).trans st4).trans st5) hL gL5 mL5
      exact ⟨acc ++ [yd], vs' ++ [yv], ⟨_, _, _⟩, rfl, k6, st6, gL5, mL5, upd_same, rs5.append (.cons ry .nil), by simp; omega, q5⟩
    | false =>
      rw [if_neg Bool.false_ne_true] at q4 ⊢
      exact ⟨acc, vs', s4, rfl, ok4, (st'.trans stu).trans st4, gL4, mL4, hL4, rs.same (stu.trans st4).same, by omega, q4⟩
  · have ej : j = ds.length := by omega
    subst ej
    refine .inl ⟨it.stop s' st' ok', ?_⟩
    obtain ⟨k6, st6, sm⟩ := ok'.shown st' hL gL mL hL'
    exact p _ ⟨s'.H, upd s'.G L (.lst vs'), s'.M⟩ (fin acc s'.M ij) (st1.trans st6) k6 _ (.lst upd_same (rs.same sm))
variable {elt : Expr} {ifs : List Expr} {scope : Scope} {own : List (Str × Nat)} {ι : DI} {g : TG} {γ : DG} {θ : DT} {ε : DE}
theorem d_lc (hc : X.calm = true) (hN : X.N.Nodup) (hi : DPI X E tg iter ι) (ok : BlkOk X.N X.env.scope scope own) (gp : GPair X.K g γ (own.map (·.2)))
    (hg : ∀ (s : Shared) (H : Hp) (C : Addr) (cl : List (Str × Addr)) (fp : List Addr), PG (X.blk s H scope (compEnvC scope cl C X.env) fp) tg g) (ht : ∀ (s : Shared) (H : Hp) (C : Addr) (cl : List (Str × Addr)) (fp : List Addr), DPTs (X.blk s H scope (compEnvC scope cl C X.env) fp) E0 ifs θ)
    (he : ∀ (s : Shared) (H : Hp) (C : Addr) (cl : List (Str × Addr)) (fp : List Addr), DP (X.blk s H scope (compEnvC scope cl C X.env) fp) E0 elt ε) (hs : ∀ x, foldedSetIterable iter X.env x = pure x := by intro _; rfl) :
    DP X E (.ListComp elt [⟨tg, iter, ifs, 0⟩] scope pos) (dLc ι γ θ ε (own.map (·.2))) := pe_mono (pe_lc (tt := upT X.K E0 θ) (te := up X.K E0 ε) hc hN hi ok hg ht he hs) fun _ _ _ h => up_lc gp h
theorem s_setLc {i : Nat} {y : Str} {py spos : Pos} (hc : X.calm = true) (hN : X.N.Nodup) (hy : X.N[i]? = some y) (hyl : X.env.scope.names.lookup y = some .local)
    (hsw : swapsWith (.ListComp elt [⟨tg, iter, ifs, 0⟩] scope pos) (some (.Name y py)) spos.line X.env = pure true) (hi : DPI X E tg iter ι) (ok : BlkOk X.N X.env.scope scope own) (gp : GPair X.K g γ (own.map (·.2)))
    (hg : ∀ (s : Shared) (H : Hp) (C : Addr) (cl : List (Str × Addr)) (fp : List Addr), PG (X.blk s H scope (compEnvC scope cl C X.env) fp) tg g) (ht : ∀ (s : Shared) (H : Hp) (C : Addr) (cl : List (Str × Addr)) (fp : List Addr), DPTs (X.blk s H scope (compEnvC scope cl C X.env) fp) E0 ifs θ)
    (he : ∀ (s : Shared) (H : Hp) (C : Addr) (cl : List (Str × Addr)) (fp : List Addr), DP (X.blk s H scope (compEnvC scope cl C X.env) fp) E0 elt ε) (hs : ∀ x, foldedSetIterable iter X.env x = pure x := by intro _; rfl) :
    DPS X E (.Assign [.Name y py] (.ListComp elt [⟨tg, iter, ifs, 0⟩] scope pos) spos) (dSet i (dLc ι γ θ ε (own.map (·.2)))) := ps_mono (ps_setLc (tt := upT X.K E0 θ) (te := up X.K E0 ε) hc hN hy hyl hsw hi ok hg ht he hs) fun D σ H h => by
  obtain ⟨ρ, s, k, x, rfl, er, q, p, px⟩ := h
  refine up_lc gp ⟨ρ, s, _, x, rfl, er, q, fun u s1 q1 st1 ok1 v1 r1 => p.nx _ s1 q1 st1 _ ((er.step st1 ok1).set i r1), px⟩
end
end DL
set_option Elab.async false
set_option linter.all false
set_option maxRecDepth 100000
set_option maxHeartbeats 2000000
namespace DL
open PySem PySem.Spec PyProof.Rows L2
abbrev Ct := List D → Mm → DK → DX → Prop
def spD (K : PySem.W.Frag) (n : Nat) (φ : Ct) : Sp := fun vs H Q E => ∃ s ds k x, s.H = H ∧ Ok K s ∧ Reps K s.G vs ds ∧ ds.length = n ∧ φ ds s.M k x ∧ Post K s k Q ∧ PostX K E s x
theorem spD_len {K : PySem.W.Frag} {n : Nat} {φ : Ct} {vs : List V} {H : Hp} {Q : VK} {E : XK} (h : spD K n φ vs H Q E) : vs.length = n := by
  obtain ⟨s, ds, k, x, _, _, r, hl, _⟩ := h
  rw [r.length]
  exact hl
def startD (N : List Str) (ds : List D) : DEnv := ds.map some ++ List.replicate (N.length - ds.length) none
theorem er_start {K : PySem.W.Frag} {s : Sta} {N : List Str} {vs : List V} {ds : List D} (o : Ok K s) (r : Reps K s.G vs ds) : ER K s (L2.start N vs) (startD N ds) := by
  have hl := r.length
  refine ⟨o, by simp [L2.start, startD, hl], fun i d h => ?_⟩
  unfold startD at h
  by_cases hi : i < ds.length
  · rw [List.getElem?_append_left (by simpa using hi), List.getElem?_map] at h
    cases e : ds[i]? with
    | none => rw [e] at h; cases h
    | some d' =>
      rw [e] at h
      have h' : d' = d := by simpa using h
      subst h'
      obtain ⟨v, hv, rv⟩ := r.get e
      refine ⟨v, ?_, rv⟩
      unfold L2.start
      rw [List.getElem?_append_left (by simpa [hl] using hi), List.getElem?_map, hv]
      rfl
  · rw [List.getElem?_append_right (by simpa using hi)] at h
    rw [List.getElem?_replicate] at h
    split at h <;> cases h
/-- what a def lets out is what its context takes -/
theorem pass_own {X : Cx} {E : XK} {E₁ : Value → Shared → Prop} (hs : X.stack = X.env :: X.outer) (hf : X.env.frame = some X.env.locals) (hex : X.ex = [])
    (hx : X.xe = fun e s' => wpAny (model X.prog X.w) X.A (leaving X.env e) (fun _ s'' => L2.CX X.prog X.w X.outer X.H_0 X.s_0 E e s'') E₁ s') : Passes (L2.CX X.prog X.w) X E :=
  passes_call (takes_of hs hf hex hx) fun _ _ _ _ h => h
section
variable {P : Program} {w : World} {K : PySem.W.Frag} {mg : Str → Option Value} {base : Heap}
/-- THE RULE for a def -/
theorem fn_D {x qual : Str} {params : Arguments} {body : List Stmt} {scope : Scope} {dvs : List V} {kws : List (Str × V)} {f : Addr} {fd : FuncData} {N ps : List Str} {k n : Nat} {φ : Ct} (F : FunD K x qual params body scope dvs kws f fd) (S : FnScope N ps scope) (hn : n = ps.length)
    (h : ∀ (cdv : Value) (A : Around) (outer : List Env) (s : Shared) (H : Hp) (E : XK), Room k (A.deeper (envOfC qual scope s.heap.objs.size f cdv)) →
      Passes (L2.CX P w) (cxOf (L2.CX P w) P w K mg base N qual scope f cdv A outer s H E) E → PassesOwn (model P w) (cxOf (L2.CX P w) P w K mg base N qual scope f cdv A outer s H E).A (cxOf (L2.CX P w) P w K mg base N qual scope f cdv A outer s H E).env (cxOf (L2.CX P w) P w K mg base N qual scope f cdv A outer s H E).xe →
      ∃ τ, DPB (cxOf (L2.CX P w) P w K mg base N qual scope f cdv A outer s H E) E body τ ∧
        ∀ (ds : List D) (M : Mm) (kk : DK) (x : DX), ds.length = n → φ ds M kk x → τ { nx := fun _ M => kk .non M, rt := kk, m0 := M } x (startD N ds) M) : FnOk P w K mg base (L2.CX P w) (k + 1) f fd ps (spD K n φ) := by
  refine F.ok (CX := L2.CX P w) S (fun vs H Q E q => by rw [spD_len q, hn]) fun cdv A outer s H vs Q E hr q => ?_
  obtain ⟨τ, ht, hq⟩ := h cdv A outer s H E hr (pass_own rfl rfl rfl rfl) (passes_of rfl)
  refine ⟨_, ht, ?_⟩
  obtain ⟨s0, ds, kk, xx, rfl, o, r, hl, f, p, px⟩ := q
  exact ⟨_, s0, _, xx, rfl, er_start o r, hq ds s0.M kk xx hl f, ⟨fun ρ t q st σ er => p _ t q st er.ok _ .non, ⟨s0, Step.refl s0, o, rfl, p⟩, fun _ _ z => z.elim, fun _ _ z => z.elim⟩, px⟩
end
section
variable {X : Cx} {CX : CXT} {E : XK} {k n : Nat} {f C : Addr} {fd : FuncData} {ps ks : List Str} {φ : Ct} {x m : Str} {p pos apos : Pos} {e o : Expr} {es : List Expr} {kws : List Keyword} {αa ακ : DA} {τo τv : DE} {g : List Value → List Value → List Value} {gV : List V → List V → List V} {gD : List D → List D → List D}
/-- how arguments bind, over data: n positional values, keywords named ks -/
structure KBd (K : PySem.W.Frag) (fd : FuncData) (ps : List Str) (n : Nat) (ks : List Str) (gD : List D → List D → List D) : Prop where
  ex : ∃ (g : List Value → List Value → List Value) (gV : List V → List V → List V), KBn K fd ps n ks g gV ∧ ∀ {G : Hp} {vs : List V} {us : List D} {zs : List V} {ws : List D}, Reps K G vs us → Reps K G zs ws → us.length = n → ws.length = ks.length → Reps K G (gV vs zs) (gD us ws)
def DPK (X : Cx) (E : XK) (kws : List Keyword) (τ : DA) : Prop := PK X kws (upA X.K E τ)
theorem pk_mono {t t' : TA} (h : PK X kws t) (m : ∀ σ H Q, t' σ H Q → t σ H Q) : PK X kws t' := ⟨fun p pins s σ H Q I q => h.run p pins s σ H Q I (m σ H Q q)⟩
theorem k_nil : DPK X E [] dNil := pk_mono pk_nil fun σ H Q h => by
  obtain ⟨ρ, s, k, x, rfl, er, q, p, px⟩ := h
  exact p [] s q (Step.refl s) er.ok [] .nil
theorem run_D {nn : Nat} {pins : List (Addr × Obj)} {σ : L2.St} {H : Hp} {s : Shared} {Q : VK} {us ws : List Value} {vs zs : List V} (F : FnOk X.prog X.w X.K X.mg X.base CX k f fd ps (spD X.K nn φ)) (hr : Room k X.A) (hb : KBd X.K fd ps n ks gD) (hx : Passes CX X E)
    (I : Inv X pins σ H s) (r : Vals vs us) (rz : Vals zs ws) (h : ∃ s ds zd k x, s.H = H ∧ Ok X.K s ∧ Reps X.K s.G vs ds ∧ Reps X.K s.G zs zd ∧ ds.length = n ∧ zd.length = ks.length ∧ (gD ds zd).length = nn ∧ φ (gD ds zd) s.M k x ∧ Post X.K s k Q ∧ PostX X.K E s x) :
    wpAny (model X.prog X.w) X.A (call (.ref f) us (ks.zip ws)) (EP X pins σ Q) X.xe s := by
  obtain ⟨s0, ds, zd, kk, xx, rfl, o, r1, r2, l1, l2, ln, q, p, px⟩ := h
  obtain ⟨g, gV, hb, hrep⟩ := hb.ex
  have rr := hb.rel r rz
  have e1 : us.length = n := r.length.symm.trans (r1.length.trans l1)
  have e2 : ws.length = ks.length := rz.length.symm.trans (r2.length.trans l2)
  have hs : spD X.K nn φ (gV vs zs) s0.H Q E := ⟨s0, gD ds zd, kk, xx, rfl, o, hrep r1 r2 l1 l2, ln, q, p, px⟩
  refine wpAny_call (codeAny_mono (F.run X.A X.stack s s0.H ⟨us, ks.zip ws⟩ (g us ws) (gV vs zs) Q E hr I.env0 (hb.to s us ws I.kIn e1 e2) rr hs) fun r s' hq => ?_)
  cases r with
  | error e => exact hx pins σ s0.H s e s' I hq
  | ok fl =>
    cases fl with
    | ret u => exact I.after hq
    | next => exact False.elim hq
    | brk => exact False.elim hq
    | cont => exact False.elim hq
def dCall (n : Nat) (φ : Ct) (gD : List D → List D → List D) (α : DA) : DE := fun ρ M k x => α ρ M (fun ds M1 => ds.length = n ∧ φ (gD ds []) M1 k x) x
variable {nn : Nat} (hgl : ∀ us ws : List D, us.length = n → ws.length = ks.length → (gD us ws).length = nn)
theorem d_call (F : FnOk X.prog X.w X.K X.mg X.base CX k f fd ps (spD X.K nn φ)) (hr : Room k X.A) (hg : Gl X x) (hm : X.mg x = some (.ref f)) (hk : PySem.W.keepIn X.K (.ref f) = true) (hb : KBd X.K fd ps n [] gD) (hgl : ∀ us ws : List D, us.length = n → ws.length = 0 → (gD us ws).length = nn) (hx : Passes CX X E)
    (ha : DPA X E (e :: es) αa) (hdb : (x == ("__debug__" : Str)) = false := by decide) (he : starEach (e :: es) X.env = (false, eval e X.env) :: starEach es X.env := by rfl) (hpl : (backTo pos (starEach es X.env)).any (·.1) = false := by rfl) :
    DP X E (.Call (.Name x p) (e :: es) [] pos) (dCall n φ gD αa) := by
  refine ⟨fun pins s σ H Q I h => ?_⟩
  obtain ⟨ρ, s0, kk, xx, rfl, er, q, pp, px⟩ := h
  refine wpAny_Call_Name_kw (ld_glob I hg hm ?_ hdb)
  refine PySem.W.callWith_K (h₀ := X.base) I.ok.mod.kin hk (thn (ha.run pos pins s σ s0.H (fun vs H1 => ∃ s1 ds, s1.H = H1 ∧ Ok X.K s1 ∧ Step s0 s1 ∧ Reps X.K s1.G vs ds ∧ ds.length = n ∧ φ (gD ds []) s1.M kk xx) I ⟨ρ, s0, _, xx, rfl, er, q, fun ds s1 q1 st1 ok1 vs r1 => ⟨s1, ds, rfl, ok1, st1, r1, q1⟩, px⟩) fun us s1 ⟨vs, H1, I1, r, s2, ds, e2, ok2, st2, r2, l2, q2⟩ => ⟨I1.kIn, ?_⟩) he hpl
  subst e2
  exact run_D (ws := []) (zs := []) F hr hb hx I1 r .nil ⟨s2, ds, [], kk, xx, rfl, ok2, r2, .nil, l2, rfl, hgl _ _ l2 rfl, q2, pp.step st2, px.step st2⟩
theorem d_call0 (F : FnOk X.prog X.w X.K X.mg X.base CX k f fd ps (spD X.K nn φ)) (hr : Room k X.A) (hg : Gl X x) (hm : X.mg x = some (.ref f)) (hk : PySem.W.keepIn X.K (.ref f) = true) (hb : KBd X.K fd ps 0 [] gD) (hgl : (gD [] []).length = nn) (hx : Passes CX X E) (hdb : (x == ("__debug__" : Str)) = false := by decide) :
    DP X E (.Call (.Name x p) [] [] pos) (dCall 0 φ gD dNil) := by
  refine ⟨fun pins s σ H Q I h => ?_⟩
  obtain ⟨ρ, s0, kk, xx, rfl, er, ⟨_, q⟩, pp, px⟩ := h
  refine wpAny_Call_Name_kw (ld_glob I hg hm ?_ hdb)
  exact PySem.W.callWith_K0 I.kIn hk (run_D (us := []) (vs := []) (ws := []) (zs := []) F hr hb hx I .nil .nil ⟨s0, [], [], kk, xx, rfl, er.ok, .nil, .nil, rfl, rfl, hgl, q, pp, px⟩)
end
/-- every parameter is written, in order -/
theorem kbd_plain {K : PySem.W.Frag} {fd : FuncData} {ps : List Str} {n : Nat} (hn : n = ps.length) (h : ∀ us : List Value, us.length = ps.length → bindArgs fd ⟨us, []⟩ = pure (ps.zip us)) : KBd K fd ps n [] (fun us _ => us) :=
  ⟨⟨fun us _ => us, fun vs _ => vs, ⟨fun s us ws _ l1 l2 => by
    have e : ws = [] := List.eq_nil_of_length_eq_zero l2
    subst e
    exact .of_eq (h us (l1.trans hn)), fun r _ => r⟩, fun r _ _ _ => r⟩⟩
end DL
set_option Elab.async false
set_option linter.all false
set_option maxRecDepth 100000
set_option maxHeartbeats 2000000
namespace DL
open PySem PySem.Spec PyProof.Rows L2
section
variable {X : Cx} {E : XK} {e a b c : Expr} {pos : Pos} {τa τb τc : DE} {αa : DA} {es : List Expr}
def dAdd : D2
  | .int i, .int j, M, k, _ => k (.int (i + j)) M
  | .str i, .str j, M, k, _ => i.length + j.length ≤ sizeLine ∧ k (.str (i ++ j)) M
  | .lst i, .lst j, M, k, _ => i.length + j.length ≤ sizeLine ∧ k (.lst (i ++ j)) M
  | .tup i, .tup j, M, k, _ => i.length + j.length ≤ sizeLine ∧ k (.tup (i ++ j)) M
  | _, _, _, _, _ => False
theorem o_add : OpR X (binaryOp .Add) (r2 X.K E dAdd) := by
  intro pins s σ H x y u v Q I rx ry h
  obtain ⟨s0, dx, dy, k, xx, rfl, ok, hx, hy, q, p, px⟩ := h
  unfold dAdd at q
  split at q
  · cases hx; cases hy
    exact op_add pins s σ _ _ _ u v Q I rx ry ⟨_, _, rfl, rfl, p.now q ok .int⟩
  · cases hx; cases hy
    exact op_add_str pins s σ _ _ _ u v Q I rx ry ⟨_, _, rfl, rfl, q.1, p.now q.2 ok .str⟩
  · obtain ⟨l, vs, rfl, hl, r1⟩ := hx.lst_of
    obtain ⟨m, us, rfl, hm, r2⟩ := hy.lst_of
    exact op_cat pins s σ _ _ _ u v Q I rx ry ⟨l, m, vs, us, rfl, rfl, ok.sub _ _ hl, ok.sub _ _ hm, by rw [r1.length, r2.length]; exact q.1, fun t ht => p.lst q.2 ok (r1.append r2) ht⟩
  · obtain ⟨l, vs, rfl, hl, r1⟩ := hx.tup_of
    obtain ⟨m, us, rfl, hm, r2⟩ := hy.tup_of
    refine op_catA pins s σ _ _ _ u v Q I rx ry ⟨l, m, vs, us, rfl, rfl, (Same.seqT ok.sub hl), (Same.seqT ok.sub hm), by rw [r1.length, r2.length]; exact q.1, fun e => ?_, fun _ e => ?_, fun _ _ t ht => p.tup q.2 ok (r1.append r2) ht⟩
    · subst e
      cases r1
      exact p.now q.2 ok (.tup hm r2)
    · subst e
      cases r2
      have q2 := q.2
      rw [List.append_nil] at q2
      exact p.now q2 ok (.tup hl r1)
  · exact q.elim
def dI2 (g : Int → Int → D) : D2
  | .int i, .int j, M, k, _ => k (g i j) M
  | _, _, _, _, _ => False
def dI2c (C : Int → Int → Prop) (g : Int → Int → D) : D2
  | .int i, .int j, M, k, _ => C i j ∧ k (g i j) M
  | _, _, _, _, _ => False
theorem o_sub : OpR X (binaryOp .Sub) (r2 X.K E (dI2 fun i j => .int (i - j))) := by
  intro pins s σ H x y u v Q I rx ry h
  obtain ⟨s0, dx, dy, k, xx, rfl, ok, hx, hy, q, p, px⟩ := h
  unfold dI2 at q
  split at q
  · cases hx; cases hy
    exact op_sub pins s σ _ _ _ u v Q I rx ry ⟨_, _, rfl, rfl, p.now q ok .int⟩
  · exact q.elim
/-- one factor below 2 ^ 64, or both together below a million bits -/
def MulOk (i j : Int) : Prop := CMul i j ∨ CMulW i j
theorem o_mul : OpR X (binaryOp .Mult) (r2 X.K E (dI2c MulOk fun i j => .int (i * j))) := by
  intro pins s σ H x y u v Q I rx ry h
  obtain ⟨s0, dx, dy, k, xx, rfl, ok, hx, hy, q, p, px⟩ := h
  unfold dI2c at q
  split at q
  · cases hx; cases hy
    rcases q.1 with c | c
    · exact op_mul pins s σ _ _ _ u v Q I rx ry ⟨_, _, rfl, rfl, c, p.now q.2 ok .int⟩
    · exact op_mulW pins s σ _ _ _ u v Q I rx ry ⟨_, _, rfl, rfl, c, p.now q.2 ok .int⟩
  · exact q.elim
def DivOk (_ j : Int) : Prop := j ≠ 0 ∧ j.natAbs.log2 < 9000
theorem o_fdiv : OpR X (binaryOp .FloorDiv) (r2 X.K E (dI2c DivOk fun i j => .int (i.fdiv j))) := by
  intro pins s σ H x y u v Q I rx ry h
  obtain ⟨s0, dx, dy, k, xx, rfl, ok, hx, hy, q, p, px⟩ := h
  unfold dI2c at q
  split at q
  · cases hx; cases hy
    have op : OpR X (binaryOp .FloorDiv) (rI DivOk fun i j => .int (i.fdiv j)) := opI fun _ _ _ _ _ _ _ hc q => floordiv_int hc.1 q (.inl (PyProof.noPylong_of_log2 hc.2))
    exact op pins s σ _ _ _ u v Q I rx ry ⟨_, _, rfl, rfl, q.1, p.now q.2 ok .int⟩
  · exact q.elim
theorem o_mod : OpR X (binaryOp .Mod) (r2 X.K E (dI2c (fun _ j => j ≠ 0) fun i j => .int (i.fmod j))) := by
  intro pins s σ H x y u v Q I rx ry h
  obtain ⟨s0, dx, dy, k, xx, rfl, ok, hx, hy, q, p, px⟩ := h
  unfold dI2c at q
  split at q
  · cases hx; cases hy
    exact op_modN pins s σ _ _ _ u v Q I rx ry ⟨_, _, rfl, rfl, q.1, p.now q.2 ok .int⟩
  · exact q.elim
theorem o_pow : OpR X (binaryOp .Pow) (r2 X.K E (dI2c CPow fun i j => .int (i ^ j.toNat))) := by
  intro pins s σ H x y u v Q I rx ry h
  obtain ⟨s0, dx, dy, k, xx, rfl, ok, hx, hy, q, p, px⟩ := h
  unfold dI2c at q
  split at q
  · cases hx; cases hy
    exact op_pow pins s σ _ _ _ u v Q I rx ry ⟨_, _, rfl, rfl, q.1, p.now q.2 ok .int⟩
  · exact q.elim
def dNeg : D1
  | .int i, M, k, _ => k (.int (-i)) M
  | _, _, _, _ => False
theorem o_neg : UnR X (unaryOp .USub) (r1 X.K E dNeg) := by
  intro pins s σ H x u Q I rx h
  obtain ⟨s0, dx, k, xx, rfl, ok, hx, q, p, px⟩ := h
  unfold dNeg at q
  split at q
  · cases hx
    exact un_neg pins s σ _ _ u Q I rx ⟨_, rfl, p.now q ok .int⟩
  · exact q.elim
theorem o_lt : OpR X (compareOp .Lt) (r2 X.K E (dI2 fun i j => .bl (decide (i < j)))) := by
  intro pins s σ H x y u v Q I rx ry h
  obtain ⟨s0, dx, dy, k, xx, rfl, ok, hx, hy, q, p, px⟩ := h
  unfold dI2 at q
  split at q
  · cases hx; cases hy
    exact op_lt pins s σ _ _ _ u v Q I rx ry ⟨_, _, rfl, rfl, p.now q ok .bl⟩
  · exact q.elim
theorem o_le : OpR X (compareOp .LtE) (r2 X.K E (dI2 fun i j => .bl (decide (i ≤ j)))) := by
  intro pins s σ H x y u v Q I rx ry h
  obtain ⟨s0, dx, dy, k, xx, rfl, ok, hx, hy, q, p, px⟩ := h
  unfold dI2 at q
  split at q
  · cases hx; cases hy
    exact op_le pins s σ _ _ _ u v Q I rx ry ⟨_, _, rfl, rfl, p.now q ok .bl⟩
  · exact q.elim
theorem o_gt : OpR X (compareOp .Gt) (r2 X.K E (dI2 fun i j => .bl (decide (j < i)))) := by
  intro pins s σ H x y u v Q I rx ry h
  obtain ⟨s0, dx, dy, k, xx, rfl, ok, hx, hy, q, p, px⟩ := h
  unfold dI2 at q
  split at q
  · cases hx; cases hy
    exact op_gt pins s σ _ _ _ u v Q I rx ry ⟨_, _, rfl, rfl, p.now q ok .bl⟩
  · exact q.elim
theorem o_ge : OpR X (compareOp .GtE) (r2 X.K E (dI2 fun i j => .bl (decide (j ≤ i)))) := by
  intro pins s σ H x y u v Q I rx ry h
  obtain ⟨s0, dx, dy, k, xx, rfl, ok, hx, hy, q, p, px⟩ := h
  unfold dI2 at q
  split at q
  · cases hx; cases hy
    exact op_ge pins s σ _ _ _ u v Q I rx ry ⟨_, _, rfl, rfl, p.now q ok .bl⟩
  · exact q.elim
/-- a < b < c -/
theorem d_chain {op op' : CmpOp} {f g : D2} (ho : OpR X (compareOp op) (r2 X.K E f)) (ho' : OpR X (compareOp op') (r2 X.K E g)) (ha : DP X E a τa) (hb : DP X E b τb) (hc : DP X E c τc) (hm : lastMarks [op, op'] [b, c] = false := by with_unfolding_all rfl) :
    DP X E (.Compare a [op, op'] [b, c] pos) (dChain f g τa τb τc) := pe_mono (pe_chain ho ho' ha hb hc hm) fun σ H Q h => by
  obtain ⟨ρ, s, k, x, rfl, er, q, p, px⟩ := h
  refine ⟨ρ, s, _, x, rfl, er, q, fun u s1 q1 st1 ok1 v1 r1 => ?_, px⟩
  refine ⟨ρ, s1, _, x, rfl, er.step st1 ok1, q1, fun w s2 q2 st2 ok2 v2 r2 => ?_, px.step st1⟩
  refine ⟨s2, u, w, _, x, rfl, ok2, r1.same st2.same, r2, q2, fun z s3 q3 st3 ok3 v3 r3 => ?_, px.step (st1.trans st2)⟩
  obtain ⟨c, rfl, q3⟩ := q3
  refine ⟨c, r3.bl_of, ?_⟩
  have st : Step s s3 := (st1.trans st2).trans st3
  cases c with
  | true =>
    rw [if_pos rfl] at q3 ⊢
    refine ⟨ρ, s3, _, x, rfl, er.step st ok3, q3, fun z s4 q4 st4 ok4 v4 r4 => ?_, px.step st⟩
    exact ⟨s4, w, z, k, x, rfl, ok4, r2.same (st3.trans st4).same, r4, q4, p.step (st.trans st4), px.step (st.trans st4)⟩
  | false =>
    rw [if_neg Bool.false_ne_true] at q3 ⊢
    exact p _ s3 q3 st ok3 _ .bl
theorem t_chain {op op' : CmpOp} {f g : D2} (ho : OpR X (compareOp op) (r2 X.K E f)) (ho' : OpR X (compareOp op') (r2 X.K E g)) (ha : DP X E a τa) (hb : DP X E b τb) (hc : DP X E c τc) (hm : lastMarks [op, op'] [b, c] = false := by with_unfolding_all rfl) :
    DPT X E (.Compare a [op, op'] [b, c] pos) (dB (dChain f g τa τb τc)) := pt_mono (pt_chain ho ho' ha hb hc hm) fun σ H Q h => by
  have h' := upT_B h
  obtain ⟨ρ, s, k, x, rfl, er, q, p, px⟩ := h'
  refine ⟨ρ, s, _, x, rfl, er, q, fun u s1 q1 st1 ok1 v1 r1 => ?_, px⟩
  refine ⟨ρ, s1, _, x, rfl, er.step st1 ok1, q1, fun w s2 q2 st2 ok2 v2 r2 => ?_, px.step st1⟩
  refine ⟨s2, u, w, _, x, rfl, ok2, r1.same st2.same, r2, q2, fun z s3 q3 st3 ok3 v3 r3 => ?_, px.step (st1.trans st2)⟩
  obtain ⟨c, rfl, q3⟩ := q3
  refine ⟨c, r3.bl_of, ?_⟩
  have st : Step s s3 := (st1.trans st2).trans st3
  cases c with
  | true =>
    rw [if_pos rfl] at q3 ⊢
    refine ⟨ρ, s3, _, x, rfl, er.step st ok3, q3, fun z s4 q4 st4 ok4 v4 r4 => ?_, px.step st⟩
    exact ⟨s4, w, z, k, x, rfl, ok4, r2.same (st3.trans st4).same, r4, q4, p.step (st.trans st4), px.step (st.trans st4)⟩
  | false =>
    rw [if_neg Bool.false_ne_true] at q3 ⊢
    exact p _ s3 q3 st ok3 _ .bl
mutual
def toP : D → Option PyData
  | .non => some .none
  | .bl b => some (.bool b)
  | .int i => some (.int i)
  | .str x => some (.str x)
  | .lst ds => (toPs ds).map .list
  | .tup ds => (toPs ds).map .tuple
  | _ => none
def toPs : List D → Option (List PyData)
  | [] => some []
  | d :: ds => match toP d, toPs ds with
    | some p, some ps => some (p :: ps)
    | _, _ => none
end
mutual
theorem dp_of {K : PySem.W.Frag} {G : Hp} : ∀ {v : V} {d : D} {p : PyData}, Rep K G v d → toP d = some p → Dp K G v p
  | _, .non, p, h, e => by cases h; simp [toP] at e; subst e; exact .non
  | _, .bl b, p, h, e => by cases h; simp [toP] at e; subst e; exact .bl b
  | _, .int b, p, h, e => by cases h; simp [toP] at e; subst e; exact .int b
  | _, .str b, p, h, e => by cases h; simp [toP] at e; subst e; exact .str b
  | _, .lst ds, p, h, e => by
    obtain ⟨a, vs, rfl, ha, r⟩ := h.lst_of
    simp only [toP, Option.map_eq_some_iff] at e
    obtain ⟨ps, e1, rfl⟩ := e
    exact .lst (SqL.of ha) (dps_of r e1)
  | _, .tup ds, p, h, e => by
    obtain ⟨a, vs, rfl, ha, r⟩ := h.tup_of
    simp only [toP, Option.map_eq_some_iff] at e
    obtain ⟨ps, e1, rfl⟩ := e
    exact .tup (ha) (dps_of r e1)
  | _, .obj _ _, p, h, e => by simp [toP] at e
  | _, .cel _, p, h, e => by simp [toP] at e
  | _, .scr _, p, h, e => by simp [toP] at e
  | _, .exc _ _ _, p, h, e => by simp [toP] at e
  | _, .lam _ _ _ _ _, p, h, e => by simp [toP] at e
  | _, .err _ _, p, h, e => by simp [toP] at e
  | _, .dic _ _, p, h, e => by simp [toP] at e
theorem dps_of {K : PySem.W.Frag} {G : Hp} : ∀ {vs : List V} {ds : List D} {ps : List PyData}, Reps K G vs ds → toPs ds = some ps → DpAll K G vs ps
  | _, [], ps, h, e => by cases h; simp [toPs] at e; subst e; exact .nil
  | _, d :: ds, ps, h, e => by
    cases h with
    | cons h1 h2 =>
      simp only [toPs] at e
      split at e
      · rename_i p ps' e1 e2
        cases e
        exact .cons (dp_of h1 e1) (dps_of h2 e2)
      · cases e
end
mutual
theorem Dp.same {K : PySem.W.Frag} {G G' : Hp} (s : Same G G') : ∀ {v : V} {p : PyData}, Dp K G v p → Dp K G' v p
  | _, _, .non => .non
  | _, _, .bl b => .bl b
  | _, _, .int b => .int b
  | _, _, .str b => .str b
  | _, _, .lst h r => .lst (Same.seq s h) (DpAll.same s r)
  | _, _, .tup h r => .tup (Same.seqT s h) (DpAll.same s r)
theorem DpAll.same {K : PySem.W.Frag} {G G' : Hp} (s : Same G G') : ∀ {v : List V} {p : List PyData}, DpAll K G v p → DpAll K G' v p
  | _, _, .nil => .nil
  | _, _, .cons h r => .cons (Dp.same s h) (DpAll.same s r)
end
/-- flat data -/
def flatD : D → Bool
  | .non => true
  | .bl _ => true
  | .int _ => true
  | .str _ => true
  | _ => false
def toV : D → V
  | .non => .non
  | .bl b => .bl b
  | .int i => .int i
  | .str x => .str x
  | _ => .non
theorem Rep.flat {K : PySem.W.Frag} {G : Hp} {v : V} {d : D} (h : Rep K G v d) (f : flatD d = true) : v = toV d ∧ flatV v = true := by
  cases h <;> first | exact ⟨rfl, rfl⟩ | cases f
/-- == of pure data -/
inductive EqD : D → D → Bool → Prop where
  | py {x y : D} {p q : PyData} (h1 : toP x = some p) (h2 : toP y = some q) (h3 : SeqAt.shaped p = true) (h4 : SeqAt.shaped q = true) : EqD x y (PyData.eqv p q)
  | sc {x y : D} (h1 : flatD x = true) (h2 : flatD y = true) (h3 : scal (toV x) (toV y) = true) : EqD x y (decide (toV x = toV y))
inductive EqK (x y : D) (M : Mm) (k : DK) : Prop where
  | of {r : Bool} (h : EqD x y r) (q : k (.bl r) M)
  | no (h : False)
inductive NeK (x y : D) (M : Mm) (k : DK) : Prop where
  | of {r : Bool} (h : EqD x y r) (q : k (.bl (!r)) M)
  | no (h : False)
def dEq : D2 := fun x y M k _ => EqK x y M k
def dNe : D2 := fun x y M k _ => NeK x y M k
theorem o_eq (hu : X.A.units + 64 < cLine) : OpR X (compareOp .Eq) (r2 X.K E dEq) := by
  intro pins s σ H x y u v Q I rx ry h
  obtain ⟨s0, dx, dy, k, xx, rfl, ok, hx, hy, qq, p, px⟩ := h
  rcases qq with ⟨q, q2⟩ | z
  case no => exact z.elim
  cases q with
  | py h1 h2 h3 h4 => exact op_eqD hu pins s σ _ _ _ u v Q I rx ry ⟨_, _, Dp.same ok.sub (dp_of hx h1), Dp.same ok.sub (dp_of hy h2), h3, h4, p.now q2 ok .bl⟩
  | sc h1 h2 h3 =>
    obtain ⟨rfl, _⟩ := hx.flat h1
    obtain ⟨rfl, _⟩ := hy.flat h2
    exact op_eq pins s σ _ _ _ u v Q I rx ry ⟨h3, p.now q2 ok .bl⟩
theorem o_ne (hu : X.A.units + 64 < cLine) : OpR X (compareOp .NotEq) (r2 X.K E dNe) := by
  intro pins s σ H x y u v Q I rx ry h
  obtain ⟨s0, dx, dy, k, xx, rfl, ok, hx, hy, qq, p, px⟩ := h
  rcases qq with ⟨q, q2⟩ | z
  case no => exact z.elim
  cases q with
  | py h1 h2 h3 h4 => exact op_neD hu pins s σ _ _ _ u v Q I rx ry ⟨_, _, Dp.same ok.sub (dp_of hx h1), Dp.same ok.sub (dp_of hy h2), h3, h4, p.now q2 ok .bl⟩
  | sc h1 h2 h3 =>
    obtain ⟨rfl, _⟩ := hx.flat h1
    obtain ⟨rfl, _⟩ := hy.flat h2
    exact op_ne pins s σ _ _ _ u v Q I rx ry ⟨h3, p.now q2 ok .bl⟩
def eqF (x y : D) : Bool := eqV (toV x) (toV y)
def inD (x : D) (xs : List D) : Bool := xs.any fun y => eqF y x
theorem inV_of {K : PySem.W.Frag} {G : Hp} {v : V} {x : D} (h : v = toV x) : ∀ {vs : List V} {xs : List D}, Reps K G vs xs → xs.all flatD = true → inV v vs = inD x xs ∧ vs.all flatV = true
  | _, _, .nil, _ => ⟨rfl, rfl⟩
  | _, _, .cons r rs, f => by
    simp only [List.all_cons, Bool.and_eq_true] at f
    obtain ⟨e1, e2⟩ := r.flat f.1
    obtain ⟨e3, e4⟩ := inV_of h rs f.2
    refine ⟨?_, by simp only [List.all_cons, e2, e4, Bool.and_self]⟩
    unfold inV inD at *
    simp only [List.any_cons]
    rw [e3]
    unfold eqF
    rw [e1, h]
/-- in a text: one sign; in a list or tuple: flat data -/
def dIn (neg : Bool) : D2
  | .str x, .str z, M, k, _ => ∃ c : Nat, x = ⟨#[c]⟩ ∧ k (.bl (if neg then !decide (c ∈ z.cps.toList) else decide (c ∈ z.cps.toList))) M
  | x, .lst xs, M, k, _ => flatD x = true ∧ xs.all flatD = true ∧ k (.bl (if neg then !inD x xs else inD x xs)) M
  | x, .tup xs, M, k, _ => flatD x = true ∧ xs.all flatD = true ∧ k (.bl (if neg then !inD x xs else inD x xs)) M
  | _, _, _, _, _ => False
theorem o_in : OpR X (compareOp .In) (r2 X.K E (dIn false)) := by
  intro pins s σ H x y u v Q I rx ry h
  obtain ⟨s0, dx, dy, k, xx, rfl, ok, hx, hy, q, p, px⟩ := h
  unfold dIn at q
  split at q
  · obtain ⟨c, rfl, q⟩ := q
    cases hx; cases hy
    exact op_in_sign pins s σ _ _ _ u v Q I rx ry ⟨c, _, rfl, rfl, p.now q ok .bl⟩
  · obtain ⟨l, vs, rfl, hl, r1⟩ := hy.lst_of
    obtain ⟨e1, e2⟩ := hx.flat q.1
    obtain ⟨e3, e4⟩ := inV_of e1 r1 q.2.1
    refine op_in_seq pins s σ _ _ _ u v Q I rx ry ⟨l, vs, rfl, .inl (SqL.of (ok.sub _ _ hl)), e2, e4, ?_⟩
    rw [e3]
    exact p.now q.2.2 ok .bl
  · obtain ⟨l, vs, rfl, hl, r1⟩ := hy.tup_of
    obtain ⟨e1, e2⟩ := hx.flat q.1
    obtain ⟨e3, e4⟩ := inV_of e1 r1 q.2.1
    refine op_in_seq pins s σ _ _ _ u v Q I rx ry ⟨l, vs, rfl, .inr ((Same.seqT ok.sub hl)), e2, e4, ?_⟩
    rw [e3]
    exact p.now q.2.2 ok .bl
  · exact q.elim
def isNon : D → Bool
  | .non => true
  | _ => false
theorem Rep.isNon {K : PySem.W.Frag} {G : Hp} {v : V} {d : D} (h : Rep K G v d) : decide (v = .non) = DL.isNon d := by
  cases h <;> first | rfl | exact decide_eq_false (fun z => nomatch z)
def dIsN (neg : Bool) : D2 := fun x y M k _ => y = .non ∧ k (.bl (if neg then !isNon x else isNon x)) M
theorem o_isN : OpR X (compareOp .Is) (r2 X.K E (dIsN false)) := by
  intro pins s σ H x y u v Q I rx ry h
  obtain ⟨s0, dx, dy, k, xx, rfl, ok, hx, hy, ⟨rfl, q⟩, p, px⟩ := h
  refine op_isN pins s σ _ _ _ u v Q I rx ry ⟨hy.non_of, ?_⟩
  rw [hx.isNon]
  exact p.now q ok .bl
theorem atI_reps {K : PySem.W.Frag} {G : Hp} {vs : List V} {ds : List D} {i : Int} {d : D} (r : Reps K G vs ds) (h : atI ds i = some d) : ∃ v, atI vs i = some v ∧ Rep K G v d := by
  unfold atI at h ⊢
  rw [r.length]
  cases e : ixN ds.length i with
  | none => rw [e] at h; cases h
  | some j =>
    rw [e] at h
    exact r.get h
def dIx : D2
  | .lst ds, .int i, M, k, _ => ∃ d, atI ds i = some d ∧ k d M
  | .tup ds, .int i, M, k, _ => ∃ d, atI ds i = some d ∧ k d M
  | .str z, .int i, M, k, _ => z.length ≤ sizeLine ∧ ∃ c, atI z.cps.toList i = some c ∧ k (.str ⟨#[c]⟩) M
  | .cel a, .int i, M, k, _ => ∃ ds, M a = some (.lst ds) ∧ ∃ d, atI ds i = some d ∧ k d M
  | _, _, _, _, _ => False
theorem x_ix : IxR X (r2 X.K E dIx) := by
  intro value slice pins s σ H x y u v Q I rx ry h hsub
  obtain ⟨s0, dx, dy, k, xx, rfl, ok, hx, hy, q, p, px⟩ := h
  unfold dIx at q
  split at q
  · cases hy
    obtain ⟨l, vs, rfl, hl, r1⟩ := hx.lst_of
    obtain ⟨d, hd, q⟩ := q
    obtain ⟨w, hw, rw'⟩ := atI_reps r1 hd
    exact ix_list value slice pins s σ _ _ _ u v Q I rx ry ⟨l, vs, _, w, rfl, rfl, SqL.of (ok.sub _ _ hl), hw, p.now q ok rw'⟩ hsub
  · cases hy
    obtain ⟨l, vs, rfl, hl, r1⟩ := hx.tup_of
    obtain ⟨d, hd, q⟩ := q
    obtain ⟨w, hw, rw'⟩ := atI_reps r1 hd
    exact ix_tup value slice pins s σ _ _ _ u v Q I rx ry ⟨l, vs, _, w, rfl, rfl, (Same.seqT ok.sub hl), hw, p.now q ok rw'⟩ hsub
  · cases hy; cases hx
    obtain ⟨hz, c, hc, q⟩ := q
    exact ix_str value slice pins s σ _ _ _ u v Q I rx ry ⟨_, _, c, rfl, rfl, hz, hc, p.now q ok .str⟩ hsub
  · cases hy; cases hx
    obtain ⟨ds, hm, d, hd, q⟩ := q
    obtain ⟨vs, e, r1⟩ := ok.cells _ _ hm
    obtain ⟨w, hw, rw'⟩ := atI_reps r1 hd
    exact ix_list value slice pins s σ _ _ _ u v Q I rx ry ⟨_, vs, _, w, rfl, rfl, SqL.of e, hw, p.now q ok rw'⟩ hsub
  · exact q.elim
theorem d_ix {f : D2} (hr : IxR X (r2 X.K E f)) (ha : DP X E a τa) (hb : DP X E b τb) (hs : PlainIx b) : DP X E (.Subscript a b pos) (dOp f τa τb) := pe_mono (pe_ix hr ha hb hs) fun _ _ _ h => up_op h
abbrev DO := DEnv → Mm → (Option Int → Mm → Prop) → DX → Prop
def upO (K : PySem.W.Frag) (E : XK) (τ : DO) : TO := fun σ H Q => ∃ ρ s k x, s.H = H ∧ ER K s σ ρ ∧ τ ρ s.M k x ∧ (∀ o (t : Sta), k o t.M → Step s t → Ok K t → Q o t.H) ∧ PostX K E s x
def DPO (X : Cx) (E : XK) (e : Option Expr) (τ : DO) : Prop := PO X e (upO X.K E τ)
theorem po_mono {e : Option Expr} {t t' : TO} (h : PO X e t) (m : ∀ σ H Q, t' σ H Q → t σ H Q) : PO X e t' := ⟨fun pins s σ H Q I q => h.run pins s σ H Q I (m σ H Q q)⟩
def dNoPart : DO := fun _ M k _ => k none M
def dPart (τ : DE) : DO := fun ρ M k x => τ ρ M (fun u M1 => ∃ i, u = .int i ∧ k (some i) M1) x
theorem o_none : DPO X E none dNoPart := po_mono po_none fun σ H Q h => by
  obtain ⟨ρ, s, k, x, rfl, er, q, p, px⟩ := h
  exact p none s q (Step.refl s) er.ok
theorem o_some (h : DP X E e τa) : DPO X E (some e) (dPart τa) := po_mono (po_some h) fun σ H Q h => by
  obtain ⟨ρ, s, k, x, rfl, er, q, p, px⟩ := h
  refine ⟨ρ, s, _, x, rfl, er, q, fun u s1 q1 st1 ok1 v1 r1 => ?_, px⟩
  obtain ⟨i, rfl, q1⟩ := q1
  exact ⟨i, r1.int_of, p _ s1 q1 st1 ok1⟩
abbrev DSl := D → Option Int → Option Int → Mm → DK → Prop
def rSlD (K : PySem.W.Frag) (E : XK) (f : DSl) : V → Option Int → Option Int → Hp → VK → Prop := fun x lo hi H Q => ∃ s dx k, s.H = H ∧ Ok K s ∧ Rep K s.G x dx ∧ f dx lo hi s.M k ∧ Post K s k Q
def dSl (f : DSl) (τ : DE) (τl τh : DO) : DE := fun ρ M k x => τ ρ M (fun u M1 => τl ρ M1 (fun lo M2 => τh ρ M2 (fun hi M3 => f u lo hi M3 k) x) x) x
theorem d_slice {f : DSl} {τl τh : DO} {lo hi : Option Expr} {p2 : Pos} (hr : SlR X (rSlD X.K E f)) (he : DP X E e τa) (hl : DPO X E lo τl) (hu : DPO X E hi τh) : DP X E (.Subscript e (.Slice lo hi none p2) pos) (dSl f τa τl τh) := pe_mono (pe_slice hr he hl hu) fun σ H Q h => by
  obtain ⟨ρ, s, k, x, rfl, er, q, p, px⟩ := h
  refine ⟨ρ, s, _, x, rfl, er, q, fun u s1 q1 st1 ok1 v1 r1 => ?_, px⟩
  refine ⟨ρ, s1, _, x, rfl, er.step st1 ok1, q1, fun lo s2 q2 st2 ok2 => ?_, px.step st1⟩
  refine ⟨ρ, s2, _, x, rfl, er.step (st1.trans st2) ok2, q2, fun hi s3 q3 st3 ok3 => ?_, px.step (st1.trans st2)⟩
  exact ⟨s3, u, k, rfl, ok3, r1.same (st2.trans st3).same, q3, p.step ((st1.trans st2).trans st3)⟩
def cutD {α : Type} (xs : List α) (lo hi : Option Int) : List α := (xs.drop (HT.sIx xs.length 0 lo)).take (HT.sIx xs.length xs.length hi - HT.sIx xs.length 0 lo)
theorem cut_reps {K : PySem.W.Frag} {G : Hp} {vs : List V} {ds : List D} (r : Reps K G vs ds) (lo hi : Option Int) : Reps K G (cutV vs lo hi) (cutD ds lo hi) := by
  unfold cutV cutD
  rw [r.length]
  exact (r.drop _).take _
def dCut : DSl
  | .lst ds, lo, hi, M, k => k (.lst (cutD ds lo hi)) M
  | .tup ds, lo, hi, M, k => k (.tup (cutD ds lo hi)) M
  | .str z, lo, hi, M, k => z.length ≤ sizeLine ∧ k (.str (cutS z lo hi)) M
  | .scr ns, lo, hi, M, k => k (.lst ((cutD ns lo hi).map .int)) M
  | _, _, _, _, _ => False
theorem cutD_map {α β : Type} (f : α → β) (xs : List α) (lo hi : Option Int) : cutD (xs.map f) lo hi = (cutD xs lo hi).map f := by
  unfold cutD
  rw [List.length_map, List.map_take, List.map_drop]
theorem cutV_map {α : Type} (f : α → V) (xs : List α) (lo hi : Option Int) : cutV (xs.map f) lo hi = (cutD xs lo hi).map f := by
  unfold cutV cutD
  rw [List.length_map, List.map_take, List.map_drop]
theorem cutD_whole {α : Type} {xs : List α} {lo hi : Option Int} (h : HT.sIx xs.length 0 lo = 0 ∧ HT.sIx xs.length xs.length hi = xs.length) : cutD xs lo hi = xs := by
  unfold cutD
  rw [h.1, h.2]
  simp
theorem sl_D : SlR X (rSlD X.K E dCut) := by
  intro pins s σ H x v vl vu lo hi sl Q I rx hs pl pu h
  obtain ⟨s0, dx, k, rfl, ok, hx, q, p⟩ := h
  unfold dCut at q
  split at q
  · obtain ⟨l, vs, rfl, hl, r1⟩ := hx.lst_of
    exact sl_list pins s σ _ _ v vl vu _ _ sl Q I rx hs pl pu ⟨l, vs, rfl, SqL.of (ok.sub _ _ hl), fun t ht => p.lst q ok (cut_reps r1 _ _) ht⟩
  · obtain ⟨l, vs, rfl, hl, r1⟩ := hx.tup_of
    refine sl_tupA pins s σ _ _ v vl vu _ _ sl Q I rx hs pl pu ⟨l, vs, rfl, (Same.seqT ok.sub hl), fun hw => ?_, fun _ t ht => p.tup q ok (cut_reps r1 _ _) ht⟩
    rw [r1.length] at hw
    rw [cutD_whole hw] at q
    exact p.now q ok (.tup hl r1)
  · cases hx
    exact sl_str pins s σ _ _ v vl vu _ _ sl Q I rx hs pl pu ⟨_, rfl, q.1, p.now q.2 ok .str⟩
  · cases hx with
    | scr hl =>
      refine sl_list pins s σ _ _ v vl vu _ _ sl Q I rx hs pl pu ⟨_, _, rfl, Same.seqL ok.sub hl, fun t ht => ?_⟩
      rw [cutV_map]
      exact p.lst q ok (Reps.ints _) ht
  · exact q.elim
/-- o[i] = v of a changing list -/
def dSetIx (τo τi τv : DE) : DS := fun k x ρ M => τv ρ M (fun v M1 => τo ρ M1 (fun o M2 => τi ρ M2 (fun i M3 => ∃ a ds n j, o = .cel a ∧ i = .int n ∧ M3 a = some (.lst ds) ∧ ixN ds.length n = some j ∧ k.nx ρ (mup M3 a (.lst (ds.set j v)))) x) x) x
theorem s_setIx {o i v : Expr} {τo τi τv : DE} {pos' : Pos} (hv : DP X E v τv) (ho : DP X E o τo) (hi : DP X E i τi) (hs : swapsWithSole [.Subscript o i pos'] v pos.line X.env = pure false := by rfl) (hw : swappedStores [.Subscript o i pos'] v X.env = pure none := by rfl)
    (h1 : (assignEach [.Subscript o i pos'] X.env).map (·.2) = [assign (.Subscript o i pos') X.env] := by rfl)
    (hasg : ∀ v, assign (.Subscript o i pos') X.env v = (do
      let ov ← holding [v] (eval o X.env)
      let iv ← holding [v, ov] (eval i X.env)
      standAt pos'
      holding [v, ov, iv] (setItem ov iv v)
      release [v, ov, iv] []) := by intro _; rfl) :
    DPS X E (.Assign [.Subscript o i pos'] v pos) (dSetIx τo τi τv) := ps_mono (ps_asg hv (pg_sub ho hi set_list hasg) hs hw h1) fun D σ H h => by
  obtain ⟨ρ, s, k, x, rfl, er, q, p, px⟩ := h
  refine ⟨ρ, s, _, x, rfl, er, q, fun u s1 q1 st1 ok1 v1 r1 => ?_, px⟩
  refine ⟨ρ, s1, _, x, rfl, er.step st1 ok1, q1, fun w s2 q2 st2 ok2 v2 r2 => ?_, px.step st1⟩
  refine ⟨ρ, s2, _, x, rfl, er.step (st1.trans st2) ok2, q2, fun z s3 q3 st3 ok3 v3 r3 => ?_, px.step (st1.trans st2)⟩
  obtain ⟨a, ds, n, j, rfl, rfl, hm, hj, q3⟩ := q3
  obtain ⟨vs, e, rs⟩ := ok3.cells _ _ hm
  have st : Step s s3 := (st1.trans st2).trans st3
  obtain ⟨k4, st4⟩ := ok3.put (p := a) (o := .lst (vs.set j v1)) (mo := .lst (ds.set j u)) (by rw [hm]; rfl) ⟨_, rfl, Reps.set (r1.same (st2.trans st3).same) j rs⟩
  exact ⟨a, vs, n, j, r2.cel_of, r3.int_of, e, by rw [rs.length]; exact hj, p.nx ρ ⟨_, _, _⟩ q3 (st.trans st4) σ (er.step (st.trans st4) k4)⟩
def dLen : DN
  | [.str z], M, k, _ => z.length ≤ sizeLine ∧ k (.int z.length) M
  | [.lst ds], M, k, _ => k (.int ds.length) M
  | [.tup ds], M, k, _ => k (.int ds.length) M
  | [.scr ns], M, k, _ => k (.int ns.length) M
  | [.cel a], M, k, _ => ∃ ds, M a = some (.lst ds) ∧ k (.int ds.length) M
  | _, _, _, _ => False
theorem c_len : CallR X (.builtin "len") (rA X.K E dLen) := by
  intro pins s σ H xs us Q I r h
  obtain ⟨s0, ds, k, xx, rfl, ok, hx, q, p, px⟩ := h
  unfold dLen at q
  split at q
  · obtain ⟨v, rfl, rv⟩ := hx.one
    cases rv
    exact call_len pins s σ _ _ us Q I r ⟨_, _, rfl, ⟨q.1, rfl⟩, p.now q.2 ok .int⟩
  · obtain ⟨v, rfl, rv⟩ := hx.one
    obtain ⟨l, vs, rfl, hl, r1⟩ := rv.lst_of
    refine call_len pins s σ _ _ us Q I r ⟨_, vs.length, rfl, .inl ⟨vs, SqL.of (ok.sub _ _ hl), rfl⟩, ?_⟩
    rw [r1.length]
    exact p.now q ok .int
  · obtain ⟨v, rfl, rv⟩ := hx.one
    obtain ⟨l, vs, rfl, hl, r1⟩ := rv.tup_of
    refine call_len pins s σ _ _ us Q I r ⟨_, vs.length, rfl, .inr ⟨vs, (Same.seqT ok.sub hl), rfl⟩, ?_⟩
    rw [r1.length]
    exact p.now q ok .int
  · obtain ⟨v, rfl, rv⟩ := hx.one
    cases rv with
    | scr hl =>
      refine call_len pins s σ _ _ us Q I r ⟨_, _, rfl, .inl ⟨_, Same.seqL ok.sub hl, rfl⟩, ?_⟩
      rw [List.length_map]
      exact p.now q ok .int
  · obtain ⟨v, rfl, rv⟩ := hx.one
    cases rv
    obtain ⟨ds, hm, q⟩ := q
    obtain ⟨vs, e, r1⟩ := ok.cells _ _ hm
    refine call_len pins s σ _ _ us Q I r ⟨_, vs.length, rfl, .inl ⟨vs, SqL.of e, rfl⟩, ?_⟩
    rw [r1.length]
    exact p.now q ok .int
  · exact q.elim
def dAbs : DN
  | [.int i], M, k, _ => k (.int (if i < 0 then -i else i)) M
  | _, _, _, _ => False
theorem c_abs : CallR X (.builtin "abs") (rA X.K E dAbs) := by
  intro pins s σ H xs us Q I r h
  obtain ⟨s0, ds, k, xx, rfl, ok, hx, q, p, px⟩ := h
  unfold dAbs at q
  split at q
  · obtain ⟨v, rfl, rv⟩ := hx.one
    cases rv
    exact call_abs pins s σ _ _ us Q I r ⟨_, rfl, p.now q ok .int⟩
  · exact q.elim
def dInt : DN
  | [.int i], M, k, _ => k (.int i) M
  | [.bl b], M, k, _ => k (.int (if b then 1 else 0)) M
  | _, _, _, _ => False
theorem c_int : CallR X (.type "int") (rA X.K E dInt) := by
  intro pins s σ H xs us Q I r h
  obtain ⟨s0, ds, k, xx, rfl, ok, hx, q, p, px⟩ := h
  unfold dInt at q
  split at q
  · obtain ⟨v, rfl, rv⟩ := hx.one
    cases rv
    exact call_int1 pins s σ _ _ us Q I r (.inl ⟨_, rfl, p.now q ok .int⟩)
  · obtain ⟨v, rfl, rv⟩ := hx.one
    cases rv
    exact call_int1 pins s σ _ _ us Q I r (.inr ⟨_, rfl, p.now q ok .int⟩)
  · exact q.elim
def dStrI : DN
  | [.int i], M, k, _ => i.natAbs.log2 < 1920 ∧ k (.str (toString i)) M
  | _, _, _, _ => False
theorem c_str : CallR X (.type "str") (rA X.K E dStrI) := by
  intro pins s σ H xs us Q I r h
  obtain ⟨s0, ds, k, xx, rfl, ok, hx, q, p, px⟩ := h
  unfold dStrI at q
  split at q
  · obtain ⟨v, rfl, rv⟩ := hx.one
    cases rv
    exact call_str_int pins s σ _ _ us Q I r ⟨_, rfl, q.1, p.now q.2 ok .str⟩
  · exact q.elim
theorem Reps.bls {K : PySem.W.Frag} {G : Hp} : ∀ {bs : List Bool} {vs : List V}, Reps K G vs (bs.map D.bl) → vs = bs.map V.bl
  | [], _, h => by cases h; rfl
  | b :: bs, _, h => by
    cases h with
    | cons h1 h2 =>
      cases h1
      rw [Reps.bls h2]
      rfl
theorem Reps.strs {K : PySem.W.Frag} {G : Hp} : ∀ {bs : List Str} {vs : List V}, Reps K G vs (bs.map D.str) → vs = bs.map V.str
  | [], _, h => by cases h; rfl
  | b :: bs, _, h => by
    cases h with
    | cons h1 h2 =>
      cases h1
      rw [Reps.strs h2]
      rfl
/-- all, any of a list of bools -/
def dAll : DN := fun ds M k _ => ∃ bs : List Bool, ds = [.lst (bs.map .bl)] ∧ k (.bl (bs.all id)) M
theorem c_all (hc : X.calm = true) : CallR X (.builtin "all") (rA X.K E dAll) := by
  intro pins s σ H xs us Q I r h
  obtain ⟨s0, ds, k, xx, rfl, ok, hx, ⟨bs, rfl, q⟩, p, px⟩ := h
  obtain ⟨v, rfl, rv⟩ := hx.one
  obtain ⟨l, vs, rfl, hl, r1⟩ := rv.lst_of
  have e := Reps.bls r1
  subst e
  exact cr_all hc pins s σ _ _ us Q I r ⟨l, bs, rfl, SqL.of (ok.sub _ _ hl), p.now q ok .bl⟩
/-- list(x) of a list or a tuple -/
def dList : DN
  | [.lst ds], M, k, _ => k (.lst ds) M
  | [.tup ds], M, k, _ => k (.lst ds) M
  | _, _, _, _ => False
theorem c_list : CallR X (.type "list") (rA X.K E dList) := by
  intro pins s σ H xs us Q I r h
  obtain ⟨s0, ds, k, xx, rfl, ok, hx, q, p, px⟩ := h
  unfold dList at q
  split at q
  · obtain ⟨v, rfl, rv⟩ := hx.one
    obtain ⟨l, vs, rfl, hl, r1⟩ := rv.lst_of
    exact call_list_of pins s σ _ _ us Q I r ⟨l, vs, rfl, .inl (SqL.of (ok.sub _ _ hl)), fun t ht => p.lst q ok r1 ht⟩
  · obtain ⟨v, rfl, rv⟩ := hx.one
    obtain ⟨l, vs, rfl, hl, r1⟩ := rv.tup_of
    exact call_list_of pins s σ _ _ us Q I r ⟨l, vs, rfl, .inr ((Same.seqT ok.sub hl)), fun t ht => p.lst q ok r1 ht⟩
  · exact q.elim
/-- tuple(x) -/
def dTuple : DN
  | [.lst ds], M, k, _ => k (.tup ds) M
  | [.tup ds], M, k, _ => k (.tup ds) M
  | _, _, _, _ => False
theorem c_tuple : CallR X (.type "tuple") (rA X.K E dTuple) := by
  intro pins s σ H xs us Q I r h
  obtain ⟨s0, ds, k, xx, rfl, ok, hx, q, p, px⟩ := h
  unfold dTuple at q
  split at q
  · obtain ⟨v, rfl, rv⟩ := hx.one
    obtain ⟨l, vs, rfl, hl, r1⟩ := rv.lst_of
    exact call_tuple_of pins s σ _ _ us Q I r ⟨l, vs, rfl, .inl ⟨SqL.of (ok.sub _ _ hl), fun t ht => p.tup q ok r1 ht⟩⟩
  · obtain ⟨v, rfl, rv⟩ := hx.one
    obtain ⟨l, vs, rfl, hl, r1⟩ := rv.tup_of
    exact call_tuple_of pins s σ _ _ us Q I r ⟨l, vs, rfl, .inr ⟨(Same.seqT ok.sub hl), p.now q ok (.tup hl r1)⟩⟩
  · exact q.elim
def rM (K : PySem.W.Frag) (E : XK) (f : D → List D → Mm → DK → DX → Prop) : V → List V → Hp → VK → Prop := fun x xs H Q => ∃ s dx ds k xx, s.H = H ∧ Ok K s ∧ Rep K s.G x dx ∧ Reps K s.G xs ds ∧ f dx ds s.M k xx ∧ Post K s k Q ∧ PostX K E s xx
/-- the receiver is of the type T: told by a test of the datum -/
def tyD (T : String) : D → Mm → Prop
  | .str _, _ => T = "str"
  | .int _, _ => T = "int"
  | .lst _, _ => T = "list"
  | .cel a, M => T = "list" ∧ ∃ ds, M a = some (.lst ds)
  | _, _ => False
theorem tyV_of {K : PySem.W.Frag} {s : Sta} {T : String} {v : V} {d : D} (ok : Ok K s) (r : Rep K s.G v d) (h : tyD T d s.M) : tyV K T v s.H := by
  cases r with
  | str => exact h
  | int => exact h
  | lst hl r => exact .inl ⟨h, _, SqL.of (ok.sub _ _ hl)⟩
  | cel =>
    obtain ⟨h1, ds, h2⟩ := h
    obtain ⟨vs, e, r1⟩ := ok.cells _ _ h2
    exact .inl ⟨h1, _, SqL.of e⟩
  | _ => exact h.elim
def dBMt (T : String) (f : D → List D → Mm → DK → DX → Prop) (τ : DE) (α : DA) : DE := fun ρ M k x => τ ρ M (fun u M1 => tyD T u M1 ∧ α ρ M1 (fun ds M2 => f u ds M2 k x) x) x
theorem d_bm {T id : String} {name : Str} {apos cpos : Pos} {o : Expr} {τo : DE} {f : D → List D → Mm → DK → DX → Prop} (pa : PlainAttrs T) (slot : Slot T name id) (hty : typeOf (.builtin id) = pure (.type "method_descriptor")) (hm : MtR X id (rM X.K E f)) (ho : DP X E o τo) (ha : DPA X E (e :: es) αa)
    (hbase : attributeBase o name X.env (eval o X.env) = eval o X.env := by rfl)
    (hfew : ((backTo cpos (starEach (e :: es) X.env)).all (fun x => !x.1) && (backToKw cpos (keywordEach [] X.env)).all (fun x => x.1.isSome)
      && decide ((e :: es).length + ([] : List Keyword).length + (if ([] : List Keyword).isEmpty then 0 else 1) < 30)) = true := by rfl)
    (hline : (apos.endLine == cpos.line) = true := by rfl) (hs : starEach (e :: es) X.env = (false, eval e X.env) :: starEach es X.env := by rfl) (hplain : (backTo cpos (starEach es X.env)).any (·.1) = false := by rfl) :
    DP X E (.Call (.Attribute o name apos) (e :: es) [] cpos) (dBMt T f τo αa) := pe_mono (pe_bm pa slot hty hm ho ha hbase hfew hline hs hplain) fun σ H Q h => by
  obtain ⟨ρ, s, k, x, rfl, er, q, p, px⟩ := h
  refine ⟨ρ, s, _, x, rfl, er, q, fun u s1 q1 st1 ok1 v1 r1 => ⟨tyV_of ok1 r1 q1.1, ?_⟩, px⟩
  refine ⟨ρ, s1, _, x, rfl, er.step st1 ok1, q1.2, fun us s2 q2 st2 ok2 vs r2 => ?_, px.step st1⟩
  exact ⟨s2, u, us, k, x, rfl, ok2, r1.same st2.same, r2, q2, p.step (st1.trans st2), px.step (st1.trans st2)⟩
/-- xs.append(y) of a changing list -/
def dAppend : D → List D → Mm → DK → DX → Prop
  | .cel a, [y], M, k, _ => ∃ ds, M a = some (.lst ds) ∧ ds.length < sizeLine ∧ k .non (mup M a (.lst (ds ++ [y])))
  | _, _, _, _, _ => False
theorem m_append : MtR X "list.append" (rM X.K E dAppend) := by
  intro pins s σ H x xs v us Q I rx rs h
  obtain ⟨s0, dx, ds, k, xx, rfl, ok, hx, hxs, q, p, px⟩ := h
  unfold dAppend at q
  split at q
  · cases hx
    obtain ⟨ds, hm, hz, q⟩ := q
    obtain ⟨y, rfl, ry⟩ := hxs.one
    obtain ⟨vs, e, r1⟩ := ok.cells _ _ hm
    obtain ⟨k4, st4⟩ := ok.put (o := .lst (vs ++ [y])) (mo := .lst (ds ++ [_])) (by rw [hm]; rfl) ⟨_, rfl, r1.append (.cons ry .nil)⟩
    exact mt_append pins s σ _ _ _ v us Q I rx rs ⟨_, vs, y, rfl, rfl, e, by rw [r1.length]; exact hz, p _ ⟨_, _, _⟩ q st4 k4 _ .non⟩
  · exact q.elim
/-- xs.insert(i, y) -/
def dInsert : D → List D → Mm → DK → DX → Prop
  | .cel a, [.int i, y], M, k, _ => ∃ ds, M a = some (.lst ds) ∧ ds.length < sizeLine ∧ 0 ≤ i ∧ i < 2 ^ 63 ∧ k .non (mup M a (.lst (ds.take i.toNat ++ [y] ++ ds.drop i.toNat)))
  | _, _, _, _, _ => False
theorem m_insert : MtR X "list.insert" (rM X.K E dInsert) := by
  intro pins s σ H x xs v us Q I rx rs h
  obtain ⟨s0, dx, ds, k, xx, rfl, ok, hx, hxs, q, p, px⟩ := h
  unfold dInsert at q
  split at q
  · cases hx
    obtain ⟨ds, hm, hz, h0, h1, q⟩ := q
    obtain ⟨iv, y, rfl, ri, ry⟩ := hxs.two
    cases ri
    obtain ⟨vs, e, r1⟩ := ok.cells _ _ hm
    obtain ⟨k4, st4⟩ := ok.put (o := .lst (vs.take _ ++ [y] ++ vs.drop _)) (mo := .lst (ds.take _ ++ [_] ++ ds.drop _)) (by rw [hm]; rfl) ⟨_, rfl, ((r1.take _).append (.cons ry .nil)).append (r1.drop _)⟩
    exact mt_insert pins s σ _ _ _ v us Q I rx rs ⟨_, vs, _, y, rfl, rfl, e, by rw [r1.length]; exact hz, h0, h1, p _ ⟨_, _, _⟩ q st4 k4 _ .non⟩
  · exact q.elim
/-- xs.index(y), flat, the first place -/
def firstIx (y : D) : List D → Option Nat
  | [] => none
  | x :: xs => if eqF x y = true then some 0 else (firstIx y xs).map (· + 1)
theorem firstIx_spec {y : D} : ∀ {xs : List D} {j : Nat}, firstIx y xs = some j → (∃ z, xs[j]? = some z ∧ eqF z y = true) ∧ ∀ (m : Nat) z, m < j → xs[m]? = some z → eqF z y = false
  | [], _, h => by cases h
  | x :: xs, j, h => by
    unfold firstIx at h
    split at h
    · rename_i hx
      cases h
      exact ⟨⟨x, rfl, hx⟩, fun m z hm => by omega⟩
    · rename_i hx
      cases e : firstIx y xs with
      | none => rw [e] at h; cases h
      | some i =>
        rw [e] at h
        have hj : j = i + 1 := (Option.some.inj h).symm
        subst hj
        obtain ⟨⟨z, h1, h2⟩, h3⟩ := firstIx_spec e
        refine ⟨⟨z, by simpa using h1, h2⟩, fun m z hm hz => ?_⟩
        cases m with
        | zero =>
          have : x = z := by simpa using hz
          subst this
          simpa using hx
        | succ m => exact h3 m z (by omega) (by simpa using hz)
def dIndex : D → List D → Mm → DK → DX → Prop
  | .lst ds, [y], M, k, _ => flatD y = true ∧ ds.all flatD = true ∧ ∃ j : Nat, firstIx y ds = some j ∧ k (.int j) M
  | _, _, _, _, _ => False
theorem m_index : MtR X "list.index" (rM X.K E dIndex) := by
  intro pins s σ H x xs v us Q I rx rs h
  obtain ⟨s0, dx, ds, k, xx, rfl, ok, hx, hxs, q, p, px⟩ := h
  unfold dIndex at q
  split at q
  · obtain ⟨l, vs, rfl, hl, r1⟩ := hx.lst_of
    obtain ⟨fy, fd, j, hj, q⟩ := q
    obtain ⟨y, rfl, ry⟩ := hxs.one
    obtain ⟨e1, e2⟩ := ry.flat fy
    obtain ⟨_, e4⟩ := inV_of (x := _) e1 r1 fd
    obtain ⟨⟨z, h1, h2⟩, h3⟩ := firstIx_spec hj
    obtain ⟨zv, h4, rz⟩ := r1.get h1
    have fz : flatD z = true := List.all_eq_true.mp fd z (List.mem_of_getElem? h1)
    obtain ⟨e5, e6⟩ := rz.flat fz
    refine mt_index pins s σ _ _ _ v us Q I rx rs ⟨l, vs, y, j, zv, rfl, rfl, SqL.of (ok.sub _ _ hl), e2, e4, h4, ?_, fun m z' hm hz' => ?_, p.now q ok .int⟩
    · rw [e5, e1]; exact h2
    · obtain ⟨d', g1, g2⟩ := r1.getV hz'
      have fz' : flatD d' = true := List.all_eq_true.mp fd d' (List.mem_of_getElem? g1)
      obtain ⟨e7, _⟩ := g2.flat fz'
      rw [e7, e1]
      exact h3 m d' hm g1
  · exact q.elim
/-- sep.join(xs) -/
def dJoin : D → List D → Mm → DK → DX → Prop := fun x ds M k _ => ∃ (a : Str) (ys : List Str), x = .str a ∧ ds = [.lst (ys.map .str)] ∧ (ys.map (·.length)).sum + ys.length * a.length ≤ 16777216 ∧ k (.str (Txt.join a ys)) M
theorem m_join : MtR X "str.join" (rM X.K E dJoin) := by
  intro pins s σ H x xs v us Q I rx rs h
  obtain ⟨s0, dx, ds, k, xx, rfl, ok, hx, hxs, ⟨a, ys, rfl, rfl, hz, q⟩, p, px⟩ := h
  cases hx
  obtain ⟨y, rfl, ry⟩ := hxs.one
  obtain ⟨l, vs, rfl, hl, r1⟩ := ry.lst_of
  have e := Reps.strs r1
  subst e
  exact mt_join pins s σ _ _ _ v us Q I rx rs ⟨a, l, ys, rfl, rfl, .inl (SqL.of (ok.sub _ _ hl)), hz, p.now q ok .str⟩
end
end DL
set_option Elab.async false
set_option linter.all false
set_option maxRecDepth 100000
set_option maxHeartbeats 2000000
namespace DL
open PySem PySem.Spec PyProof.Rows L2
inductive Kd where
  | non | bl | int | str | lst | tup
  deriving DecidableEq
def Kd.nm : Kd → String
  | .non => "NoneType" | .bl => "bool" | .int => "int" | .str => "str" | .lst => "list" | .tup => "tuple"
def isK (T u : Kd) : Bool := T == u || (T == .int && u == .bl)
theorem kit_K : ∀ (T u : Kd), T ≠ .non → kitB u.nm T.nm = some (isK T u)
  | .non, _, h => absurd rfl h
  | .bl, .non, _ => by decide +kernel
  | .bl, .bl, _ => by decide +kernel
  | .bl, .int, _ => by decide +kernel
  | .bl, .str, _ => by decide +kernel
  | .bl, .lst, _ => by decide +kernel
  | .bl, .tup, _ => by decide +kernel
  | .int, .non, _ => by decide +kernel
  | .int, .bl, _ => by decide +kernel
  | .int, .int, _ => by decide +kernel
  | .int, .str, _ => by decide +kernel
  | .int, .lst, _ => by decide +kernel
  | .int, .tup, _ => by decide +kernel
  | .str, .non, _ => by decide +kernel
  | .str, .bl, _ => by decide +kernel
  | .str, .int, _ => by decide +kernel
  | .str, .str, _ => by decide +kernel
  | .str, .lst, _ => by decide +kernel
  | .str, .tup, _ => by decide +kernel
  | .lst, .non, _ => by decide +kernel
  | .lst, .bl, _ => by decide +kernel
  | .lst, .int, _ => by decide +kernel
  | .lst, .str, _ => by decide +kernel
  | .lst, .lst, _ => by decide +kernel
  | .lst, .tup, _ => by decide +kernel
  | .tup, .non, _ => by decide +kernel
  | .tup, .bl, _ => by decide +kernel
  | .tup, .int, _ => by decide +kernel
  | .tup, .str, _ => by decide +kernel
  | .tup, .lst, _ => by decide +kernel
  | .tup, .tup, _ => by decide +kernel
/-- a kind, or an own class -/
def kdD : D → Mm → Option (Sum Kd Addr)
  | .non, _ => some (.inl .non)
  | .bl _, _ => some (.inl .bl)
  | .int _, _ => some (.inl .int)
  | .str _, _ => some (.inl .str)
  | .lst _, _ => some (.inl .lst)
  | .tup _, _ => some (.inl .tup)
  | .scr _, _ => none
  | .exc _ _ _, _ => none
  | .lam _ _ _ _ _, _ => none
  | .err _ _, _ => none
  | .dic _ _, _ => none
  | .obj C _, _ => some (.inr C)
  | .cel a, M => match M a with
    | some (.lst _) => some (.inl .lst)
    | some (.ins C _) => some (.inr C)
    | some (.tbl _) => none
    | some (.dic _ _ _) => none
    | none => none
/-- what a class must have for isinstance -/
structure ClsI (K : PySem.W.Frag) (C : Addr) : Prop where
  cl : Cls K C
  ha : PySem.W.findIn K (.ref C) "__class__" = some (some (.builtin "object.__class__"))
  hn : PySem.W.specialIn K (.builtin "object.__class__") "__get__" = some (some (.builtin "getset_descriptor.__get__"))
  htk : PySem.W.takesIn K (.builtin "object.__class__") = some true
  hm : PySem.W.mroIn K C (.type "object") = some true
theorem tyX_of {K : PySem.W.Frag} {s : Sta} {v : V} {d : D} (ok : Ok K s) (r : Rep K s.G v d) : (∀ u, kdD d s.M = some (.inl u) → TyX K s.H v (.type u.nm)) ∧ ∀ C, kdD d s.M = some (.inr C) → ClsI K C → TyX K s.H v (.ref C) := by
  refine ⟨fun u e => ?_, fun C e c => ?_⟩
  · cases r with
    | non => cases e; exact .base .non
    | bl => cases e; exact .base (.bl _)
    | int => cases e; exact .base (.int _)
    | str => cases e; exact .base (.str _)
    | lst h _ => cases e; exact .base (.lst (ok.sub _ _ h))
    | tup h _ =>
      cases e
      rcases Same.seqT ok.sub h with (h | ⟨o, h⟩) | ⟨o, its, n, h, hc, _⟩
      · exact .base (.tup h)
      · exact .fTuple h
      · exact .kTuple h hc
    | obj h _ => cases e
    | scr h => cases e
    | exc h r => cases e
    | lam h hc ht => cases e
    | err h hd r => cases e
    | dic h r => cases e
    | @cel a =>
      simp only [kdD] at e
      split at e
      · rename_i ds hm
        cases e
        obtain ⟨vs, e, _⟩ := ok.cells _ _ hm
        exact .base (.lst e)
      · cases e
      · cases e
      · cases e
      · cases e
  · cases r with
    | non => cases e
    | bl => cases e
    | int => cases e
    | str => cases e
    | lst h _ => cases e
    | tup h _ => cases e
    | obj h _ => cases e; exact .base (.ins (ok.sub _ _ h) c.cl c.ha c.hn c.htk c.hm)
    | scr h => cases e
    | exc h r => cases e
    | lam h hc ht => cases e
    | err h hd r => cases e
    | dic h r => cases e
    | @cel a =>
      simp only [kdD] at e
      split at e
      · cases e
      · rename_i C' fs hm
        cases e
        obtain ⟨dx, fvs, e, _⟩ := ok.cells _ _ hm
        exact .base (.ins e c.cl c.ha c.hn c.htk c.hm)
      · cases e
      · cases e
      · cases e
def dIsiB (T : Kd) (CS : List Addr) : D1 := fun u M k _ => match kdD u M with
  | some (.inl u') => k (.bl (isK T u')) M
  | some (.inr C) => C ∈ CS ∧ k (.bl false) M
  | none => False
section
variable {X : Cx} {E : XK} {e a b c : Expr} {p pos : Pos} {τa τb τc : DE} {αa : DA} {es : List Expr}
/-- isinstance(e, T), T a built-in class -/
theorem d_isi {q : Pos} {x : Str} (T : Kd) (CS : List Addr) (hT : T ≠ .non) (hC : ∀ C ∈ CS, ClsI X.K C ∧ PySem.W.kitOne X.K (.ref C) (.type T.nm) = some false) (hg : Gl X "isinstance") (hm : X.mg "isinstance" = none) (hgT : Gl X x) (hmT : X.mg x = none) (hvT : bootBuiltins x = some (.type T.nm)) (he : DP X E e τa)
    (hn : x ≠ "__name__" := by decide) (hd : (x == ("__debug__" : Str)) = false := by decide) (hs : starEach [e, .Name x q] X.env = (false, eval e X.env) :: starEach [.Name x q] X.env := by rfl) (hs2 : starEach [.Name x q] X.env = (false, eval (.Name x q) X.env) :: starEach [] X.env := by rfl) (hpl : (backTo pos (starEach [.Name x q] X.env)).any (·.1) = false := by rfl) :
    DP X E (.Call (.Name "isinstance" p) [e, .Name x q] [] pos) (dUn (dIsiB T CS) τa) :=
  pe_mono (pe_callB call_isi hg hm (by decide +kernel) (pa_cons he (pa_cons (pe_bltn (v := .ty T.nm) hgT hmT hvT rfl hn hd) pa_nil hs2) hs) (by decide) (by decide) hs hpl) fun σ H Q h => by
    obtain ⟨ρ, s, k, xx, rfl, er, q, pp, px⟩ := h
    refine ⟨ρ, s, _, xx, rfl, er, q, fun u s1 q1 st1 ok1 v1 r1 => ?_, px⟩
    obtain ⟨t1, t2⟩ := tyX_of ok1 r1
    change dIsiB T CS u s1.M k xx at q1
    unfold dIsiB at q1
    split at q1
    · rename_i u' hu
      exact ⟨v1, .ty T.nm, .type u'.nm, .type T.nm, isK T u', rfl, .ty _, t1 u' hu, kit_ty (kit_K T u' hT), pp _ s1 q1 st1 ok1 _ .bl⟩
    · rename_i C hu
      obtain ⟨c1, c2⟩ := hC C q1.1
      exact ⟨v1, .ty T.nm, .ref C, .type T.nm, false, rfl, .ty _, t2 C hu c1, c2, pp _ s1 q1.2 st1 ok1 _ .bl⟩
    · exact q1.elim
end
theorem d_globE {X : Cx} {E : XK} {x : Str} {d : D} {pos : Pos} (hg : Gl X x) (hm : ∃ u, X.mg x = some u ∧ KC d u) (hd : (x == ("__debug__" : Str)) = false := by decide) : DP X E (.Name x pos) (dC d) := by
  obtain ⟨u, h1, h2⟩ := hm
  exact d_glob hg h1 h2 hd
theorem boot_len' : bootBuiltins "len" = some (.builtin "len") := by decide +kernel
theorem boot_abs' : bootBuiltins "abs" = some (.builtin "abs") := by decide +kernel
theorem boot_all' : bootBuiltins "all" = some (.builtin "all") := by decide +kernel
theorem boot_min' : bootBuiltins "min" = some (.builtin "min") := by decide +kernel
theorem boot_int' : bootBuiltins "int" = some (.type "int") := by decide +kernel
theorem boot_list' : bootBuiltins "list" = some (.type "list") := by decide +kernel
theorem boot_tuple' : bootBuiltins "tuple" = some (.type "tuple") := by decide +kernel
theorem boot_str' : bootBuiltins "str" = some (.type "str") := by decide +kernel
theorem fund_mk {K : PySem.W.Frag} {x qual : Str} {params : Arguments} {body : List Stmt} {scope : Scope} {f : Addr} {oc : Value} {od an : Option Addr} {osl : Array (Option Value)} {kV doc pm cdv ct : Value} (l : K.lookup f = some ⟨oc, od, .func (PySem.W.fnOf x qual params body scope .none kV doc pm an cdv ct), osl⟩)
    (c : PySem.W.codeIn K cdv qual = true) (k : PySem.W.keepIn K (.ref f) = true) : FunD K x qual params body scope [] [] f (PySem.W.fnOf x qual params body scope .none kV doc pm an cdv ct) :=
  ⟨⟨oc, od, .none, kV, doc, pm, an, cdv, ct, osl, rfl, l, c, .inl ⟨rfl, rfl⟩, .inl rfl⟩, k⟩
theorem kbd_of {K : PySem.W.Frag} {x qual : Str} {params : Arguments} {body : List Stmt} {scope : Scope} {f : Addr} {fd : FuncData} {ps : List Str} {n : Nat} (F : FunD K x qual params body scope [] [] f fd) (hn : n = ps.length)
    (h : ∀ (kV doc pm : Value) (an : Option Addr) (cdv ct : Value) (us : List Value), us.length = ps.length → bindArgs (PySem.W.fnOf x qual params body scope .none kV doc pm an cdv ct) ⟨us, []⟩ = pure (ps.zip us)) : KBd K fd ps n [] (fun us _ => us) := by
  obtain ⟨oc, od, dV, kV, doc, pm, an, cdv, ct, osl, rfl, lk, hcd, hD, hK⟩ := F.ex
  rcases hD with ⟨_, rfl⟩ | ⟨e, _⟩
  · exact kbd_plain hn (h kV doc pm an cdv ct)
  · exact absurd rfl e
theorem ite_b {c : Bool} {A B : Prop} (h1 : c = true → A) (h2 : c = false → B) : if c = true then A else B := by
  cases c with
  | true => rw [if_pos rfl]; exact h1 rfl
  | false => rw [if_neg Bool.false_ne_true]; exact h2 rfl
/-- a comprehension's turns: no test, the element is told for each item and changes nothing -/
theorem lc_map {γ : DG} {ε : DE} {vs : List Nat} {ρ : DEnv} {M : Mm} {k : DK} {ds : List D} (f : D → D) (hl : ds.length < sizeLine)
    (he : ∀ d ∈ ds, ∀ K : DK, K (f d) M → γ d (wipeD ρ vs) M fun ρ1 M2 => ε ρ1 M2 K (fun _ _ _ => False))
    (gm : ∀ d (K K' : DEnv → Mm → Prop), (∀ ρ M, K ρ M → K' ρ M) → γ d (wipeD ρ vs) M K → γ d (wipeD ρ vs) M K') (hk : k (.lst (ds.map f)) M) : LcK γ dYes ε vs ρ ds M k := by
  refine .of hl (fun j acc M' => M' = M ∧ acc = (ds.take j).map f) ⟨rfl, rfl⟩ (fun j d acc M' hd ⟨e1, e2⟩ => ?_) (fun acc M' ⟨e1, e2⟩ => ?_)
  · subst e1 e2
    have hn : List.map f (List.take j ds) ++ [f d] = List.map f (List.take (j + 1) ds) := by
      rw [List.take_succ, hd]
      simp
    refine gm d _ _ (fun ρ1 M2 hh => ?_) (he d (List.mem_of_getElem? hd) (fun y M4 => M4 = M' ∧ List.map f (List.take j ds) ++ [y] = List.map f (List.take (j + 1) ds)) ⟨rfl, hn⟩)
    unfold dYes
    dsimp only
    rw [if_pos rfl]
    exact hh
  · subst e1 e2
    rw [List.take_length]
    exact hk
theorem gN_mono {i : Nat} {d : D} {ρ : DEnv} {M : Mm} (K K' : DEnv → Mm → Prop) (h : ∀ ρ M, K ρ M → K' ρ M) (q : gN i d ρ M K) : gN i d ρ M K' := h _ _ q
theorem eqD_int (i j : Int) : EqD (.int i) (.int j) (decide (i = j)) := by
  have h : EqD (.int i) (.int j) (decide (toV (.int i) = toV (.int j))) := .sc rfl rfl rfl
  have e : decide (toV (.int i) = toV (.int j)) = decide (i = j) := by
    by_cases c : i = j
    · subst c; simp
    · rw [decide_eq_false c]
      exact decide_eq_false fun z => c (by injection z)
  rw [← e]
  exact h
theorem eqD_str (i j : Str) : EqD (.str i) (.str j) (decide (i = j)) := by
  have h : EqD (.str i) (.str j) (decide (toV (.str i) = toV (.str j))) := .sc rfl rfl rfl
  have e : decide (toV (.str i) = toV (.str j)) = decide (i = j) := by
    by_cases c : i = j
    · subst c; simp
    · rw [decide_eq_false c]
      exact decide_eq_false fun z => c (by injection z)
  rw [← e]
  exact h
theorem eqD_bl (i j : Bool) : EqD (.bl i) (.bl j) (decide (i = j)) := by
  have h : EqD (.bl i) (.bl j) (decide (toV (.bl i) = toV (.bl j))) := .sc rfl rfl rfl
  have e : decide (toV (.bl i) = toV (.bl j)) = decide (i = j) := by
    by_cases c : i = j
    · subst c; simp
    · rw [decide_eq_false c]
      exact decide_eq_false fun z => c (by injection z)
  rw [← e]
  exact h
theorem eqD_non : EqD .non .non true := by
  have h : EqD .non .non (decide (toV .non = toV .non)) := .sc rfl rfl rfl
  exact h
theorem eqI {i j : Int} {M : Mm} {k : DK} (q : k (.bl (decide (i = j))) M) : EqK (.int i) (.int j) M k := .of (eqD_int i j) q
theorem neI {i j : Int} {M : Mm} {k : DK} (q : k (.bl (!decide (i = j))) M) : NeK (.int i) (.int j) M k := .of (eqD_int i j) q
theorem eqP {a b : D} {p r : PyData} {M : Mm} {k : DK} (h1 : toP a = some p) (h2 : toP b = some r) (h3 : SeqAt.shaped p = true) (h4 : SeqAt.shaped r = true) (q : k (.bl (PyData.eqv p r)) M) : EqK a b M k := .of (.py h1 h2 h3 h4) q
theorem neP {a b : D} {p r : PyData} {M : Mm} {k : DK} (h1 : toP a = some p) (h2 : toP b = some r) (h3 : SeqAt.shaped p = true) (h4 : SeqAt.shaped r = true) (q : k (.bl (!PyData.eqv p r)) M) : NeK a b M k := .of (.py h1 h2 h3 h4) q
/-- the kind of plain data -/
def kd : D → Option Kd
  | .non => some .non
  | .bl _ => some .bl
  | .int _ => some .int
  | .str _ => some .str
  | .lst _ => some .lst
  | .tup _ => some .tup
  | _ => none
theorem kdD_of {u : D} {v : Kd} (h : kd u = some v) (M : Mm) : kdD u M = some (.inl v) := by
  cases u <;> first | (cases h; rfl) | cases h
/-- a block cut behind its first statement: R is what holds there -/
def dCutS (t u : DS) : DS := fun k x ρ M => ∃ R : DEnv → Mm → Prop, t { k with nx := R } x ρ M ∧ ∀ ρ M, R ρ M → u k x ρ M
theorem b_cut {X : Cx} {E : XK} {st : Stmt} {sts : List Stmt} {τs τt : DS} (h1 : DPS X E st τs) (h2 : DPB X E sts τt) : DPB X E (st :: sts) (dCutS τs τt) := pss_mono (pss_cons h1 h2) fun D σ H h => by
  obtain ⟨ρ, s, k, x, rfl, er, ⟨R, q, qr⟩, p, px⟩ := h
  refine ⟨ρ, s, _, x, rfl, er, q, ⟨fun ρ1 s1 q1 st1 σ1 er1 => ?_, p.rt, p.bk, p.ct⟩, px⟩
  exact ⟨ρ1, s1, k, x, rfl, er1, qr ρ1 s1.M q1, p.step st1, px.step st1⟩
end DL
set_option Elab.async false
set_option linter.all false
set_option maxRecDepth 100000
namespace DL
open PySem PySem.Spec PyProof.Rows L2
end DL
set_option Elab.async false
set_option linter.all false
set_option maxRecDepth 100000
set_option maxHeartbeats 2000000
namespace DL
open PySem PySem.Spec PyProof.Rows L2
/-- an instance: its class and what it holds -/
def insOf : D → Mm → Option (Addr × List (Str × D))
  | .obj C fs, _ => some (C, fs)
  | .cel a, M => match M a with
    | some (.ins C fs) => some (C, fs)
    | _ => none
  | _, _ => none
theorem ins_of {K : PySem.W.Frag} {s : Sta} {v : V} {d : D} {C : Addr} {fs : List (Str × D)} (ok : Ok K s) (r : Rep K s.G v d) (h : insOf d s.M = some (C, fs)) : ∃ a dx fvs, v = .ref a ∧ s.H a = some (.ins C dx fvs) ∧ FRep K s.G fvs fs := by
  cases r with
  | obj h1 r1 => cases h; exact ⟨_, _, _, rfl, ok.sub _ _ h1, r1⟩
  | @cel a =>
    simp only [insOf] at h
    split at h
    · rename_i C' fs' hm
      cases h
      obtain ⟨dx, fvs, e, rf⟩ := ok.cells _ _ hm
      exact ⟨a, dx, fvs, rfl, e, rf⟩
    · cases h
  | _ => cases h
theorem insOf_cel {M : Mm} {p : Addr} {C : Addr} {fs : List (Str × D)} (h : M p = some (.ins C fs)) : insOf (.cel p) M = some (C, fs) := by
  simp only [insOf, h]
def dFld (CS : List Addr) (f : Str) : D1 := fun u M k _ => ∃ C fs d, insOf u M = some (C, fs) ∧ C ∈ CS ∧ fs.lookup f = some d ∧ k d M
section
variable {X : Cx} {E : XK} {e o v : Expr} {f : Str} {pos pos' : Pos} {τ τo τv : DE}
theorem d_fld (CS : List Addr) (hc : ∀ C ∈ CS, Cls X.K C ∧ NoAttr X.K C f) (he : DP X E e τ) (hb : attributeBase e f X.env (eval e X.env) = eval e X.env := by rfl) : DP X E (.Attribute e f pos) (dUn (dFld CS f) τ) := pe_mono (pe_fld he hb) fun σ H Q h => by
  obtain ⟨ρ, s, k, x, rfl, er, q, p, px⟩ := h
  refine ⟨ρ, s, _, x, rfl, er, q, fun u s1 q1 st1 ok1 v1 r1 => ?_, px⟩
  obtain ⟨C, fs, d, hi, hC, hl, q1⟩ := q1
  obtain ⟨a, dx, fvs, rfl, ha, rf⟩ := ins_of ok1 r1 hi
  obtain ⟨v, hv, rv⟩ := rf.get hl
  exact ⟨a, C, dx, fvs, v, rfl, ha, (hc C hC).1, (hc C hC).2, hv, p d s1 q1 st1 ok1 v rv⟩
theorem FRep.put {K : PySem.W.Frag} {G : Hp} {f : Str} {v : V} {d : D} (r : Rep K G v d) : ∀ {vs : List (Str × V)} {ds : List (Str × D)}, FRep K G vs ds → FRep K G (putF f v vs) (putD f d ds)
  | _, _, .nil => .cons r .nil
  | _, _, .cons (f := g) h t => by
    unfold putF putD
    by_cases e : g = f
    · subst e
      rw [if_pos rfl, if_pos rfl]
      exact .cons r t
    · rw [if_neg e, if_neg e]
      exact .cons h (FRep.put r t)
/-- o.f = v of an instance in the making -/
def dSetFld (CS : List Addr) (f : Str) (τo τv : DE) : DS := fun k x ρ M => τv ρ M (fun u M1 => τo ρ M1 (fun w M2 => ∃ a C fs, w = .cel a ∧ M2 a = some (.ins C fs) ∧ C ∈ CS ∧ fs.length < 1000 ∧ k.nx ρ (mup M2 a (.ins C (putD f u fs)))) x) x
theorem s_fld (CS : List Addr) (hc : ∀ C ∈ CS, Cls X.K C ∧ NoAttr X.K C f) (hv : DP X E v τv) (ho : DP X E o τo) (hs : swapsWith v (some (.Attribute o f pos')) pos.line X.env = pure false := by rfl) :
    DPS X E (.Assign [.Attribute o f pos'] v pos) (dSetFld CS f τo τv) := ps_mono (ps_fld ho hv hs) fun D σ H h => by
  obtain ⟨ρ, s, k, x, rfl, er, q, p, px⟩ := h
  refine ⟨ρ, s, _, x, rfl, er, q, fun u s1 q1 st1 ok1 v1 r1 => ?_, px⟩
  refine ⟨ρ, s1, _, x, rfl, er.step st1 ok1, q1, fun w s2 q2 st2 ok2 v2 r2 => ?_, px.step st1⟩
  obtain ⟨a, C, fs, rfl, hm, hC, hl, q2⟩ := q2
  obtain ⟨dx, fvs, e, rf⟩ := ok2.cells _ _ hm
  have st : Step s s2 := st1.trans st2
  obtain ⟨k4, st4⟩ := ok2.put (p := a) (o := .ins C dx (putF f v1 fvs)) (mo := .ins C (putD f u fs)) (by rw [hm]; rfl) ⟨_, _, rfl, rf.put (r1.same st2.same)⟩
  exact ⟨a, C, dx, fvs, r2.cel_of, e, (hc C hC).1, (hc C hC).2, by rw [rf.length]; exact hl, p.nx ρ ⟨_, _, _⟩ q2 (st.trans st4) σ (er.step (st.trans st4) k4)⟩
end
theorem Ok.drop {K : PySem.W.Frag} {b s : Sta} {p : Addr} (k : Ok K s) (st : Step b s) (hb : b.H p = none) (hbm : b.M p = none) : Ok K ⟨s.H, s.G, mdel s.M p⟩ ∧ Step b ⟨s.H, s.G, mdel s.M p⟩ := by
  have ne : ∀ a mo, mdel s.M p a = some mo → a ≠ p := fun a mo e z => by subst z; rw [mdel_same] at e; cases e
  refine ⟨⟨k.sub, fun a mo e => ?_, fun a mo e => ?_⟩, ⟨st.same, fun a h => ?_, fun a o h1 h2 h3 => ?_⟩⟩
  · have e' : mdel s.M p a = some mo := e
    have z := ne a mo e'
    rw [mdel_ne z] at e'
    exact k.apart a mo e'
  · have e' : mdel s.M p a = some mo := e
    have z := ne a mo e'
    rw [mdel_ne z] at e'
    exact k.cells a mo e'
  · have z : a ≠ p := fun z => by subst z; rw [hbm] at h; cases h
    show (mdel s.M p a).isSome = true
    rw [mdel_ne z]
    exact st.dom a h
  · have z : a ≠ p := fun z => by subst z; rw [hb] at h1; cases h1
    obtain ⟨x1, x2, x3⟩ := st.hid a o h1 h2 h3
    refine ⟨x1, x2, ?_⟩
    show mdel s.M p a = none
    rw [mdel_ne z]
    exact x3
end DL
set_option Elab.async false
set_option linter.all false
set_option maxRecDepth 100000
set_option maxHeartbeats 2000000
namespace DL
open PySem PySem.Spec PyProof.Rows L2
section
variable {X : Cx} {CX : CXT} {E : XK} {k n nn : Nat} {f C pa : Addr} {fd : FuncData} {ps ks : List Str} {φ : Ct} {x m : Str} {p pos apos : Pos} {e o : Expr} {es : List Expr} {kws : List Keyword} {αa ακ : DA} {τ τo τv : DE} {gD : List D → List D → List D}
def dMeth (C : Addr) (mn : Str) (n m : Nat) (φ : Ct) (gD : List D → List D → List D) (τo : DE) (α κ : DA) : DE := fun ρ M k x => τo ρ M (fun o M1 => ∃ fs, insOf o M1 = some (C, fs) ∧ fs.lookup mn = none ∧ α ρ M1 (fun ds M2 => κ ρ M2 (fun zs M3 => ds.length = n ∧ zs.length = m ∧ φ (gD (o :: ds) zs) M3 k x) x) x) x
theorem d_meth {pl : Sem Bool} (c : Cls X.K C) (hm : Meth X.K C m f) (F : FnOk X.prog X.w X.K X.mg X.base CX k f fd ps (spD X.K nn φ)) (hr : Room k X.A) (hb : KBd X.K fd ps (n + 1) ks gD) (hgl : ∀ us ws : List D, us.length = n + 1 → ws.length = ks.length → (gD us ws).length = nn) (hx : Passes CX X E)
    (ho : DP X E o τo) (ha : DPA X E (e :: es) αa) (hkw : DPK X E kws ακ) (hall : (backToKw pos (keywordEach kws X.env)).all (·.1.isSome) = true := by rfl) (hks : (backToKw pos (keywordEach kws X.env)).filterMap (·.1) = ks := by rfl)
    (he : starEach (e :: es) X.env = (false, eval e X.env) :: starEach es X.env := by rfl)
    (hpl : ((backTo pos (starEach (e :: es) X.env)).any (·.1) || (backToKw pos (keywordEach kws X.env)).any (·.1.isNone)) = false := by rfl)
    (ht : eval (.Call (.Attribute o m apos) (e :: es) kws pos) X.env = (do
      let ov ← eval o X.env
      standAt apos.atName
      let (f, first) ← holding [ov] (getMethod ov m pl)
      callWith pos f first (backTo pos (starEach (e :: es) X.env)) (backToKw pos (keywordEach kws X.env))) := by rfl) :
    DP X E (.Call (.Attribute o m apos) (e :: es) kws pos) (dMeth C m n ks.length φ gD τo αa ακ) := by
  refine ⟨fun pins s σ H Q I h => ?_⟩
  obtain ⟨ρ, s0, kk, xx, rfl, er, q, pp, px⟩ := h
  refine PySem.W.methodCall_KW (pl := pl) (thn (ho.run pins s σ s0.H (fun v H1 => ∃ s1 d, s1.H = H1 ∧ Ok X.K s1 ∧ Step s0 s1 ∧ Rep X.K s1.G v d ∧ ∃ fs, insOf d s1.M = some (C, fs) ∧ fs.lookup m = none ∧ αa ρ s1.M (fun ds M2 => ακ ρ M2 (fun zs M3 => ds.length = n ∧ zs.length = ks.length ∧ φ (gD (d :: ds) zs) M3 kk xx) xx) xx) I
    ⟨ρ, s0, _, xx, rfl, er, q, fun d s1 q1 st1 ok1 v1 r1 => ⟨s1, d, rfl, ok1, st1, r1, q1⟩, px⟩) fun u s1 ⟨x, H1, I1, rx, sa, d, e1, oka, sta, ra, fs, hi, hl, q1⟩ => ?_) ht
  subst e1
  obtain ⟨a, dx, fvs, ex, hha, rf⟩ := ins_of oka ra hi
  subst ex
  obtain rfl : u = Value.ref a := rx
  refine getmeth_ok I1 hha c hm (rf.none hl) ?_
  refine PySem.W.callWith_KW (first := [.ref a]) (h₀ := X.base) I.ok.mod.kin hm.kp hall (thn (ha.run pos pins s1 σ sa.H (fun vs H2 => ∃ sb ds, sb.H = H2 ∧ Ok X.K sb ∧ Step sa sb ∧ Reps X.K sb.G vs ds ∧ ακ ρ sb.M (fun zs M3 => ds.length = n ∧ zs.length = ks.length ∧ φ (gD (d :: ds) zs) M3 kk xx) xx) I1
    ⟨ρ, sa, _, xx, rfl, er.step sta oka, q1, fun ds sb qb stb okb vs rb => ⟨sb, ds, rfl, okb, stb, rb, qb⟩, px.step sta⟩) fun us s2 ⟨vs, H2, I2, r, sb, ds, e2, okb, stb, rb, q2⟩ => ?_) hpl he
  subst e2
  refine thn (hkw.run pos pins s2 σ sb.H (fun zs H3 => ∃ sc zd, sc.H = H3 ∧ Ok X.K sc ∧ Step sb sc ∧ Reps X.K sc.G zs zd ∧ ds.length = n ∧ zd.length = ks.length ∧ φ (gD (d :: ds) zd) sc.M kk xx) I2
    ⟨ρ, sb, _, xx, rfl, er.step (sta.trans stb) okb, q2, fun zd sc qc stc okc zs rc => ⟨sc, zd, rfl, okc, stc, rc, qc⟩, px.step (sta.trans stb)⟩) fun ws s3 ⟨zs, H3, I3, rz, sc, zd, e3, okc, stc, rc, l1, l2, q3⟩ => ⟨I3.kIn, ?_⟩
  subst e3
  rw [hks]
  have st := (sta.trans stb).trans stc
  exact run_D (us := .ref a :: us) (vs := .ref a :: vs) F hr hb hx I3 (.cons rfl r) rz ⟨sc, d :: ds, zd, kk, xx, rfl, okc, .cons (ra.same (stb.trans stc).same) (rb.same stc.same), rc, by rw [List.length_cons, l1], l2, hgl _ _ (by rw [List.length_cons, l1]) l2, q3, pp.step st, px.step st⟩
theorem d_meth0 {pl : Sem Bool} (c : Cls X.K C) (hm : Meth X.K C m f) (F : FnOk X.prog X.w X.K X.mg X.base CX k f fd ps (spD X.K nn φ)) (hr : Room k X.A) (hb : KBd X.K fd ps (0 + 1) ks gD) (hgl : ∀ us ws : List D, us.length = 0 + 1 → ws.length = ks.length → (gD us ws).length = nn) (hx : Passes CX X E)
    (ho : DP X E o τo) (hkw : DPK X E kws ακ) (hall : (backToKw pos (keywordEach kws X.env)).all (·.1.isSome) = true := by rfl) (hks : (backToKw pos (keywordEach kws X.env)).filterMap (·.1) = ks := by rfl)
    (hpl : ((backTo pos (starEach [] X.env)).any (·.1) || (backToKw pos (keywordEach kws X.env)).any (·.1.isNone)) = false := by rfl)
    (ht : eval (.Call (.Attribute o m apos) [] kws pos) X.env = (do
      let ov ← eval o X.env
      standAt apos.atName
      let (f, first) ← holding [ov] (getMethod ov m pl)
      callWith pos f first (backTo pos (starEach [] X.env)) (backToKw pos (keywordEach kws X.env))) := by rfl) :
    DP X E (.Call (.Attribute o m apos) [] kws pos) (dMeth C m 0 ks.length φ gD τo dNil ακ) := by
  refine ⟨fun pins s σ H Q I h => ?_⟩
  obtain ⟨ρ, s0, kk, xx, rfl, er, q, pp, px⟩ := h
  refine PySem.W.methodCall_KW (pl := pl) (thn (ho.run pins s σ s0.H (fun v H1 => ∃ s1 d, s1.H = H1 ∧ Ok X.K s1 ∧ Step s0 s1 ∧ Rep X.K s1.G v d ∧ ∃ fs, insOf d s1.M = some (C, fs) ∧ fs.lookup m = none ∧ ακ ρ s1.M (fun zs M3 => ([] : List D).length = 0 ∧ zs.length = ks.length ∧ φ (gD [d] zs) M3 kk xx) xx) I
    ⟨ρ, s0, _, xx, rfl, er, q, fun d s1 q1 st1 ok1 v1 r1 => ⟨s1, d, rfl, ok1, st1, r1, q1⟩, px⟩) fun u s1 ⟨x, H1, I1, rx, sa, d, e1, oka, sta, ra, fs, hi, hl, q1⟩ => ?_) ht
  subst e1
  obtain ⟨a, dx, fvs, ex, hha, rf⟩ := ins_of oka ra hi
  subst ex
  obtain rfl : u = Value.ref a := rx
  refine getmeth_ok I1 hha c hm (rf.none hl) ?_
  refine PySem.W.callWith_KW0 (first := [.ref a]) (h₀ := X.base) I.ok.mod.kin hm.kp hall ?_ hpl
  refine thn (hkw.run pos pins s1 σ sa.H (fun zs H3 => ∃ sc zd, sc.H = H3 ∧ Ok X.K sc ∧ Step sa sc ∧ Reps X.K sc.G zs zd ∧ zd.length = ks.length ∧ φ (gD [d] zd) sc.M kk xx) I1
    ⟨ρ, sa, _, xx, rfl, er.step sta oka, q1, fun zd sc qc stc okc zs rc => ⟨sc, zd, rfl, okc, stc, rc, qc.2⟩, px.step sta⟩) fun ws s3 ⟨zs, H3, I3, rz, sc, zd, e3, okc, stc, rc, l2, q3⟩ => ⟨I3.kIn, ?_⟩
  subst e3
  rw [hks]
  have st := sta.trans stc
  exact run_D (us := [.ref a]) (vs := [.ref a]) F hr hb hx I3 (.cons rfl .nil) rz ⟨sc, [d], zd, kk, xx, rfl, okc, .cons (ra.same stc.same) .nil, rc, rfl, l2, hgl _ _ rfl l2, q3, pp.step st, px.step st⟩
def dPropR (C : Addr) (φ : Ct) : D1 := fun u M k _ => (∃ fs, insOf u M = some (C, fs)) ∧ φ [u] M k (fun _ _ _ => False)
theorem pass_never : Passes (L2.CX X.prog X.w) X.nox (fun _ _ _ => False) := by
  intro pins σ H s e s' I h
  obtain ⟨_, _, _, _, _, _, _, _, _, _, _, _, z⟩ := h
  exact z.elim
theorem d_prop (he : DP X E e τ) (c : Cls X.K C) (hp : PropOf X.K C m pa f) (F : FnOk X.prog X.w X.K X.mg X.base (L2.CX X.prog X.w) k f fd ps (spD X.K 1 φ)) (hr : Room (k + 1) X.A) (hb : Binds X.K fd ps [])
    (hab : attributeBase e m X.env (eval e X.env) = eval e X.env := by rfl) : DP X E (.Attribute e m pos) (dUn (dPropR C φ) τ) := pe_mono (pe_prop he c hp F hr hb .nil pass_never hab) fun σ H Q h => by
  obtain ⟨ρ, s, k, x, rfl, er, q, p, px⟩ := h
  refine ⟨ρ, s, _, x, rfl, er, q, fun u s1 q1 st1 ok1 v1 r1 => ?_, px⟩
  obtain ⟨⟨fs, hi⟩, q1⟩ := q1
  obtain ⟨a, dx, fvs, rfl, ha, rf⟩ := ins_of ok1 r1 hi
  exact ⟨a, dx, fvs, rfl, ha, s1, [u], k, _, rfl, ok1, .cons r1 .nil, rfl, q1, p.step st1, PostX.never⟩
def dRev : D1
  | .lst ds, M, k, _ => k (.lst ds.reverse) M
  | .cel a, M, k, _ => ∃ ds, M a = some (.lst ds) ∧ k (.lst ds.reverse) M
  | _, _, _, _ => False
theorem Reps.reverse {K : PySem.W.Frag} {G : Hp} : ∀ {vs : List V} {ds : List D}, Reps K G vs ds → Reps K G vs.reverse ds.reverse
  | _, _, .nil => .nil
  | _, _, .cons h r => by
    rw [List.reverse_cons, List.reverse_cons]
    exact (Reps.reverse r).append (.cons h .nil)
theorem d_rev {kk : Nat} {p1 p2 p3 : Pos} (he : DP X E e τ) : DP X E (.Subscript e (.Slice none none (some (.UnaryOp .USub (.Constant (.int 1) kk p1) p2)) p3) pos) (dUn dRev τ) := pe_mono (pe_revL he) fun σ H Q h => by
  obtain ⟨ρ, s, k, x, rfl, er, q, p, px⟩ := h
  refine ⟨ρ, s, _, x, rfl, er, q, fun u s1 q1 st1 ok1 v1 r1 => ?_, px⟩
  have q1 : dRev u s1.M k x := q1
  unfold dRev at q1
  split at q1
  · obtain ⟨a, vs, rfl, ha, rs⟩ := r1.lst_of
    exact ⟨a, vs, rfl, .of (ok1.sub _ _ ha), fun t ht => (p.step st1).lst q1 ok1 rs.reverse ht⟩
  · obtain ⟨ds, hm, q1⟩ := q1
    obtain ⟨vs, ho, rs⟩ := ok1.cells _ _ hm
    exact ⟨_, vs, r1.cel_of, .of ho, fun t ht => (p.step st1).lst q1 ok1 rs.reverse ht⟩
  · exact q1.elim
end
end DL
set_option Elab.async false
set_option linter.all false
set_option maxRecDepth 100000
set_option maxHeartbeats 2000000
namespace DL
open PySem PySem.Spec PyProof.Rows L2
section
variable {X : Cx} {E : XK} {C f : Addr} {fd : FuncData} {ps : List Str} {φ : Ct} {k : Nat} {m : Str} {pos : Pos} {e : Expr} {τ : DE}
theorem d_propE (he : DP X E e τ) (c : Cls X.K C) (hp : ∃ pa, PropOf X.K C m pa f) (F : FnOk X.prog X.w X.K X.mg X.base (L2.CX X.prog X.w) k f fd ps (spD X.K 1 φ)) (hr : Room (k + 1) X.A) (hb : Binds X.K fd ps [])
    (hab : attributeBase e m X.env (eval e X.env) = eval e X.env := by rfl) : DP X E (.Attribute e m pos) (dUn (dPropR C φ) τ) := by
  obtain ⟨pa, hp⟩ := hp
  exact d_prop he c hp F hr hb hab
theorem one_cls {K : PySem.W.Frag} (c : Cls K C) (n : NoAttr K C m) : ∀ C' ∈ [C], Cls K C' ∧ NoAttr K C' m := fun C' h => by
  cases List.mem_singleton.mp h
  exact ⟨c, n⟩
end
theorem all_cs1 {p : Addr → Prop} {a : Addr} (h1 : p a) : ∀ C ∈ [a], p C := fun C h => by cases List.mem_singleton.mp h; exact h1
theorem all_cons {p : Addr → Prop} {a : Addr} {l : List Addr} (h1 : p a) (h2 : ∀ C ∈ l, p C) : ∀ C ∈ a :: l, p C := fun C h => by
  rcases List.mem_cons.mp h with e | e
  · cases e; exact h1
  · exact h2 C e
theorem kit_same {K : PySem.W.Frag} {C : Addr} : PySem.W.kitOne K (.ref C) (.ref C) = some true := by
  unfold PySem.W.kitOne
  rw [if_pos (by simp)]
theorem kit_in {K : PySem.W.Frag} {t : Value} {C : Addr} {b : Bool} (hc : PySem.W.isClsIn K C = true) (ht : PySem.W.typeIn K (.ref C) = some (.type "type")) (hs : PySem.W.subIn K t (.ref C) = some b) (hb : (t == Value.ref C) = false) : PySem.W.kitOne K t (.ref C) = some b := by
  unfold PySem.W.kitOne PySem.W.kitCls
  rw [hb]
  unfold PySem.W.isClsIn at hc
  simp [hc, ht, hs]
theorem kit_ty' {C : Addr} {n : String} : (Value.type n == Value.ref C) = false := by simp
theorem kit_to {K : PySem.W.Frag} {C : Addr} {T : String} {b : Bool} (hm : PySem.W.kitMeta T = true) (hs : PySem.W.subIn K (.ref C) (.type T) = some b) : PySem.W.kitOne K (.ref C) (.type T) = some b := by
  unfold PySem.W.kitOne PySem.W.kitCls
  rw [if_neg (by simp)]
  simp [hm, hs]
theorem kd_true {C : Addr} : some true = some (decide (C = C)) := by simp
end DL
set_option Elab.async false
set_option linter.all false
set_option maxRecDepth 100000
set_option maxHeartbeats 2000000
namespace DL
open PySem PySem.Spec PyProof.Rows L2
end DL
set_option Elab.async false
set_option linter.all false
set_option maxRecDepth 100000
set_option maxHeartbeats 2000000
namespace DL
open PySem PySem.Spec PyProof.Rows L2
end DL
set_option Elab.async false
set_option linter.all false
set_option maxRecDepth 100000
set_option maxHeartbeats 2000000
namespace DL
open PySem PySem.Spec PyProof.Rows L2
section
variable {X : Cx} {E : XK}
/-- a list, changing or not -/
def lstOf : D → Mm → Option (List D)
  | .lst ds, _ => some ds
  | .cel a, M => match M a with
    | some (.lst ds) => some ds
    | _ => none
  | _, _ => none
theorem lst_at {K : PySem.W.Frag} {s : Sta} {v : V} {d : D} {ds : List D} (ok : Ok K s) (r : Rep K s.G v d) (h : lstOf d s.M = some ds) : ∃ a vs, v = .ref a ∧ s.H a = some (.lst vs) ∧ Reps K s.G vs ds := by
  cases r with
  | lst h1 r1 => cases h; exact ⟨_, _, rfl, ok.sub _ _ h1, r1⟩
  | @cel a =>
    simp only [lstOf] at h
    split at h
    · rename_i ds' hm
      cases h
      obtain ⟨vs, e, r⟩ := ok.cells _ _ hm
      exact ⟨a, vs, rfl, e, r⟩
    · cases h
  | _ => cases h
/-- xs == [], xs != [] -/
def dEqE (neg : Bool) : D2 := fun x y M k _ => y = .lst [] ∧ ∃ ds, lstOf x M = some ds ∧ k (.bl (if neg then !ds.isEmpty else ds.isEmpty)) M
theorem o_neE (hu : X.A.units + 64 < cLine) : OpR X (compareOp .NotEq) (r2 X.K E (dEqE true)) := by
  intro pins s σ H x y u v Q I rx ry h
  obtain ⟨s0, dx, dy, kk, xx, rfl, ok, hdx, hdy, ⟨rfl, ds, hm, q⟩, p, px⟩ := h
  obtain ⟨b, vs, rfl, hb, rs⟩ := hdy.lst_of
  cases rs
  obtain ⟨a, ws, rfl, ha, rw'⟩ := lst_at ok hdx hm
  obtain rfl : u = Value.ref a := rx
  obtain rfl : v = Value.ref b := ry
  obtain ⟨its, rv, pl, hz⟩ := I.list (SqL.of ha)
  obtain ⟨jts, rj, pl', hz'⟩ := I.list (SqL.of (ok.sub _ _ hb))
  cases rj
  have hl := rv.length
  have hl' := rw'.length
  show wpAny _ _ (richCompare .NotEq _ _) _ _ _
  cases ds with
  | nil =>
    have e : its = [] := List.eq_nil_of_length_eq_zero (by rw [← hl, hl']; rfl)
    subst e
    exact SeqAt.RcNeAt.lists (e := fun _ => true) pl.isList pl'.isList rfl (by omega) (fun j h1 => absurd h1 (by simp)) _ _ _ _ ⟨.bl false, s0.H, I, rfl, p.now q ok .bl⟩
  | cons d ds =>
    refine SeqAt.RcNeAt.lists_lengths pl.isList pl'.isList ?_ (by omega) _ _ _ _ ⟨.bl true, s0.H, I, rfl, p.now q ok .bl⟩
    have : its.length = ds.length + 1 := by rw [← hl, hl']; rfl
    simp [this]
end
end DL
set_option Elab.async false
set_option linter.all false
set_option maxRecDepth 100000
set_option maxHeartbeats 2000000
namespace XI
open PySem PySem.Spec PyProof.Rows L2 PySem.W
/-- the context of the body of an __init__ that says super() -/
def supCx (P : Program) (w : World) (K : PySem.W.Frag) (mg : Str → Option Value) (base : Heap) (N : List Str) (qual : Str) (scope : Scope) (f cda cc : Addr) (A : Around) (outer : List Env) (s : Shared) (H : Hp) : Cx where
  prog := P
  w := w
  K := K
  mg := mg
  base := base
  A := A.deeper (ksEnv qual scope s.heap.objs.size f (.ref cda) cc)
  N := N
  s_0 := s
  H_0 := H
  env := ksEnv qual scope s.heap.objs.size f (.ref cda) cc
  outer := outer
  stack := ksEnv qual scope s.heap.objs.size f (.ref cda) cc :: outer
  ex := []
  fn := fun _ => false
  calm := true
  pn := []
  xe := fun _ _ => False
theorem look_of {l : List (Str × Value)} {y : Str} {u : Value} (h : (y, u) ∈ l) (hu : ∀ u', (y, u') ∈ l → u' = u) : l.lookup y = some u := by
  induction l with
  | nil => cases h
  | cons p l ih =>
    obtain ⟨z, v⟩ := p
    rw [List.lookup_cons]
    cases e : (y == z) with
    | true =>
      have e' : y = z := eq_of_beq e
      subst e'
      rw [hu v List.mem_cons_self]
    | false =>
      rcases List.mem_cons.mp h with q | q
      · cases q
        simp at e
      · exact ih q fun u' hm => hu u' (List.mem_cons_of_mem _ hm)
theorem rev_look {ps : List Str} {us : List Value} (nd : ps.Nodup) {i : Nat} {y : Str} {u : Value} (h1 : ps[i]? = some y) (h2 : us[i]? = some u) : (ps.zip us).reverse.lookup y = some u := by
  refine look_of (List.mem_reverse.mpr ?_) fun u' hm => ?_
  · refine List.mem_of_getElem? (i := i) ?_
    rw [List.getElem?_zip_eq_some]
    exact ⟨h1, h2⟩
  · obtain ⟨j, hj, e⟩ := List.mem_iff_getElem.mp (List.mem_reverse.mp hm)
    have e' : (ps.zip us)[j]? = some (y, u') := List.getElem?_eq_some_iff.mpr ⟨hj, e⟩
    rw [List.getElem?_zip_eq_some] at e'
    have : j = i := nodup_ix nd e'.1 h1
    subst this
    have := e'.2.symm.trans h2
    exact Option.some.inj this
/-- what is told of such a def -/
structure SupD (K : PySem.W.Frag) (P : Program) (qual : Str) (params : Arguments) (body : List Stmt) (scope : Scope) (ps : List Str) (f D : Addr) (fd : FuncData) (cda cc : Addr) : Prop where
  ex : ∃ (oc dV kV doc pm ct ccl cl : Value) (od an cdd cld : Option Addr) (osl ccs csl : Array (Option Value)) (vs : Array Value) (file : Str) (tf : Tok),
    fd = ksFn "__init__" qual params body scope dV kV doc pm an (.ref cda) ct cc ∧ K.lookup f = some ⟨oc, od, .func (ksFn "__init__" qual params body scope dV kV doc pm an (.ref cda) ct cc), osl⟩ ∧
      K.lookup cda = some ⟨ccl, cdd, .fields vs, ccs⟩ ∧ vs[2]? = some (.str file tf) ∧ ((P.main.file : Str) == file) = true ∧ K.lookup cc = some ⟨cl, cld, .cell (some (.ref D)), csl⟩
  cd : PySem.W.codeIn K (.ref cda) qual = true
  top : (P.main.scope.names.lookup ("super" : Str)).isSome = false
structure SupS (ps : List Str) (params : Arguments) (scope : Scope) : Prop where
  kind : scope.kind = .function
  co : scope.isCoroutine = false
  gen : scope.isGenerator = false
  nd : ps.Nodup
  loc : ∀ y ∈ ps, scope.names.lookup y = some .local
  nocell : ∀ x ∈ scope.names, x.2 ≠ .cell
  fre : ∀ x ∈ scope.names, x.2 = .free → x.1 = "__class__"
  su : scope.names.lookup ("super" : Str) = some .globalImplicit
  cl : scope.names.lookup ("__class__" : Str) = some .free
  self_ : ps[0]? = some ("self" : Str)
  par : ∃ ar : Arg, (params.posonlyargs ++ params.args).head? = some ar ∧ ar.arg = "self"
section
variable {P : Program} {w : World} {K : PySem.W.Frag} {mg : Str → Option Value} {base : Heap} {qual : Str} {params : Arguments} {body rest : List Stmt} {scope : Scope} {ps : List Str} {f D cda cc : Addr} {fd : FuncData} {A : Around} {outer : List Env} {s : Shared} {H : Hp}
theorem inv_sup {us : List Value} {vs : List V} {h₁ : Heap} {tk : Nat} (S : SupS ps params scope) (hd : A.handled = none) (e0 : Env0 P w K mg base A outer s H) (hl : vs.length = ps.length) (r : Vals vs us) {cl : Value} {cld : Option Addr} {csl : Array (Option Value)} (hcc : K.lookup cc = some ⟨cl, cld, .cell (some (.ref D)), csl⟩)
    (hns : h₁.Ns s.heap.objs.size fun y => (ps.zip us).reverse.lookup y) (kp : ∀ b o, s.heap.get? b = some o → h₁.get? b = some o) :
    Inv (supCx P w K mg base ps qual scope f cda cc A outer s H) [] (L2.start ps vs) H { s with heap := h₁, toks := tk } := by
  have noA : ∀ b : Addr, b ∉ (supCx P w K mg base ps qual scope f cda cc A outer s H).ex := fun b z => absurd (show b ∈ ([] : List Addr) from z) (by simp)
  have hcb := e0.mod.kin _ _ hcc
  obtain ⟨hcs, hcH⟩ := e0.bs _ _ hcb
  have cl1 : ∀ {y : Str} {c : Addr}, ([("__class__", cc)] : List (Str × Addr)).lookup y = some c → y = "__class__" ∧ c = cc := fun {y c} h => by
    rw [List.lookup_cons] at h
    cases e : (y == ("__class__" : Str)) with
    | true =>
      rw [e] at h
      cases h
      exact ⟨eq_of_beq e, rfl⟩
    | false =>
      rw [e] at h
      cases h
  refine ⟨⟨e0.mod, S.kind, rfl, rfl, Nat.le_refl _, fun y z c e1 e2 => (cl1 e1).1.trans (cl1 e2).1.symm, fun y hy => ?_, fun y c z _ => ?_, fun _ => hd, Around.frames_deeper e0.frames, .inr ⟨rfl, rfl⟩, fun b z => absurd z (noA b), e0.bs, e0.bsz, fun b _ _ => noA b,
      fun b z => absurd z (noA b), e0.funs, e0.frf⟩,
    rfl, e0.bare, Un.kept kp, ⟨_, hns, fun i y v e1 e2 e3 => ?_⟩, fun y c e => ?_, e0.hok.fresh (Nat.le_refl _), fun y c e => ?_, fun q hq => absurd (show q ∈ ([] : List (Addr × Obj)) ++ [] from hq) (by simp), e0.hok.kept kp, ?_⟩
  · have hy : scope.names.lookup y = some .cell ∨ scope.names.lookup y = some .free := hy
    rcases hy with hy | hy
    · exact absurd rfl (S.nocell _ (PySem.mem_of_lookup hy))
    · have e := S.fre _ (PySem.mem_of_lookup hy) rfl
      have e : y = "__class__" := e
      subst e
      exact ⟨cc, rfl⟩
  · have z : false = true := z
    cases z
  · have hi : i < vs.length := by
      unfold L2.start at e2
      by_cases hi : i < vs.length
      · exact hi
      · rw [List.getElem?_append_right (by simpa using hi)] at e2
        rw [List.getElem?_replicate] at e2
        split at e2 <;> cases e2
    have ha : vs[i]? = some v := by
      unfold L2.start at e2
      rw [List.getElem?_append_left (by simpa using hi), List.getElem?_map] at e2
      cases e : vs[i]? with
      | none => rw [e] at e2; cases e2
      | some a => rw [e] at e2; cases e2; rfl
    obtain ⟨u, hu, rv⟩ := r.get ha
    have e1 : ps[i]? = some y := e1
    exact ⟨u, rv, .inl ⟨S.loc y (List.mem_of_getElem? e1), rev_look S.nd e1 hu⟩⟩
  · obtain ⟨_, rfl⟩ := cl1 e
    exact ⟨_, _, kp _ _ hcs, rfl⟩
  · obtain ⟨_, rfl⟩ := cl1 e
    exact hcH
  · unfold L2.start
    show _ = ps.length
    rw [List.length_append, List.length_map, List.length_replicate]
    omega
/-- super().__init__(a text), at the body's beginning -/
theorem sup_first {C a : Addr} {σ : L2.St} {s1 : Shared} {H1 : Hp} {pl : Sem Bool} {p0 p1 p2 p3 p4 p5 : Pos} {msg : Str} {j : Nat} {Q : Flow → Shared → Prop} (F : SupD K P qual params body scope ps f D fd cda cc) (S : SupS ps params scope) (T : OexC K C)
    (hsu : mg "super" = none) (hop : nsIn K cStatics "thirdparty.any" = some none) (hD : (clsIn K D).isSome = true) (hCD : mroIn K C (.ref D) = some true) (hal : ks_superIn K C D "__init__" = some (some (.builtin "ValueError.__init__"))) (hVE : subIn K (.ref C) (.type "ValueError") = some true)
    (I : Inv (supCx P w K mg base ps qual scope f cda cc A outer s H) [] σ H1 s1) (h0 : σ[0]? = some (some (.ref a))) (e : H1 a = some (exo a C none)) (hq : ∀ s', Inv (supCx P w K mg base ps qual scope f cda cc A outer s H) [] σ H1 s' → Q .next s')
    (he : ∀ L, eval (.Call (.Attribute (.Call (.Name "super" p0) [] [] p1) "__init__" p2) [.Constant (.str msg) j p3] [] p4) (ksEnv qual scope L f (.ref cda) cc) = (do
      let ov ← attributeBase (.Call (.Name "super" p0) [] [] p1) "__init__" (ksEnv qual scope L f (.ref cda) cc) (eval (.Call (.Name "super" p0) [] [] p1) (ksEnv qual scope L f (.ref cda) cc))
      standAt p2.atName
      let (fv, first) ← holding [ov] (getMethod ov "__init__" pl)
      callWith p4 fv first (backTo p4 (starEach [.Constant (.str msg) j p3] (ksEnv qual scope L f (.ref cda) cc))) [])) :
    _root_.PySem.wpAt (model P w) (supCx P w K mg base ps qual scope f cda cc A outer s H).A (.func body (supCx P w K mg base ps qual scope f cda cc A outer s H).env)
      (exec (.Expr (.Call (.Attribute (.Call (.Name "super" p0) [] [] p1) "__init__" p2) [.Constant (.str msg) j p3] [] p4) p5) (supCx P w K mg base ps qual scope f cda cc A outer s H).env) Q (fun _ _ => False) s1 := by
  obtain ⟨oc, dV, kV, doc, pm, ct, ccl, cl, od, an, cdd, cld, osl, ccs, csl, vs, file, tf, rfl, lf, lcd, hvs, hfile, lcc⟩ := F.ex
  have KX : K.In s1.heap := I.kIn
  obtain ⟨ar, hp, har⟩ := S.par
  obtain ⟨nm, q, N, bs, bm, sn, sub, ab, col, dd, k0, k1, k2, k3, k5, hC, hbm⟩ := T.cls
  obtain ⟨cdD, hcD⟩ := Option.isSome_iff_exists.mp hD
  obtain ⟨t1, ho⟩ := exo_at I.hok e
  obtain ⟨m, hn, hlk⟩ := id I.loc
  obtain ⟨u0, ru0, lk0⟩ := hlk 0 "self" (.ref a) S.self_ h0 (.inl (S.loc _ (List.mem_of_getElem? S.self_)))
  obtain rfl : u0 = Value.ref a := ru0
  have lm : m "self" = some (.ref a) := by
    rcases lk0 with ⟨_, z⟩ | ⟨z, _⟩
    · exact z
    · have hl := S.loc _ (List.mem_of_getElem? S.self_)
      rcases z with z | z <;> (rw [show scope.names.lookup ("self" : Str) = _ from z] at hl; cases hl)
  obtain ⟨hh, g, d, t, os⟩ := s1
  obtain ⟨oD, hD1, hD2⟩ : ∃ oD, hh.get? D = some oD ∧ oD.data = .cls cdD := by
    unfold clsIn at hcD
    split at hcD
    · rename_i c d cd' sl ho
      cases hcD
      exact ⟨_, KX _ _ ho, rfl⟩
    · cases hcD
  refine ks_wpAt_Expr_any ?_ (hi := by show (scope.kind == .module && _) = false; rw [S.kind]; rfl)
  refine ks_wpAt_MethodCall (pl := pl) ?_ (he _)
  refine ks_wpAt_super_base (env := ksEnv qual scope s.heap.objs.size f (.ref cda) cc) (f := f) (cc := cda) S.su S.cl (by decide) rfl (KX _ _ lf) rfl hp rfl (KX _ _ lcd) rfl hvs hfile F.top ?_
  obtain ⟨mb, hb1, hb2⟩ := I.mod.blt
  refine ks_loadName_global S.kind S.su (Calls.loadGlobal_builtin (env := ksEnv qual scope s.heap.objs.size f (.ref cda) cc) (v := .type "super") (I.mod.glob.keeps I.bk) hsu (hb1.keeps I.bk) ((hb2 "super" (by decide)).trans (by decide +kernel)) ⟨rfl, ?_⟩)
  refine wpAny_loadName_free S.kind S.cl rfl ⟨_, KX _ _ lcc, rfl⟩ ?_
  rw [har]
  refine wpAny_loadName_local S.kind (S.loc _ (List.mem_of_getElem? S.self_)) hn lm ?_
  refine ks_wpAny_isType_cls hD1 hD2 ⟨rfl, ?_⟩
  refine ks_wpAny_call_super hD1 hD2 ho rfl (fun c e => by cases e) (looks_mroIn KX hCD) (fun h' e1 k1' => ?_)
  have I1 : Inv (supCx P w K mg base ps qual scope f cda cc A outer s H) [] σ H1 ⟨h', g, d, t, os⟩ := I.kept (t' := t) k1'
  have hcl : clsIn K C = some { name := nm, bases := bs, mro := .ref C :: bm, ns := N, qualname := q, hasDict := true, slotNames := sn, subclasses := sub, abstract := ab, collection := col, hasDel := false } := by unfold clsIn; rw [hC] <;> rfl
  have hal' := hal
  unfold ks_superIn at hal'
  rw [hcl] at hal'
  have IA : InstAt hh a ({ cls := .ref C, dict := none, data := .fields #[.ref t1, .none, .none, .none, .bool false, .none] } : Obj) C none := ⟨ho, rfl, rfl, trivial⟩
  have hI : Looks (model P w) h' (isInstance (.ref a) (.type "ValueError")) true := Looks.keeps (IA.type.andThen (looks_subIn KX hVE)) k1'
  refine kxs_getMethod kxs_ValueError e1 (looks_opaque I1.kIn hop) (l₀ := .ref C :: bm) ?_ rfl I1.kIn hal' hI (ks_ne KX IA hcl) (by decide) ?_
  · exact fun A Q E s k q => wpAny_bind ((looks_clsIn I1.kIn hcl) A _ E s k (wpAny_pure q))
  have I2 : Inv (supCx P w K mg base ps qual scope f cda cc A outer s H) [(h'.objs.size, kxs_mw "ValueError.__init__" a)] σ H1 ⟨h'.push (kxs_mw "ValueError.__init__" a), g, d, t + 1, os⟩ :=
    ClX.pin_new I1 (fun b o e => Heap.get?_push_of_some _ e) (Nat.le_refl _) (Heap.get?_push_size _ rfl) (fun v z => nomatch z)
  refine kxs_callWith (i := "ValueError.__init__") (x := a) (u := h'.objs.size) (by rfl) ?_
  refine Calls.evalArgs_plain ?_
  show wpAny _ _ (spliced ((false, eval (.Constant (.str msg) j p3) (supCx P w K mg base ps qual scope f cda cc A outer s H).env) :: backTo p4 (starEach [] (supCx P w K mg base ps qual scope f cda cc A outer s H).env))) _ _ _
  refine Calls.spliced_cons (wpAny_mono ((pe_str (X := supCx P w K mg base ps qual scope f cda cc A outer s H) (x := msg) (j := j) (pos := p3)).run [(h'.objs.size, kxs_mw "ValueError.__init__" a)] _ σ H1 (fun v H' => v = .str msg ∧ H' = H1) I2 ⟨rfl, rfl⟩) (fun u s2 hu => ?_) fun _ _ z => z)
  obtain ⟨v, H', I3, rv, rfl, rfl⟩ := hu
  obtain ⟨tk, rfl⟩ := rv
  refine Calls.spliced_nil ⟨ClX.pin_at I3, ?_⟩
  have hmw := ClX.pin_at I3
  have I4 := ClX.unpin I3
  obtain ⟨t2, ho2⟩ := exo_at I4.hok e
  obtain ⟨h2, g2, d2, tk2, os2⟩ := s2
  refine wpAny_call (codeAny_of_tree ?_)
  show wpAny _ _ (callAny (.ref h'.objs.size) ⟨[.str msg tk], []⟩) _ _ _
  simp only [callAny]
  refine wpAny_bind (wpAny_load hmw ?_)
  simp only [kxs_mw, show (Value.type "method-wrapper" == Value.type "method" || Value.type "method-wrapper" == Value.type "builtin_function_or_method" || Value.type "method-wrapper" == Value.type "method-wrapper") = true by decide, if_true]
  refine KFB.if_so (by decide) ?_
  refine wpAny_bind (check_bound_init PySem.F.excBase_ValueError.toExcCallFacts (I4.kIn _ _ hC) ho2 rfl ?_)
  refine wpAny_bind (wpAny_pure (wpAny_pure ?_))
  refine ⟨plainId_quiet PySem.F.excBase_ValueError.init.plain _, codeAny_builtin PySem.F.excBase_ValueError.initEntry ?_⟩
  refine exc_init_tree (cls := .ref C) (t0 := t2) (dv := none) (c2 := .none) (c3 := .none) (b4 := .bool false) ho2 (by show 1 ≤ sizeLine; decide) fun h5 k5' e5 t5 => ?_
  have J := I4.write (t' := tk2) (x := a) (e := a) (o := exo a C none) (by rw [e]; exact True.intro) (.inl rfl) k5' ⟨_, e5⟩ (exo_ok e5)
  have eu : upd H' a (exo a C none) = H' := by
    funext b
    by_cases hb : b = a
    · rw [hb, upd_same, e]
    · rw [upd_ne hb]
  rw [eu] at J
  exact hq _ J
end
end XI
namespace XI
open PySem PySem.Spec PyProof.Rows L2 PySem.W
/-- what the making of such an exception keeps: fl tells its fields by its arguments -/
def spX (C : Addr) (n : Nat) (fl : List V → List (Str × V)) : Sp := fun vs H Q _ => ∃ (a : Addr) (ws : List V), vs = .ref a :: ws ∧ ws.length = n ∧ H a = some (exo a C none) ∧ ∀ dx, H dx = none → dx ≠ a → Q .non (upd (upd H dx (exd dx (fl ws))) a (exo a C (some dx)))
/-- the facts of the class -/
structure XCls (K : PySem.W.Frag) (mg : Str → Option Value) (C D : Addr) : Prop where
  T : OexC K C
  su : mg "super" = none
  op : nsIn K cStatics "thirdparty.any" = some none
  hD : (clsIn K D).isSome = true
  CD : mroIn K C (.ref D) = some true
  al : ks_superIn K C D "__init__" = some (some (.builtin "ValueError.__init__"))
  VE : subIn K (.ref C) (.type "ValueError") = some true
section
variable {P : Program} {w : World} {K : PySem.W.Frag} {mg : Str → Option Value} {base : Heap} {qual : Str} {params : Arguments} {rest : List Stmt} {scope : Scope} {ps : List Str} {f D cda cc C : Addr} {fd : FuncData} {CX : CXT} {k n : Nat} {fl : List V → List (Str × V)}
  {pl : Sem Bool} {p0 p1 p2 p3 p4 p5 : Pos} {msg : Str} {j : Nat}
theorem fn_exc (F : SupD K P qual params (.Expr (.Call (.Attribute (.Call (.Name "super" p0) [] [] p1) "__init__" p2) [.Constant (.str msg) j p3] [] p4) p5 :: rest) scope ps f D fd cda cc) (S : SupS ps params scope) (X : XCls K mg C D) (hn : ps.length = n + 1)
    (he : ∀ L, eval (.Call (.Attribute (.Call (.Name "super" p0) [] [] p1) "__init__" p2) [.Constant (.str msg) j p3] [] p4) (ksEnv qual scope L f (.ref cda) cc) = (do
      let ov ← attributeBase (.Call (.Name "super" p0) [] [] p1) "__init__" (ksEnv qual scope L f (.ref cda) cc) (eval (.Call (.Name "super" p0) [] [] p1) (ksEnv qual scope L f (.ref cda) cc))
      standAt p2.atName
      let (fv, first) ← holding [ov] (getMethod ov "__init__" pl)
      callWith p4 fv first (backTo p4 (starEach [.Constant (.str msg) j p3] (ksEnv qual scope L f (.ref cda) cc))) []))
    (h : ∀ (A : Around) (outer : List Env) (s : Shared) (H : Hp), ∃ t, PSs (supCx P w K mg base ps qual scope f cda cc A outer s H) rest t ∧
      ∀ (vs : List V) (Q : VK) (H1 : Hp), spX C n fl vs H1 Q (fun _ _ _ => False) → t { nx := fun _ H' => Q .non H', rt := Q } (L2.start ps vs) H1) :
    FnOk P w K mg base CX (k + 1) f fd ps (spX C n fl) := by
  refine ⟨fun vs H Q E q => ?_, fun A outer s H args us vs Q E hr e0 hb r q => ?_⟩
  · obtain ⟨a, ws, rfl, hl, _⟩ := q
    rw [List.length_cons, hl, hn]
  obtain ⟨oc, dV, kV, doc, pm, ct, ccl, cl, od, an, cdd, cld, osl, ccs, csl, vs', file, tf, rfl, lf, lcd, hvs, hfile, lcc⟩ := id F.ex
  have KX : K.In s.heap := e0.mod.kin.keeps fun b o e => (e0.bs b o e).1
  have lim : s.heap.NoLimit := e0.mod.nolimit.keeps fun b o e => (e0.bs b o e).1
  have hl : vs.length = ps.length := by
    obtain ⟨a, ws, rfl, hl, _⟩ := q
    rw [List.length_cons, hl, hn]
  refine ks_codeAny_call_defAt (binds := ps.zip us) hr.depth (KX _ _ lf) rfl lim (codeRec_of KX F.cd) rfl hb S.nocell (fun y hy => S.loc _ (List.of_mem_zip hy).1) (fun h₁ hns kp => ?_) S.co S.gen S.kind
  have I := inv_sup (f := f) (cda := cda) (qual := qual) (tk := s.toks + (ps.zip us).length) S hr.hd e0 hl r lcc hns kp
  obtain ⟨t, ht, hq⟩ := h A outer s H
  have q' := hq vs Q H (by obtain ⟨a, ws, e1, e2, e3, e4⟩ := q; exact ⟨a, ws, e1, e2, e3, e4⟩)
  obtain ⟨a, ws, rfl, hw, ea, _⟩ := q
  have h0 : (L2.start ps (.ref a :: ws))[0]? = some (some (.ref a)) := rfl
  refine ks_wpAt_execs_cons (ks_wpAt_mono (sup_first F S X.T X.su X.op X.hD X.CD X.al X.VE I h0 ea (Q := fun fl' s' => fl' = .next ∧ Inv (supCx P w K mg base ps qual scope f cda cc A outer s H) [] (L2.start ps (.ref a :: ws)) H s') (fun s' I' => ⟨rfl, I'⟩) he) (fun fl' s' hz => ?_) (fun _ _ z => z.elim))
  obtain ⟨rfl, I'⟩ := hz
  refine wpAt_of_wpAny (wpAny_mono (ht.run [] s' _ H _ I' q') (fun fl'' s'' hs => ?_) fun _ _ z => z.elim)
  have fin : ∀ {σ' : L2.St} {H' : Hp} {v : V} {u : Value}, Inv (supCx P w K mg base ps qual scope f cda cc A outer s H) [] σ' H' s'' → RelV v u → Q v H' → CE outer P w H s Q u s'' :=
    fun {σ' H' v u} J rv q => ⟨v, H', J.os, J.bare, J.base, J.hok, rv, q⟩
  cases fl'' with
  | ret u =>
    obtain ⟨v, σ', H', J, rv, q⟩ := hs
    exact fin J rv q
  | next =>
    obtain ⟨σ', H', J, q⟩ := hs
    exact fin (v := V.non) (u := Value.none) J rfl q
  | brk =>
    obtain ⟨_, _, _, q⟩ := hs
    exact False.elim q
  | cont =>
    obtain ⟨_, _, _, q⟩ := hs
    exact False.elim q
end
end XI
namespace XI
open PySem PySem.Spec PyProof.Rows L2 PySem.W
section
variable {P : Program} {w : World} {K : PySem.W.Frag} {mg : Str → Option Value} {base : Heap} {qual : Str} {params : Arguments} {scope : Scope} {f D cda cc C : Addr} {fd : FuncData} {CX : CXT} {k : Nat}
  {pl : Sem Bool} {p0 p1 p2 p3 p4 p5 a1 a2 a3 a4 b1 b2 b3 b4 c1 c2 c3 c4 : Pos} {msg code f1 f2 x1 x2 : Str} {j jj : Nat}
theorem upd2 {H : Hp} {dx a : Addr} {o u v : HO} (h : dx ≠ a) : upd (upd (upd H dx o) a v) dx u = upd (upd H dx u) a v := by
  funext b
  by_cases e1 : b = dx
  · subst e1
    rw [upd_same, upd_ne h, upd_same]
  · rw [upd_ne e1]
    by_cases e2 : b = a
    · subst e2; rw [upd_same, upd_same]
    · rw [upd_ne e2, upd_ne e2, upd_ne e1, upd_ne e1]
def fl0 (code : Str) : List V → List (Str × V) := fun _ => [("code", .str code)]
def fl1 (code f1 : Str) : List V → List (Str × V)
  | [w] => [("code", .str code), (f1, w)]
  | _ => []
theorem fn_exc0 (F : SupD K P qual params (.Expr (.Call (.Attribute (.Call (.Name "super" p0) [] [] p1) "__init__" p2) [.Constant (.str msg) j p3] [] p4) p5 :: [.Assign [.Attribute (.Name "self" c1) "code" c2] (.Constant (.str code) jj c3) c4]) scope ["self"] f D fd cda cc) (S : SupS ["self"] params scope) (X : XCls K mg C D)  (nc : findIn K (.ref C) "code" = some none)
    (hc : ∀ L, swapsWith (.Constant (.str code) jj c3) (some (.Attribute (.Name "self" c1) "code" c2)) c4.line (ksEnv qual scope L f (.ref cda) cc) = pure false)
    (he : ∀ L, eval (.Call (.Attribute (.Call (.Name "super" p0) [] [] p1) "__init__" p2) [.Constant (.str msg) j p3] [] p4) (ksEnv qual scope L f (.ref cda) cc) = (do
      let ov ← attributeBase (.Call (.Name "super" p0) [] [] p1) "__init__" (ksEnv qual scope L f (.ref cda) cc) (eval (.Call (.Name "super" p0) [] [] p1) (ksEnv qual scope L f (.ref cda) cc))
      standAt p2.atName
      let (fv, first) ← holding [ov] (getMethod ov "__init__" pl)
      callWith p4 fv first (backTo p4 (starEach [.Constant (.str msg) j p3] (ksEnv qual scope L f (.ref cda) cc))) [])) :
    FnOk P w K mg base CX (k + 1) f fd ["self"] (spX C 0 (fl0 code)) := by
  refine fn_exc F S X rfl he fun A outer s H => ⟨_, pss_one (ps_ost (pe_var (i := 0) rfl (.inl (S.loc _ (.head _)))) pe_str (hc _)), ?_⟩
  rintro vs Q H1 ⟨a, ws, rfl, hl, ea, q⟩
  have e : ws = [] := List.eq_nil_of_length_eq_zero hl
  subst e
  exact ⟨.ref a, rfl, a, C, rfl, X.T, nc, .inl ⟨ea, fun dx h1 h2 => q dx h1 h2⟩⟩
theorem fn_exc1 (F : SupD K P qual params (.Expr (.Call (.Attribute (.Call (.Name "super" p0) [] [] p1) "__init__" p2) [.Constant (.str msg) j p3] [] p4) p5 :: [.Assign [.Attribute (.Name "self" a1) f1 a2] (.Name x1 a3) a4, .Assign [.Attribute (.Name "self" c1) "code" c2] (.Constant (.str code) jj c3) c4]) scope ["self", x1] f D fd cda cc) (S : SupS ["self", x1] params scope) (X : XCls K mg C D) (n1 : findIn K (.ref C) f1 = some none) (nc : findIn K (.ref C) "code" = some none) (d1 : (x1 == ("__debug__" : Str)) = false) (e1 : (x1 == ("__classdict__" : Str)) = false)
    (ha : ∀ L, swapsWith (.Name x1 a3) (some (.Attribute (.Name "self" a1) f1 a2)) a4.line (ksEnv qual scope L f (.ref cda) cc) = pure false) (hc : ∀ L, swapsWith (.Constant (.str code) jj c3) (some (.Attribute (.Name "self" c1) "code" c2)) c4.line (ksEnv qual scope L f (.ref cda) cc) = pure false)
    (he : ∀ L, eval (.Call (.Attribute (.Call (.Name "super" p0) [] [] p1) "__init__" p2) [.Constant (.str msg) j p3] [] p4) (ksEnv qual scope L f (.ref cda) cc) = (do
      let ov ← attributeBase (.Call (.Name "super" p0) [] [] p1) "__init__" (ksEnv qual scope L f (.ref cda) cc) (eval (.Call (.Name "super" p0) [] [] p1) (ksEnv qual scope L f (.ref cda) cc))
      standAt p2.atName
      let (fv, first) ← holding [ov] (getMethod ov "__init__" pl)
      callWith p4 fv first (backTo p4 (starEach [.Constant (.str msg) j p3] (ksEnv qual scope L f (.ref cda) cc))) [])) :
    FnOk P w K mg base CX (k + 1) f fd ["self", x1] (spX C 1 (fl1 code f1)) := by
  refine fn_exc F S X rfl he fun A outer s H => ⟨_, pss_cons (ps_ost (pe_var (i := 0) rfl (.inl (S.loc _ (.head _)))) (pe_var (i := 1) rfl (.inl (S.loc _ (.tail _ (.head _)))) d1 e1) (ha _)) (pss_one (ps_ost (pe_var (i := 0) rfl (.inl (S.loc _ (.head _)))) pe_str (hc _))), ?_⟩
  rintro vs Q H1 ⟨a, ws, rfl, hl, ea, q⟩
  obtain ⟨w, rfl⟩ : ∃ w, ws = [w] := by
    match ws, hl with
    | [w], _ => exact ⟨w, rfl⟩
  refine ⟨w, rfl, .ref a, rfl, a, C, rfl, X.T, n1, .inl ⟨ea, fun dx h1 h2 => ?_⟩⟩
  refine ⟨.ref a, rfl, a, C, rfl, X.T, nc, .inr ⟨dx, _, upd_same, by rw [upd_ne h2]; exact upd_same, by show 1 ≤ 900; decide, ?_⟩⟩
  have q2 := q dx h1 h2
  rw [← upd2 h2] at q2
  exact q2
end
end XI
set_option Elab.async false
set_option linter.all false
set_option maxRecDepth 100000
set_option maxHeartbeats 2000000
namespace DL
open PySem PySem.Spec PyProof.Rows L2
theorem Step.free {K : PySem.W.Frag} {s t : Sta} {p : Addr} (st : Step s t) (os : Ok K s) (ot : Ok K t) (h : t.H p = none) : s.H p = none := by
  cases e : s.H p with
  | none => rfl
  | some o =>
    exfalso
    cases eg : s.G p with
    | some u =>
      have := ot.sub p u (st.same p u eg)
      rw [h] at this
      cases this
    | none =>
      cases em : s.M p with
      | none =>
        have := (st.hid p o e eg em).1
        rw [h] at this
        cases this
      | some mo =>
        obtain ⟨m2, e2⟩ := Option.isSome_iff_exists.mp (st.dom p (by rw [em]; rfl))
        obtain ⟨u, e3⟩ := (ot.cells p m2 e2).some
        rw [h] at e3
        cases e3
/-- nothing leaves: every context lets it pass -/
theorem passes_no {P : Program} {w : World} {X : Cx} : Passes (L2.CX P w) X (fun _ _ _ => False) := fun _ _ _ _ _ _ _ h => by
  obtain ⟨_, _, _, _, _, _, _, _, _, _, _, _, z⟩ := h
  exact z.elim
/-- raise C(e, ..) -/
def dRaise (C : Addr) (n : Nat) (flD : List D → List (Str × D)) (α : DA) : DS := fun _ x ρ M => α ρ M (fun ds M1 => ds.length = n ∧ x C (flD ds) M1) x
theorem post_exc {K : PySem.W.Frag} {E : XK} {s s1 : Sta} {x : DX} {C dx : Addr} {fs : List (Str × D)} {fvs : List (Str × V)} (px : PostX K E s x) (os : Ok K s) (st : Step s s1) (ok : Ok K s1) (hx : x C fs s1.M) (hd : s1.H dx = none) (r : FRep K s1.G fvs fs) : E (.ref C) (some dx) (upd s1.H dx (.xd fvs)) := by
  obtain ⟨o2, st2⟩ := ok.hide (o := .xd fvs) st (st.free os ok hd) (ok.freeG hd) (ok.freeM hd)
  exact px C fs ⟨upd s1.H dx (.xd fvs), s1.G, s1.M⟩ hx st2 o2 dx fvs upd_same (ok.freeG hd) (ok.freeM hd) (fun ⟨o, z, _⟩ => by rw [st.free os ok hd] at z; cases z) r
def fd1 (code f1 : Str) : List D → List (Str × D)
  | [d] => [("code", .str code), (f1, d)]
  | _ => []
def fd0 (code : Str) : List D → List (Str × D) := fun _ => [("code", .str code)]
theorem fr0 {K : PySem.W.Frag} {code : Str} {G : Hp} {vs : List V} {ds : List D} (_ : Reps K G vs ds) (_ : ds.length = 0) : FRep K G (XI.fl0 code vs) (fd0 code ds) := .cons .str .nil
theorem fr1 {K : PySem.W.Frag} {code f1 : Str} {G : Hp} {vs : List V} {ds : List D} (h : Reps K G vs ds) (hl : ds.length = 1) : FRep K G (XI.fl1 code f1 vs) (fd1 code f1 ds) := by
  obtain ⟨d, rfl⟩ := List.length_eq_one_iff.mp hl
  obtain ⟨x, rfl, r⟩ := h.one
  exact .cons .str (.cons r .nil)
end DL
set_option Elab.async false
set_option linter.all false
set_option maxRecDepth 100000
set_option maxHeartbeats 2000000
namespace DL
open PySem PySem.Spec PyProof.Rows L2
section
variable {X : Cx} {E : XK} {e o : Expr} {τo : DE} {pos : Pos}
def dXf (a dd : Addr) (n : Str) (τ : DE) : DE := fun ρ M k x => τ ρ M (fun u M1 => ∃ fs v, u = .exc a dd fs ∧ fs.lookup n = some v ∧ k v M1) x
theorem d_xf {a C dd : Addr} {oe : Obj} {n : Str} (T : XfC X.K C) (hno : PySem.W.findIn X.K (.ref C) n = some none) (hp : (a, oe) ∈ X.pn) (hz : Zc (.ref C) (some dd) oe) (hf : ∃ vs, oe.data = .fields vs) (he : DP X E e τo)
    (hb : attributeBase e n X.env (eval e X.env) = eval e X.env := by rfl) : DP X E (.Attribute e n pos) (dXf a dd n τo) := by
  refine ⟨fun pins s σ H Q I h => ?_⟩
  obtain ⟨ρ, s0, kk, xx, rfl, er, q, pp, px⟩ := h
  refine attr_of hb (thn (he.run pins s σ s0.H (fun v H1 => ∃ s1 d, s1.H = H1 ∧ Ok X.K s1 ∧ Step s0 s1 ∧ Rep X.K s1.G v d ∧ ∃ fs w, d = .exc a dd fs ∧ fs.lookup n = some w ∧ kk w s1.M) I
    ⟨ρ, s0, _, xx, rfl, er, q, fun d s1 q1 st1 ok1 v1 r1 => ⟨s1, d, rfl, ok1, st1, r1, q1⟩, px⟩) fun u s1 ⟨v, H1, I1, rv, sa, d, e1, oka, sta, ra, fs, w, ed, hl, q1⟩ => ?_)
  subst e1
  subst ed
  cases ra with
  | @exc _ _ fvs _ h r =>
  obtain rfl : u = Value.ref a := rv
  obtain ⟨wv, hl2, rw2⟩ := r.get hl
  have hobj : ObjOk X.prog X.w sa.H s1.heap dd (.xd fvs) := I1.hok dd _ (oka.sub _ _ h)
  obtain ⟨mA, hns, hrel⟩ := hobj
  obtain ⟨od, hod, hlk⟩ := lookIn_ns hns
  obtain ⟨uv, hu, ru⟩ := RelO.some_of (v := wv) (o := mA n) (by have := hrel n; rw [hl2] at this; exact this)
  obtain ⟨vs, hvs⟩ := hf
  have at_ : PySem.W.InstAt s1.heap a oe C (some od) := ⟨(I1.pin (a, oe) (List.mem_append_left _ hp)).1, hz.1, by unfold PySem.W.notCls; rw [hvs] <;> rfl, by rw [hz.2]; exact hod⟩
  exact HandSPX.exc_get I1.kIn at_ T.ga T.gg T.exC (PySem.W.findObj_own T.hdC hno rfl (by rw [hlk, hu])) (handed_of ru) ⟨wv, sa.H, I1.tok _, ru, (pp.step sta).now q1 oka rw2⟩
end
/-- its promise; p: the exception -/
structure FnP (P : Program) (w : World) (K : PySem.W.Frag) (mg : Str → Option Value) (base : Heap) (f : Addr) (fd : FuncData) (ps : List Str) (sp : Addr × Obj → Sp) : Prop where
  len : ∀ p vs H Q E, sp p vs H Q E → vs.length = ps.length
  run : ∀ (A : Around) (outer : List Env) (s : Shared) (H : Hp) (args : Args) (us : List Value) (vs : List V) (Q : VK) (E : XK) (p : Addr × Obj), L2H.RoomH 1 A → L2H.PinOk outer H s p → Env0 P w K mg base A outer s H → BindsTo s fd args (ps.zip us) → Vals vs us → sp p vs H Q E →
    codeAny (model P w) A (.call (.ref f) args) (CR (L2.CX P w) outer P w H s Q E) s
/-- the exception's class and dict, its fields by data -/
def spE (K : PySem.W.Frag) (Good : Addr → Prop) (φ : Addr → Addr → Ct) : Addr × Obj → Sp := fun p vs H Q E => ∃ C dd, Good C ∧ Zc (.ref C) (some dd) p.2 ∧ (∃ ws, p.2.data = .fields ws) ∧ spD K 1 (φ p.1 dd) vs H Q E
section
variable {P : Program} {w : World} {K : PySem.W.Frag} {mg : Str → Option Value} {base : Heap}
theorem fn_P {x qual : Str} {params : Arguments} {body : List Stmt} {scope : Scope} {f : Addr} {fd : FuncData} {N : List Str} {y : Str} {Good : Addr → Prop} {φ : Addr → Addr → Ct} (F : FunD K x qual params body scope [] [] f fd) (S : FnScope N [y] scope)
    (h : ∀ (cdv : Value) (A : Around) (outer : List Env) (s : Shared) (H : Hp) (E : XK) (a : Addr) (oe : Obj) (C dd : Addr), Good C → Zc (.ref C) (some dd) oe → (∃ ws, oe.data = .fields ws) → (A.deeper (envOfC qual scope s.heap.objs.size f cdv)).units + 64 < cLine →
      ∃ τ, DPB (L2H.cxH (L2.CX P w) P w K mg base N qual scope f cdv A outer s H E (a, oe)) E body τ ∧
        ∀ (ds : List D) (M : Mm) (kk : DK) (x : DX), ds.length = 1 → φ a dd ds M kk x → τ { nx := fun _ M => kk .non M, rt := kk, m0 := M } x (startD N ds) M) : FnP P w K mg base f fd [y] (spE K Good φ) := by
  obtain ⟨oc, od, dV, kV, doc, pm, an, cdv, ct, osl, rfl, lk, hcd, _, _⟩ := F.ex
  refine ⟨fun p vs H Q E ⟨C, dd, _, _, _, q⟩ => spD_len q, fun A outer s H args us vs Q E p hr hpin e0 hb r hsp => ?_⟩
  obtain ⟨C, dd, hgood, hz, hws, hq⟩ := hsp
  have KX : K.In s.heap := e0.mod.kin.keeps fun b o e => (e0.bs b o e).1
  have hkind : ∀ z ∈ [y].zip us, scope.names.lookup z.1 = some .local ∨ (scope.names.lookup z.1 = some .cell ∧ ((cellsFrom (s.heap.objs.size + 1) scope.names []).lookup z.1).isSome = true) := by
    rintro ⟨n, v⟩ hz
    have hm := (List.of_mem_zip hz).1
    rcases S.par n hm with q | q
    · exact Or.inl q
    · exact Or.inr ⟨q, PySem.W.cellsFrom_some _ _ _ (Or.inl q)⟩
  refine codeAny_call_function hr.depth (KX _ _ lk) rfl S.co S.gen rfl (PySem.W.codeRec_of KX hcd) (hb _ _ _ _ ?_)
  refine wpAny_newFunctionEnv_cells S.kind hkind fun env henv s1 hin => ?_
  subst henv
  have nolim : s.heap.NoLimit := e0.mod.nolimit.keeps fun b o e => (e0.bs b o e).1
  refine ⟨nolim.keeps hin.toInCall.keep, codeAny_func ?_⟩
  obtain ⟨τ, ht, hτ⟩ := h cdv A outer s H E p.1 p.2 C dd hgood hz hws (by have := hr.un; show A.units + 3 + 64 < _; omega)
  have J : Inv (L2H.cxH (L2.CX P w) P w K mg base N qual scope f cdv A outer s H E p) [] (L2.start N vs) H s1 := L2H.inv_startH S hpin e0 (spD_len hq) r hin
  obtain ⟨s0, ds, kk, xx, rfl, o, rr, hl, hf, pp, px⟩ := hq
  have up0 : upS K E τ { nx := fun _ H' => Q .non H', rt := Q } (L2.start N vs) s0.H :=
    ⟨_, s0, _, xx, rfl, er_start o rr, hτ ds s0.M kk xx hl hf, ⟨fun ρ t q st σ er => pp _ t q st er.ok _ .non, ⟨s0, Step.refl s0, o, rfl, pp⟩, fun _ _ z => z.elim, fun _ _ z => z.elim⟩, px⟩
  refine wpAny_mono (ht.run [] s1 _ _ _ J up0) (fun fl s2 hs => ?_) fun e s2 hs => hs
  match fl, hs with
  | .ret u, hs =>
    obtain ⟨v, σ', H', J', rv, q⟩ := hs
    exact ⟨v, H', J'.os, J'.bare, J'.base, J'.hok, rv, q⟩
  | .next, hs =>
    obtain ⟨σ', H', J', q⟩ := hs
    exact ⟨V.non, H', J'.os, J'.bare, J'.base, J'.hok, rfl, q⟩
  | .brk, hs => exact hs.elim fun _ h => h.elim fun _ h => h.2.elim
  | .cont, hs => exact hs.elim fun _ h => h.elim fun _ h => h.2.elim
end
/-- x(e), e the handled exception -/
def dCallP (φ : Ct) (τ : DE) : DE := fun ρ M k x => dCons τ dNil ρ M (fun ds M1 => ds.length = 1 ∧ φ ds M1 k x) x
section
variable {X : Cx} {E : XK} {e : Expr} {τo : DE} {pos q : Pos} {f : Addr} {fd : FuncData} {y x : Str} {Good : Addr → Prop} {φ : Addr → Addr → Ct}
theorem d_callP {a C dd : Addr} {oe : Obj} (F : FnP X.prog X.w X.K X.mg X.base f fd [y] (spE X.K Good φ)) (hr : L2H.RoomH 1 X.A) (hp : (a, oe) ∈ X.pn) (hG : Good C) (hz : Zc (.ref C) (some dd) oe) (hf : ∃ vs, oe.data = .fields vs) (hg : Gl X x) (hm : X.mg x = some (.ref f)) (hk : PySem.W.keepIn X.K (.ref f) = true) (hb : Binds X.K fd [y] [])
    (hx : Passes (L2.CX X.prog X.w) X E) (he : DP X E e τo) (hdb : (x == ("__debug__" : Str)) = false := by decide) (hs : starEach [e] X.env = (false, eval e X.env) :: starEach [] X.env := by rfl) (hpl : (backTo pos (starEach [] X.env)).any (·.1) = false := by rfl) :
    DP X E (.Call (.Name x q) [e] [] pos) (dCallP (φ a dd) τo) := by
  refine ⟨fun pins s σ H Q I h => ?_⟩
  obtain ⟨ρ, s0, kk, xx, rfl, er, q, pp, px⟩ := h
  have ha : DPA X E [e] (dCons τo dNil) := a_cons he a_nil hs
  refine wpAny_Call_Name_kw (ld_glob I hg hm ?_ hdb)
  refine PySem.W.callWith_K (h₀ := X.base) I.ok.mod.kin hk (thn (ha.run pos pins s σ s0.H (fun vs H1 => ∃ s1 ds, s1.H = H1 ∧ Ok X.K s1 ∧ Step s0 s1 ∧ Reps X.K s1.G vs ds ∧ ds.length = 1 ∧ φ a dd ds s1.M kk xx) I
    ⟨ρ, s0, _, xx, rfl, er, q, fun ds s1 q1 st1 ok1 vs r1 => ⟨s1, ds, rfl, ok1, st1, r1, q1⟩, px⟩) fun us s1 ⟨vs, H1, I1, r, s2, ds, e2, ok2, st2, r2, l2, q2⟩ => ⟨I1.kIn, ?_⟩) hs hpl
  subst e2
  have hl : us.length = 1 := by rw [← r.length, r2.length, l2]
  have bb := hb s1 us I1.kIn (by rw [List.append_nil]; exact hl)
  rw [List.append_nil] at bb
  obtain ⟨p1, p2, p3, p4, p5⟩ := I1.pin (a, oe) (List.mem_append_left _ hp)
  have pin : L2H.PinOk X.stack s2.H s1 (a, oe) := ⟨p1, p2, fun hm => (List.mem_cons.mp (I1.stkSub a hm)).elim p3 p4, p5⟩
  have sp : spE X.K Good φ (a, oe) vs s2.H Q E := ⟨C, dd, hG, hz, hf, s2, ds, kk, xx, rfl, ok2, r2, l2, q2, pp.step st2, px.step st2⟩
  refine wpAny_call (codeAny_mono (F.run X.A X.stack s1 s2.H ⟨us, []⟩ us vs Q E (a, oe) hr pin I1.env0 bb r sp) fun res s' hq => ?_)
  match res, hq with
  | .error e, hq => exact hx pins σ s2.H s1 e s' I1 hq
  | .ok (.ret u), hq => exact I1.after hq
  | .ok .next, hq => exact hq.elim
  | .ok .brk, hq => exact hq.elim
  | .ok .cont, hq => exact hq.elim
end
end DL
set_option Elab.async false
set_option linter.all false
set_option maxRecDepth 100000
set_option maxHeartbeats 2000000
namespace DL
open PySem PySem.Spec PyProof.Rows L2
theorem fly_keeps {B h h' : Heap} {l : List Env} {a : Addr} {Z : Obj → Prop} (x : HandSPX.FlyingZ B l a Z h) (k : ∀ b o, h.get? b = some o → h'.get? b = some o) : HandSPX.FlyingZ B l a Z h' := by
  obtain ⟨f1, f2, f3, oe, vs, T, oT, ts, he, hz, hd, h1, h2, h3, hT, hdT, h4⟩ := x
  exact ⟨fun b o q => k b o (f1 b o q), f2, f3.of_keeps fun b o q _ => ⟨o, k b o q, rfl⟩, ⟨oe, vs, T, oT, ts, k _ _ he, hz, hd, h1, h2, h3, k _ _ hT, hdT, h4⟩⟩
/-- what the clause 'except (x, y, z) as n' wishes of an exception of the body; it takes it -/
def wT (K : PySem.W.Frag) (cs : List Value) (i nn : Nat) (ts : Addr → Value → Option Addr → TS) (D : Ends) : WX := fun cls d σ H =>
  PySem.W.exmAny K cls cs = some true ∧ (σ.length = nn → ∀ a, H a = none → ts a cls d { nx := fun σ' H' => D.nx (σ'.set i none) H', rt := D.rt, bk := fun σ' H' => D.bk (σ'.set i none) H', ct := fun σ' H' => D.ct (σ'.set i none) H' } (σ.set i (some (.ref a))) H)
section
variable {X : Cx} {x1 x2 x3 n : Str} {c1 c2 c3 : Value} {i kk : Nat} {body suite : List Stmt} {b₀ : Stmt} {q1 q2 q3 tp pos pos' : Pos} {tb : WX → TS} {ts : Addr → Value → Option Addr → TS}
theorem ps_try3 (hs : X.stack = X.env :: X.outer) (hf : X.env.frame = some X.env.locals) (hN : X.N.Nodup) (hi : X.N[i]? = some n) (hln : X.env.kindOf n = some .local) (g1 : Gl X x1) (m1 : X.mg x1 = some c1) (g2 : Gl X x2) (m2 : X.mg x2 = some c2) (g3 : Gl X x3) (m3 : X.mg x3 = some c3)
    (hb : ∀ (W : WX) (pn : List (Addr × Obj)) (xe : Value → Shared → Prop), Takes (X.tr pn xe) W → PSs (X.tr pn xe) body (tb W))
    (hsu : ∀ (a : Addr) (oe : Obj) (cls : Value) (d : Option Addr) (pn : List (Addr × Obj)), Zc cls d oe → (∃ vs, oe.data = .fields vs) → PSs (X.suite a ((a, oe) :: pn)) (b₀ :: suite) (ts a cls d))
    (d1 : (x1 == ("__debug__" : Str)) = false := by decide) (d2 : (x2 == ("__debug__" : Str)) = false := by decide) (d3 : (x3 == ("__debug__" : Str)) = false := by decide) :
    PS X (.Try body [.ExceptHandler (some (.Tuple [.Name x1 q1, .Name x2 q2, .Name x3 q3] kk tp)) (some n) (b₀ :: suite) pos'] [] [] pos) (fun D σ H => tb (wT X.K [c1, c2, c3] i X.N.length ts D) D σ H) := by
  refine ⟨fun pins s σ H D I h => ?_⟩
  have okX := I.ok
  have frames : X.A.frames = some (X.env :: X.outer) := by rw [okX.frames, hs]
  let caught : Value → Shared → Prop := fun e s₁ => wpAny (model X.prog X.w) X.A (noteFrame e X.env) (fun _ s₂ => wpAny (model X.prog X.w) X.A (setFlight e none) (fun _ s₃ =>
    wpAny (model X.prog X.w) X.A (handleBy e X.env [.ExceptHandler (some (.Tuple [.Name x1 q1, .Name x2 q2, .Name x3 q3] kk tp)) (some n) (b₀ :: suite) pos']) (SP X pins D) X.xe s₃) X.xe s₂) X.xe s₁
  have tk : Takes (X.tr (X.pn ++ pins) caught) (wT X.K [c1, c2, c3] i X.N.length ts D) := by
    intro u s' xx
    obtain ⟨a, B, sI, pins', σ1, H1, cls, d, rfl, J', nb, up, sky, na, os, ag, hm, hw⟩ := xx
    have J : Inv X pins σ1 H1 sI := J'.ofTry okX
    have hw := hw J.len
    have sky' : Sky B (X.env :: X.outer) a (Zc cls d) X.env.locals s'.heap := by rw [← hs]; exact sky
    show wpAny (model X.prog X.w) X.A (noteFrame (.ref a) X.env) _ _ _
    refine Sky.land Zc.steady frames hf sky' fun h3 fl up3 => ?_
    have outside : ∀ {h : Heap} {o : Obj} {vs : Array Value}, h.FunFrames B (X.env :: X.outer) → h.get? a = some o → o.data = .fields vs → a ∉ frs (X.env :: X.outer) := by
      intro h o vs ff e dd hm
      obtain ⟨_, o2, e2, nf⟩ := ff.mem hm
      rw [e] at e2
      cases e2
      exact nf _ dd
    obtain ⟨oe, vs, he, hz, hd⟩ := fl.there
    have out := outside fl.2.2.1 he hd
    have noL : a ≠ X.env.locals := fun z => out (List.mem_filterMap.mpr ⟨X.env, List.mem_cons_self, by rw [hf, z]⟩)
    have noF : a ∉ X.fs := by
      intro hm
      obtain ⟨e2, he2, q⟩ := List.mem_filterMap.mp hm
      exact out (List.mem_filterMap.mpr ⟨e2, List.mem_cons_of_mem _ he2, q⟩)
    have J3 : Inv X pins σ1 H1 { s' with heap := h3 } := J.landed nb fl.1 (up.trans up3) os ag
    have S3 := J3.suite he hd na noL noF
    refine wpAny_handleBy_cons (codeAny_handlers_test ?_) (by intro q; cases q)
    refine wpAny_Tuple ?_
    refine wpAny_items_cons (ld_glob (X := X.suite a ((a, oe) :: (X.pn ++ pins))) S3 g1 m1 ?_ d1)
    refine wpAny_items_cons (ld_glob (X := X.suite a ((a, oe) :: (X.pn ++ pins))) S3 g2 m2 ?_ d2)
    refine wpAny_items_cons (ld_glob (X := X.suite a ((a, oe) :: (X.pn ++ pins))) S3 g3 m3 ?_ d3)
    refine wpAny_items_nil ⟨by size_fits, ?_⟩
    have grow : ∀ b o, h3.get? b = some o → (h3.push { cls := .type "tuple", data := .seq [c1, c2, c3].toArray }).get? b = some o := fun _ _ z => Heap.get?_push_of_some _ z
    have ty : PySem.W.Looks (model X.prog X.w) h3 (typeOf (.ref a)) cls := fun A Q E s k q => wpAny_typeOf_ref (k _ _ he) (by rw [hz.1]; exact q)
    refine (PySem.W.exm_tup3 (J3.kIn.keeps grow) (ty.keeps grow) (Heap.get?_push_size h3 rfl) hm).here ?_
    refine codeAny_handlers_suite_as ?_
    refine HandSPX.lands_againZ (fly_keeps fl grow) fun h4 fl4 up4 => ?_
    have J4 : Inv X pins σ1 H1 { s' with heap := h4 } := J.landed nb fl4.1 (((up.trans up3).trans (Heap.UpToSlots.of_keeps grow)).trans up4) os ag
    obtain ⟨oe4, vs4, he4, hz4, hd4⟩ := fl4.there
    have S4 := J4.suite he4 hd4 na noL noF
    refine store_ok (X := X.suite a ((a, oe4) :: (X.pn ++ pins))) (v := .ref a) S4 hN hi (.inl hln) rfl (fun s5 S5 => ?_) (.inr hln)
    refine wpAny_mono ((hsu a oe4 cls d (X.pn ++ pins) hz4 ⟨_, hd4⟩).run [] s5 _ H1 _ S5 (hw a na)) (fun fl s6 hsp => ?_) (fun _ _ z => False.elim z)
    have gone : ∀ {σ6 : L2.St} {H6 : Hp} {Q : Shared → Prop}, Inv (X.suite a ((a, oe4) :: (X.pn ++ pins))) [] σ6 H6 s6 → (∀ s7, Inv X pins (σ6.set i none) H6 s7 → Q s7) →
        wpAny (model X.prog X.w) X.A (do bindName X.env n .none; unbindBehindTheSuite X.env n pos') (fun _ s7 => Q s7) X.xe s6 := fun S6 hq => gone_ok (S6.unsuite okX) hN hi hln hq
    match fl, hsp with
    | .next, ⟨_, _, S6, q6⟩ => exact gone S6 fun s7 J7 => ⟨_, _, J7, q6⟩
    | .brk, ⟨_, _, S6, q6⟩ => exact gone S6 fun s7 J7 => ⟨_, _, J7, q6⟩
    | .cont, ⟨_, _, S6, q6⟩ => exact gone S6 fun s7 J7 => ⟨_, _, J7, q6⟩
    | .ret u, ⟨_, _, _, S6, r6, q6⟩ => exact gone S6 fun s7 J7 => ⟨_, _, _, J7, r6, q6⟩
  refine wpAny_Try_except (wpAny_mono ((hb _ (X.pn ++ pins) caught tk).run [] s σ H D (I.toTry _) h) (fun fl s1 hsp => ?_) fun e s1 he => he)
  match fl, hsp with
  | .next, ⟨σ', H', J', q⟩ => exact wpAny_execs_nil ⟨σ', H', J'.ofTry okX, q⟩
  | .brk, ⟨σ', H', J', q⟩ => exact ⟨σ', H', J'.ofTry okX, q⟩
  | .cont, ⟨σ', H', J', q⟩ => exact ⟨σ', H', J'.ofTry okX, q⟩
  | .ret u, ⟨v, σ', H', J', r, q⟩ => exact ⟨v, σ', H', J'.ofTry okX, r, q⟩
end
end DL
set_option Elab.async false
set_option linter.all false
set_option maxRecDepth 100000
set_option maxHeartbeats 2000000
namespace DL
open PySem PySem.Spec PyProof.Rows L2
/-- a table of code objects grows by one -/
theorem Ok.table {K : PySem.W.Frag} {s : Sta} {P c : Addr} {q : Str} {ps' : Array Value} (k : Ok K s) (hM : s.M P = some (.tbl q)) (hc : s.H c = none) (ht : TriplesOk ps'.toList)
    (ha : ∀ (pos : Pos) (cv : Value), codeAmong pos ps'.toList = some cv → cv = .ref c ∨ ∃ c0, cv = .ref c0 ∧ s.G c0 = some (LamX.CodeO c0 q)) :
    Ok K ⟨upd (upd s.H P (.tbl ps')) c (LamX.CodeO c q), upd s.G c (LamX.CodeO c q), s.M⟩ ∧ Step s ⟨upd (upd s.H P (.tbl ps')) c (LamX.CodeO c q), upd s.G c (LamX.CodeO c q), s.M⟩ := by
  obtain ⟨ps, eP, _, _⟩ := k.cells P _ hM
  have nPc : P ≠ c := ne_of_none eP hc
  have gP : s.G P = none := k.apart P _ hM
  have gc : s.G c = none := k.freeG hc
  have mc : s.M c = none := k.freeM hc
  refine ⟨⟨fun b u e => ?_, fun a mo e => ?_, fun a mo e => ?_⟩, ⟨same_new gc, fun _ x => x, fun a u h1 h2 h3 => ?_⟩⟩
  · have e' : upd s.G c (LamX.CodeO c q) b = some u := e
    show upd (upd s.H P (.tbl ps')) c (LamX.CodeO c q) b = some u
    by_cases eb : b = c
    · subst eb
      rw [upd_same] at e' ⊢
      exact e'
    · rw [upd_ne eb] at e' ⊢
      rw [upd_ne (ne_of_none e' gP)]
      exact k.sub b u e'
  · have ne : a ≠ c := fun z => by rw [z, mc] at e; cases e
    show upd s.G c _ a = none
    rw [upd_ne ne]
    exact k.apart a mo e
  · have ne : a ≠ c := fun z => by rw [z, mc] at e; cases e
    show MRep K (upd s.G c _) (upd (upd s.H P (.tbl ps')) c _ a) mo
    rw [upd_ne ne]
    by_cases eP2 : a = P
    · subst eP2
      have e2 : s.M a = some mo := e
      rw [hM] at e2
      cases e2
      rw [upd_same]
      refine ⟨ps', rfl, ht, fun pos cv hcv => ?_⟩
      rcases ha pos cv hcv with z | ⟨c0, z1, z2⟩
      · exact ⟨c, z, upd_same⟩
      · exact ⟨c0, z1, same_new gc _ _ z2⟩
    · rw [upd_ne eP2]
      exact (k.cells a mo e).same (same_new gc)
  · have ne : a ≠ c := ne_of_none h1 hc
    have nP : a ≠ P := fun z => by rw [z, hM] at h3; cases h3
    exact ⟨by show upd (upd s.H P _) c _ a = _; rw [upd_ne ne, upd_ne nP]; exact h1, by show upd s.G c _ a = _; rw [upd_ne ne]; exact h2, h3⟩
section
variable {X : Cx} {pins : List (Addr × Obj)} {σ : L2.St} {H : Hp} {s : Shared}
/-- a lambda is made: what is new in the tracked heap -/
theorem lam_made {c P : Addr} {ps : Array Value} {params : Arguments} {body : Expr} {scope : Scope} {pos : Pos} {E : Value → Shared → Prop} {Q : Value → Shared → Prop} (I : Inv X pins σ H s) (TB : LamX.TabB X.base X.mg c P) (hcode : X.env.code = .ref c)
    (hP : H P = some (.tbl ps)) (ht : TriplesOk ps.toList) (ha : ∀ (pos : Pos) (cv : Value), codeAmong pos ps.toList = some cv → ∃ c, cv = .ref c ∧ H c = some (LamX.CodeO c (X.env.qual ++ "<lambda>")))
    (hdef : defaultsOf params X.env = ([], [])) (hfree : ∀ y ∈ scope.names, y.2 = .free → ∃ c, X.env.cells.lookup y.1 = some c)
    (h : ∀ (f c' : Addr) (pm ctv : Value) (H1 : Hp) (s' : Shared), Inv X pins σ H1 s' → ((H1 = H ∧ ∃ p : Pos, codeAmong p ps.toList = some (.ref c')) ∨ ∃ ps' : Array Value, H c' = none ∧ H1 = upd (upd H P (.tbl ps')) c' (LamX.CodeO c' (X.env.qual ++ "<lambda>")) ∧ TriplesOk ps'.toList ∧
        ∀ (p : Pos) (cv : Value), codeAmong p ps'.toList = some cv → cv = .ref c' ∨ codeAmong p ps.toList = some cv) →
      s'.heap.get? f = some (PySem.W.kla_obj "<lambda>" (X.env.qual ++ "<lambda>") params body scope (cloFrom X.env.cells scope.names []) pm c' ctv) → H1 f = none → f ∉ frs X.stack → s.heap.objs.size ≤ f → Q (.ref f) s') :
    wpAny (model X.prog X.w) X.A (eval (.Lambda params body scope pos) X.env) Q E s := by
  refine PySem.W.kla_eval hdef ?_
  have atP : s.heap.get? P = some { cls := .none, data := .fields ps } := I.hok P _ hP
  have young : ∀ f, s.heap.objs.size ≤ f → f ∉ frs X.stack := by
    intro f hf z
    rcases List.mem_cons.mp (I.stkSub _ z) with e | e
    · have h1 := I.lt
      rw [← e] at h1
      exact absurd (Nat.lt_of_lt_of_le h1 hf) (Nat.lt_irrefl _)
    · exact I.nofs hf e
  match hc : codeAmong pos ps.toList with
  | some cv =>
    obtain ⟨c', rfl, hco⟩ := ha pos cv hc
    refine PySem.W.kla_makeFunctionHit (mg := X.mg) (c := c) (P := P) (ps := ps) (closure_ok hfree) I.ok.glob (I.mod.glob.keeps I.bk) hcode (TB.code.keeps I.bk) atP ht hc (TB.bm.keeps I.bk) fun ctv h' tk hx hsz => ?_
    refine h h'.objs.size c' ((X.mg "__name__").getD .none) ctv H _ (I.kept (t' := tk) fun b o e => Heap.get?_push_of_some _ (hx b o e)) (.inl ⟨rfl, pos, hc⟩) (Heap.get?_push_size _ rfl) (I.hok.fresh hsz) (young _ hsz) hsz
  | none =>
    refine PySem.W.kla_makeFunction (mg := X.mg) (c := c) (P := P) (ps := ps) (closure_ok hfree) I.ok.glob (I.mod.glob.keeps I.bk) hcode (TB.code.keeps I.bk) atP ht hc TB.gP (TB.bm.keeps I.bk) fun c' ctv h' tk hx hge hlt hrec htb => ?_
    obtain ⟨c2, oc, vs, t, e2, hoc, hd, hv⟩ := hrec
    cases e2
    have big : s.heap.objs.size ≤ h'.objs.size := Nat.le_trans hge (Nat.le_of_lt hlt)
    have nC : H c' = none := I.hok.fresh hge
    have eL : (ps ++ #[rawInt pos.line, rawInt pos.col, .ref c']).toList = ps.toList ++ [rawInt pos.line, rawInt pos.col, .ref c'] := by simp
    have J := LamX.inv_table (t' := tk) (more := #[rawInt pos.line, rawInt pos.col, .ref c']) (h' := h'.push (PySem.W.kla_obj "<lambda>" (X.env.qual ++ "<lambda>") params body scope (cloFrom X.env.cells scope.names []) ((X.mg "__name__").getD .none) c' ctv)) I hP
      (fun b o hb e => Heap.get?_push_of_some _ (hx b o hb e)) (Heap.get?_push_of_some _ htb) hge ⟨oc, vs, t, Heap.get?_push_of_some _ hoc, hd, hv⟩
    refine h h'.objs.size c' ((X.mg "__name__").getD .none) ctv _ _ J (.inr ⟨_, nC, rfl, by rw [eL]; exact PySem.TriplesOk_snoc _ _ _ _ ht, fun p cv z => ?_⟩) (Heap.get?_push_size _ rfl) ?_ (young _ big) big
    · rw [eL] at z
      exact (LamX.among_app _ ht z).elim .inr .inl
    · have n1 : h'.objs.size ≠ c' := Nat.ne_of_gt hlt
      have n2 : h'.objs.size ≠ P := Nat.ne_of_gt (Nat.lt_of_lt_of_le (Heap.lt_size atP) big)
      rw [upd_ne n1, upd_ne n2]
      exact I.hok.fresh big
/-- .. over data: nothing changes but what is hidden -/
theorem lam_data {c' P : Addr} {s0 : Sta} {q : Str} {H1 : Hp} {ps : Array Value} (ok : Ok X.K s0) (hM : s0.M P = some (.tbl q)) (hps : s0.H P = some (.tbl ps)) (ha : ∀ (pos : Pos) (cv : Value), codeAmong pos ps.toList = some cv → ∃ c, cv = .ref c ∧ s0.G c = some (LamX.CodeO c q))
    (hH : (H1 = s0.H ∧ ∃ p : Pos, codeAmong p ps.toList = some (.ref c')) ∨ ∃ ps' : Array Value, s0.H c' = none ∧ H1 = upd (upd s0.H P (.tbl ps')) c' (LamX.CodeO c' q) ∧ TriplesOk ps'.toList ∧ ∀ (p : Pos) (cv : Value), codeAmong p ps'.toList = some cv → cv = .ref c' ∨ codeAmong p ps.toList = some cv) :
    ∃ s1 : Sta, s1.H = H1 ∧ Step s0 s1 ∧ Ok X.K s1 ∧ s1.M = s0.M ∧ s1.G c' = some (LamX.CodeO c' q) := by
  rcases hH with ⟨rfl, p, h⟩ | ⟨ps', hn, rfl, ht, hall⟩
  · obtain ⟨c2, e1, e2⟩ := ha p _ h
    cases e1
    exact ⟨s0, rfl, Step.refl _, ok, rfl, e2⟩
  · obtain ⟨o, st⟩ := ok.table hM hn ht (fun p cv z => (hall p cv z).imp id fun w => ha p cv w)
    exact ⟨_, rfl, st, o, rfl, upd_same⟩
end
end DL
set_option Elab.async false
set_option linter.all false
set_option maxRecDepth 100000
set_option maxHeartbeats 2000000
namespace DL
open PySem PySem.Spec PyProof.Rows L2
def inC (c : Str) (xs : List Str) : Bool := inD (.str c) (xs.map .str)
def eqC (c x : Str) : Bool := decide (toV (.str c) = toV (.str x))
def oneF (fs : List (Str × D)) (n : Str) : Option (List D) := (fs.lookup n).map fun d => [d]
def twoF (fs : List (Str × D)) (n m : Str) : Option (List D) := (fs.lookup n).bind fun d => (fs.lookup m).map fun u => [d, u]
def fieldsOf (c : Str) (fs : List (Str × D)) : Option (List D) :=
  if inC c ["InvalidRatio", "InvalidSpan", "InvalidCount", "InvalidLimit"] = true then oneF fs "given"
  else if inC c ["InvalidText", "InvalidCorners", "InvalidTiles", "InvalidDeed"] = true then
    (if eqC c "InvalidText" = true then oneF fs "line" else if eqC c "InvalidDeed" = true then oneF fs "index" else oneF fs "at")
  else if inC c ["InvalidName", "DuplicateName", "UnknownTile", "UnknownMark"] = true then oneF fs "name"
  else if inC c ["SplitSide", "InvalidWall", "MarkedSide", "UnknownSide"] = true then oneF fs "side"
  else if inC c ["TooMany", "TooFar"] = true then oneF fs "most"
  else if inC c ["Overlap", "InvalidChord", "NotJoined"] = true then twoF fs "one" "other"
  else if inC c ["InvalidPlace", "InvalidRound"] = true then oneF fs "value"
  else if eqC c "LooseCorner" = true then oneF fs "corner" else some []
/-- what _law_fields(e) keeps -/
def phF (a dd : Addr) : Ct := fun ds M k _ => ∃ fs code vals, ds = [.exc a dd fs] ∧ List.lookup ("code" : Str) fs = some (.str code) ∧ fieldsOf code fs = some vals ∧ vals.length ≤ 2 ∧ k (.tup vals) M
/-- what is known of the classes of the errors -/
structure GoodX (K : PySem.W.Frag) (cs : List Value) (C : Addr) : Prop where
  xf : XfC K C
  ex : PySem.W.exmAny K (.ref C) cs = some true
  no : ∀ n ∈ (["code", "given", "line", "index", "at", "name", "side", "most", "one", "other", "value", "corner"] : List Str), PySem.W.findIn K (.ref C) n = some none
/-- _law_try(lambda: e) -/
def dTry (P : Addr) (q : Str) (Good : Addr → Prop) (τ : DE) : DE := fun ρ M k _ => M P = some (.tbl q) ∧ τ ρ M (fun d M1 => k (.tup [.str "told", d]) M1)
  (fun C fs M1 => Good C ∧ ∃ code vals, List.lookup ("code" : Str) fs = some (.str code) ∧ fieldsOf code fs = some vals ∧ vals.length ≤ 2 ∧ k (.tup (.str "no" :: .str code :: vals)) M1)
section
variable {P : Program} {w : World} {K : PySem.W.Frag} {mg : Str → Option Value} {base : Heap}
/-- the suite, over data -/
def τSuite (a dd : Addr) : DS := dRet (dOp dAdd (dTup (dCons (dC (.str "no")) (dCons (dXf a dd "code" (dVar 1)) dNil))) (dCallP (phF a dd) (dVar 1)))
theorem suite_D {X : Cx} {a C dd : Addr} {oe : Obj} {cs : List Value} {fF : Addr} {fdF : FuncData} {j1 kk : Nat} {p1 p2 p3 p4 p5 p6 p7 p8 p9 : Pos} (hN : X.N[1]? = some ("_law_e" : Str)) (hv : Vis X.env.scope "_law_e") (hp : (a, oe) ∈ X.pn) (G : GoodX X.K cs C) (hz : Zc (.ref C) (some dd) oe) (hf : ∃ vs, oe.data = .fields vs)
    (hr : L2H.RoomH 1 X.A) (F : FnP X.prog X.w X.K X.mg X.base fF fdF ["_law_e"] (spE X.K (GoodX X.K cs) phF)) (hg : Gl X "_law_fields") (hm : X.mg "_law_fields" = some (.ref fF)) (hk : PySem.W.keepIn X.K (.ref fF) = true) (hb : Binds X.K fdF ["_law_e"] [])
    (hat : attributeBase (.Name "_law_e" p3) "code" X.env (eval (.Name "_law_e" p3) X.env) = eval (.Name "_law_e" p3) X.env)
    (hs1 : starEach [.Constant (.str "no") j1 p2, .Attribute (.Name "_law_e" p3) "code" p4] X.env = (false, eval (.Constant (.str "no") j1 p2) X.env) :: starEach [.Attribute (.Name "_law_e" p3) "code" p4] X.env)
    (hs2 : starEach [.Attribute (.Name "_law_e" p3) "code" p4] X.env = (false, eval (.Attribute (.Name "_law_e" p3) "code" p4) X.env) :: starEach [] X.env)
    (hs3 : starEach [.Name "_law_e" p6] X.env = (false, eval (.Name "_law_e" p6) X.env) :: starEach [] X.env) (hpl : (backTo p8 (starEach [] X.env)).any (·.1) = false) :
    DPB X (fun _ _ _ => False) [.Return (some (.BinOp (.Tuple [.Constant (.str "no") j1 p2, .Attribute (.Name "_law_e" p3) "code" p4] kk p5) .Add (.Call (.Name "_law_fields" p7) [.Name "_law_e" p6] [] p8) p9)) p1] (τSuite a dd) := by
  have v : ∀ {q : Pos}, DP X (fun _ _ _ => False) (.Name "_law_e" q) (dVar 1) := fun {q} => dv 1 hN hv
  exact b_one (s_ret (d_op o_add (d_tup (a_cons d_str (a_cons (d_xf G.xf (G.no _ (by simp)) hp hz hf v hat) a_nil hs2) hs1)) (d_callP F hr hp G hz hf hg hm hk hb passes_no v (by decide) hs3 hpl)))
end
/-- the body of _law_try -/
abbrev tryBody (j1 j2 k1 k2 k3 : Nat) (p1 p2 p3 p4 p5 p6 p7 p8 p9 q1 q2 q3 q4 q5 q6 q7 q8 q9 r1 r2 : Pos) : List Stmt :=
  [.Try [.Return (some (.Tuple [.Constant (.str "told") j1 p1, .Call (.Name "_law_ask" p2) [] [] p3] k1 p4)) p5]
    [.ExceptHandler (some (.Tuple [.Name "GustError" p6, .Name "Missing" p7, .Name "NothingLeft" p8] k2 p9)) (some "_law_e")
      [.Return (some (.BinOp (.Tuple [.Constant (.str "no") j2 q2, .Attribute (.Name "_law_e" q3) "code" q4] k3 q5) .Add (.Call (.Name "_law_fields" q7) [.Name "_law_e" q6] [] q8) q9)) q1] r1] [] [] r2]
end DL
set_option Elab.async false
set_option linter.all false
set_option maxRecDepth 100000
set_option maxHeartbeats 2000000
namespace DL
open PySem PySem.Spec PyProof.Rows L2
theorem roomH1 {k : Nat} {A : Around} {e : Option Value} (r : Room (k + 1) A) : L2H.RoomH 1 (A.mark e) := ⟨by have := r.dp; show A.depth + 3 * 1 + 5 < _; omega, by have := r.un; show A.units + 16 * 1 + 200 < _; omega⟩
/-- what a law's _law_try must have -/
structure TryF (P : Program) (w : World) (K : PySem.W.Frag) (mg : Str → Option Value) (base : Heap) (cs : List Value) (g fF : Addr) (fdF : FuncData) : Prop where
  m : mg "_law_try" = some (.ref g)
  k : PySem.W.keepIn K (.ref g) = true
  f : ∃ (pg : Arguments) (sg : Scope) (dV kV doc pm cdv ct oc : Value) (an od : Option Addr) (osl : Array (Option Value)) (j1 j2 k1 k2 k3 : Nat) (p1 p2 p3 p4 p5 p6 p7 p8 p9 q1 q2 q3 q4 q5 q6 q7 q8 q9 r1 r2 : Pos),
    K.lookup g = some ⟨oc, od, .func (PySem.W.fnOf "_law_try" "_law_try" pg (tryBody j1 j2 k1 k2 k3 p1 p2 p3 p4 p5 p6 p7 p8 p9 q1 q2 q3 q4 q5 q6 q7 q8 q9 r1 r2) sg dV kV doc pm an cdv ct), osl⟩ ∧ PySem.W.codeIn K cdv "_law_try" = true ∧
      Binds K (PySem.W.fnOf "_law_try" "_law_try" pg (tryBody j1 j2 k1 k2 k3 p1 p2 p3 p4 p5 p6 p7 p8 p9 q1 q2 q3 q4 q5 q6 q7 q8 q9 r1 r2) sg dV kV doc pm an cdv ct) ["_law_ask"] [] ∧ FnScope ["_law_ask", "_law_e"] ["_law_ask"] sg ∧
      (sg.names.lookup ("_law_ask" : Str) = some .local ∧ sg.names.lookup ("_law_e" : Str) = some .local ∧ sg.names.lookup ("GustError" : Str) = some .globalImplicit ∧ sg.names.lookup ("Missing" : Str) = some .globalImplicit ∧ sg.names.lookup ("NothingLeft" : Str) = some .globalImplicit ∧ sg.names.lookup ("_law_fields" : Str) = some .globalImplicit)
  cls : ∃ c1 c2 c3, cs = [c1, c2, c3] ∧ mg "GustError" = some c1 ∧ mg "Missing" = some c2 ∧ mg "NothingLeft" = some c3
  mF : mg "_law_fields" = some (.ref fF)
  kF : PySem.W.keepIn K (.ref fF) = true
  bF : Binds K fdF ["_law_e"] []
  F : FnP P w K mg base fF fdF ["_law_e"] (spE K (GoodX K cs) phF)
section
variable {X : Cx} {E : XK} {cs : List Value} {g fF c P : Addr} {fdF : FuncData} {k : Nat} {params : Arguments} {body : Expr} {scope : Scope} {τ : DE} {p lpos pos : Pos}
theorem d_trylam (TF : TryF X.prog X.w X.K X.mg X.base cs g fF fdF) (hg : Gl X "_law_try") (TB : LamX.TabB X.base X.mg c P) (hcode : X.env.code = .ref c) (hr : Room (k + 2) X.A) (L : LamX.LamS X.env.scope scope) (hdef : defaultsOf params X.env = ([], []))
    (hbind : ∀ (q : Str) (cl : List (Str × Addr)) (pm cv ctv : Value), bindArgs (PySem.W.kla_fn "<lambda>" q params body scope cl pm cv ctv) ⟨[], []⟩ = pure [])
    (hbody : ∀ (A : Around) (outer : List Env) (s : Shared) (H : Hp) (E : XK) (f c' : Addr), Room k (A.deeper (LamX.lamEnv X scope s.heap.objs.size f c')) → Passes (L2.CX X.prog X.w) (LamX.lamCx X A outer s H E scope f c') E → DP (LamX.lamCx X A outer s H E scope f c') E body τ) :
    DP X E (.Call (.Name "_law_try" p) [.Lambda params body scope lpos] [] pos) (dTry P (X.env.qual ++ "<lambda>") (GoodX X.K cs) τ) := by
  refine ⟨fun pins s σ H Q I h => ?_⟩
  obtain ⟨ρ, s0, kk, xx, rfl, er, ⟨hM, q⟩, pp, px⟩ := h
  obtain ⟨ps, eP, ht, ha⟩ := er.ok.cells P _ hM
  obtain ⟨pg, sg, dV, kV, doc, pm, cdv, ct, oc, an, od, osl, j1, j2, k1, k2, k3, p1, p2, p3, p4, p5, p6, p7, p8, p9, q1, q2, q3, q4, q5, q6, q7, q8, q9, r1, r2, lk, hcg, hb, Sg, n1, n2, n3, n4, n5, n6⟩ := TF.f
  obtain ⟨c1, c2, c3, rfl, m1, m2, m3⟩ := TF.cls
  refine wpAny_Call_Name_kw (ld_glob I hg TF.m ?_ (by decide))
  refine PySem.W.callWith_K (h₀ := X.base) I.ok.mod.kin TF.k ?_ (by rfl) (by rfl)
  show wpAny _ _ (spliced ((false, eval (.Lambda params body scope lpos) X.env) :: backTo pos (starEach [] X.env))) _ _ s
  refine Calls.spliced_cons (lam_made I TB hcode eP ht (fun p cv z => let ⟨c, e1, e2⟩ := ha p cv z; ⟨c, e1, er.ok.sub _ _ e2⟩) hdef (L.has I.ok) fun f c' pm' ctv H1 s' I1 hH hf hfn hfr _ => ?_)
  refine Calls.spliced_nil ⟨I1.kIn, ?_⟩
  obtain ⟨s1, rfl, st1, ok1, eM, hc1⟩ := lam_data (X := X) er.ok hM eP ha hH
  have er1 := er.step st1 ok1
  have rc : codeAny (model X.prog X.w) X.A (.call (.ref g) ⟨[.ref f], []⟩) (CR (L2.CX X.prog X.w) X.stack X.prog X.w s1.H s' Q (fun _ _ _ => False)) s' := by
    refine LamX.run_ofS (N := ["_law_ask", "_law_e"]) (ps := ["_law_ask"]) (us := [.ref f]) (vs := [.ref f]) (k := k + 1) lk hcg Sg hr I1.env0 (hb s' [.ref f] I1.kIn rfl) (.cons rfl .nil) rfl fun hr' => ?_
    -- what an exception of the lambda must bring
    let Ech : XK := fun cls d H' => ∃ C dd, cls = .ref C ∧ d = some dd ∧ GoodX X.K [c1, c2, c3] C ∧ ∀ (σ' : L2.St), σ'.length = 2 → ∀ a, H' a = none → upS X.K (fun _ _ _ => False) (τSuite a dd) { nx := fun _ H' => Q .non H', rt := Q } (σ'.set 1 (some (.ref a))) H'
    let ts : Addr → Value → Option Addr → TS := fun a cls d D σ' H' => ∃ C dd, cls = .ref C ∧ d = some dd ∧ GoodX X.K [c1, c2, c3] C ∧ upS X.K (fun _ _ _ => False) (τSuite a dd) D σ' H'
    have hsu : ∀ (a : Addr) (oe : Obj) (cls : Value) (d : Option Addr) (pn : List (Addr × Obj)), Zc cls d oe → (∃ vs, oe.data = .fields vs) →
        PSs ((cxOf (L2.CX X.prog X.w) X.prog X.w X.K X.mg X.base ["_law_ask", "_law_e"] "_law_try" sg g cdv X.A X.stack s' s1.H (fun _ _ _ => False)).suite a ((a, oe) :: pn))
          [.Return (some (.BinOp (.Tuple [.Constant (.str "no") j2 q2, .Attribute (.Name "_law_e" q3) "code" q4] k3 q5) .Add (.Call (.Name "_law_fields" q7) [.Name "_law_e" q6] [] q8) q9)) q1] (ts a cls d) := by
      intro a oe cls d pn hz hfl
      refine ⟨fun pins2 s2 σ2 H2 D2 I2 h2 => ?_⟩
      obtain ⟨C, dd, rfl, rfl, hG, hu⟩ := h2
      exact (suite_D (X := (cxOf (L2.CX X.prog X.w) X.prog X.w X.K X.mg X.base ["_law_ask", "_law_e"] "_law_try" sg g cdv X.A X.stack s' s1.H (fun _ _ _ => False)).suite a ((a, oe) :: pn)) rfl (.inl n2) List.mem_cons_self hG hz hfl (roomH1 hr') TF.F n6 TF.mF TF.kF TF.bF rfl rfl rfl rfl rfl).run pins2 s2 σ2 H2 D2 I2 hu
    refine ⟨_, pss_one (ps_try3 (X := cxOf (L2.CX X.prog X.w) X.prog X.w X.K X.mg X.base ["_law_ask", "_law_e"] "_law_try" sg g cdv X.A X.stack s' s1.H (fun _ _ _ => False)) (i := 1) (n := "_law_e")
      (tb := fun W D σ' H' => (∀ cls d σ'' H'', Ech cls d H'' → W cls d σ'' H'') ∧ σ'[0]? = some (some (.ref f)) ∧ H' c' = some (LamX.CodeO c' (X.env.qual ++ "<lambda>")) ∧ up X.K Ech τ σ H' fun v H'' => ∀ p, H'' p = none → D.rt (.ref p) (upd H'' p (.tup [.str "told", v]))) (ts := ts)
      rfl rfl Sg.nd rfl n2 n3 m1 n4 m2 n5 m3 (fun W pn xe tk => ?_) hsu), ?_⟩
    · refine ⟨fun pins2 s2 σ2 H2 D2 I2 h2 => ?_⟩
      obtain ⟨hW, e1, e2, e3⟩ := h2
      have act := LamX.pe_act (CXg := L2.CX X.prog X.w) (Eg := fun _ _ _ => False) (Ng := ["_law_ask", "_law_e"]) (qg := "_law_try") (sg := sg) (g := g) (cdg := cdv) (k := k) (i := 0) (a := "_law_ask") (pn := pn) (xe := xe) (W := W) (E := Ech) (tb := up X.K Ech τ) (p1 := p2) (p2 := p3)
        I1 L hf hfn hfr (hbind _ _ _ _ _) tk hW hr' (fun A outer s H hr2 => hbody A outer s H Ech f c' hr2 (pass_own rfl rfl rfl rfl)) rfl (.inl n1)
      refine (pss_one (ps_ret (pos := p5) (pe_tup (x1 := k1) (pos := p4) (pa_cons (pe_str (x := "told") (j := j1) (pos := p1)) (pa_cons act pa_nil rfl) rfl)))).run pins2 s2 σ2 H2 D2 I2 ?_
      refine ⟨e1, e2, ?_⟩
      obtain ⟨ρ', t0, kk', xx', e4, er', q', pp', px'⟩ := e3
      exact ⟨ρ', t0, kk', xx', e4, er', q', fun d t hk st ok v r => ⟨by show 2 ≤ sizeLine; decide, fun p hp => pp' d t hk st ok v r p hp⟩, px'⟩
    · refine ⟨fun cls d σ'' H'' hE => ?_, rfl, ok1.sub _ _ hc1, ?_⟩
      · obtain ⟨C, dd, rfl, rfl, hG, hs⟩ := hE
        exact ⟨hG.ex, fun hl a hn => ⟨C, dd, rfl, rfl, hG, hs σ'' hl a hn⟩⟩
      · rw [← eM] at q
        refine ⟨ρ, s1, _, _, rfl, er1, q, fun d t hk st ok v r p hp => ?_, fun C fs t hx st ok dx fvs e1 e2 e3 e4 r => ?_⟩
        · refine (pp.step (st1.trans st)).tup hk ok ?_ hp
          exact .cons .str (.cons r .nil)
        · obtain ⟨hG, code, vals, l1, l2, l3, hk⟩ := hx
          refine ⟨C, dx, rfl, rfl, hG, fun σ' hl a hn => ?_⟩
          have new : ¬ s0.hidden dx := fun ⟨o, z1, z2, z3⟩ => e4 ⟨o, st1.hid dx o z1 z2 z3⟩
          obtain ⟨oku, stu, sau⟩ := ok.shown2 (st1.trans st) new e2 e3 e1
          obtain ⟨v0, v1, rfl⟩ : ∃ v0 v1, σ' = [v0, v1] := by
            match σ', hl with
            | [v0, v1], _ => exact ⟨v0, v1, rfl⟩
          refine ⟨[none, some (.exc a dx fs)], ⟨t.H, upd t.G dx (.xd fvs), t.M⟩, { nx := fun _ _ => False, rt := kk, m0 := t.M }, fun _ _ _ => False, rfl, ⟨oku, rfl, fun i d hd => ?_⟩, ?_, ⟨fun _ _ z => z.elim, ⟨_, Step.refl _, oku, rfl, pp.step stu⟩, fun _ _ z => z.elim, fun _ _ z => z.elim⟩, PostX.never⟩
          · match i, hd with
            | 1, hd =>
              cases hd
              exact ⟨.ref a, rfl, .exc upd_same (r.same sau)⟩
          · refine ⟨_, rfl, fs, .str code, rfl, l1, ⟨by show 2 ≤ sizeLine; decide, _, rfl, rfl, fs, code, vals, rfl, l1, l2, l3, ?_⟩⟩
            exact ⟨by have : (4 : Nat) ≤ sizeLine := by decide
                      show 2 + vals.length ≤ sizeLine; omega, hk⟩
  refine wpAny_call (codeAny_mono rc fun r s2 hq => ?_)
  match r, hq with
  | .error e, hq =>
    obtain ⟨_, _, _, _, _, _, _, _, _, _, _, _, z⟩ := hq
    exact z.elim
  | .ok (.ret u), hq => exact I1.after hq
  | .ok .next, hq => exact hq.elim
  | .ok .brk, hq => exact hq.elim
  | .ok .cont, hq => exact hq.elim
end
end DL
set_option Elab.async false
set_option linter.all false
set_option maxRecDepth 100000
set_option maxHeartbeats 2000000
namespace DL
open PySem PySem.Spec PyProof.Rows L2
section
variable {P : Program} {w : World} {K : PySem.W.Frag} {mg : Str → Option Value} {base : Heap}
/-- a def whose code object stands at c: it may make lambdas -/
theorem fn_DL {x qual : Str} {params : Arguments} {body : List Stmt} {scope : Scope} {dV kV doc pm ct oc : Value} {an od : Option Addr} {osl : Array (Option Value)} {f c : Addr} {N ps : List Str} {k n : Nat} {φ : Ct}
    (lk : K.lookup f = some ⟨oc, od, .func (PySem.W.fnOf x qual params body scope dV kV doc pm an (.ref c) ct), osl⟩) (hcd : PySem.W.codeIn K (.ref c) qual = true) (S : FnScope N ps scope) (hn : n = ps.length)
    (h : ∀ (A : Around) (outer : List Env) (s : Shared) (H : Hp) (E : XK), Room k (A.deeper (envOfC qual scope s.heap.objs.size f (.ref c))) →
      Passes (L2.CX P w) (cxOf (L2.CX P w) P w K mg base N qual scope f (.ref c) A outer s H E) E → PassesOwn (model P w) (cxOf (L2.CX P w) P w K mg base N qual scope f (.ref c) A outer s H E).A (cxOf (L2.CX P w) P w K mg base N qual scope f (.ref c) A outer s H E).env (cxOf (L2.CX P w) P w K mg base N qual scope f (.ref c) A outer s H E).xe →
      ∃ τ, DPB (cxOf (L2.CX P w) P w K mg base N qual scope f (.ref c) A outer s H E) E body τ ∧
        ∀ (ds : List D) (M : Mm) (kk : DK) (x : DX), ds.length = n → φ ds M kk x → τ { nx := fun _ M => kk .non M, rt := kk, m0 := M } x (startD N ds) M) :
    FnOk P w K mg base (L2.CX P w) (k + 1) f (PySem.W.fnOf x qual params body scope dV kV doc pm an (.ref c) ct) ps (spD K n φ) := by
  refine fn_of lk hcd S (fun vs H Q E q => by rw [spD_len q, hn]) fun A outer s H vs Q E hr q => ?_
  obtain ⟨τ, ht, hq⟩ := h A outer s H E hr (pass_own rfl rfl rfl rfl) (passes_of rfl)
  refine ⟨_, ht, ?_⟩
  obtain ⟨s0, ds, kk, xx, rfl, o, r, hl, f, p, px⟩ := q
  exact ⟨_, s0, _, xx, rfl, er_start o r, hq ds s0.M kk xx hl f, ⟨fun ρ t q st σ er => p _ t q st er.ok _ .non, ⟨s0, Step.refl s0, o, rfl, p⟩, fun _ _ z => z.elim, fun _ _ z => z.elim⟩, px⟩
end
end DL
set_option Elab.async false
set_option linter.all false
set_option maxRecDepth 100000
set_option maxHeartbeats 2000000
namespace DL
open PySem PySem.Spec PyProof.Rows L2
/-- a def whose code object stands at c -/
structure DefL (K : PySem.W.Frag) (x qual : Str) (params : Arguments) (body : List Stmt) (scope : Scope) (f c : Addr) (fd : FuncData) : Prop where
  ex : ∃ (dV kV doc pm ct oc : Value) (an od : Option Addr) (osl : Array (Option Value)), fd = PySem.W.fnOf x qual params body scope dV kV doc pm an (.ref c) ct ∧ K.lookup f = some ⟨oc, od, .func (PySem.W.fnOf x qual params body scope dV kV doc pm an (.ref c) ct), osl⟩
  cd : PySem.W.codeIn K (.ref c) qual = true
section
variable {P : Program} {w : World} {K : PySem.W.Frag} {mg : Str → Option Value} {base : Heap}
theorem fn_DL2 {x qual : Str} {params : Arguments} {body : List Stmt} {scope : Scope} {f c : Addr} {fd : FuncData} {N ps : List Str} {k n : Nat} {φ : Ct}
    (F : DefL K x qual params body scope f c fd) (S : FnScope N ps scope) (hn : n = ps.length)
    (h : ∀ (A : Around) (outer : List Env) (s : Shared) (H : Hp) (E : XK), Room k (A.deeper (envOfC qual scope s.heap.objs.size f (.ref c))) →
      Passes (L2.CX P w) (cxOf (L2.CX P w) P w K mg base N qual scope f (.ref c) A outer s H E) E → PassesOwn (model P w) (cxOf (L2.CX P w) P w K mg base N qual scope f (.ref c) A outer s H E).A (cxOf (L2.CX P w) P w K mg base N qual scope f (.ref c) A outer s H E).env (cxOf (L2.CX P w) P w K mg base N qual scope f (.ref c) A outer s H E).xe →
      ∃ τ, DPB (cxOf (L2.CX P w) P w K mg base N qual scope f (.ref c) A outer s H E) E body τ ∧
        ∀ (ds : List D) (M : Mm) (kk : DK) (x : DX), ds.length = n → φ ds M kk x → τ { nx := fun _ M => kk .non M, rt := kk, m0 := M } x (startD N ds) M) :
    FnOk P w K mg base (L2.CX P w) (k + 1) f fd ps (spD K n φ) := by
  obtain ⟨dV, kV, doc, pm, ct, oc, an, od, osl, rfl, lk⟩ := F.ex
  exact fn_DL lk F.cd S hn h
end
end DL
set_option Elab.async false
set_option linter.all false
set_option maxRecDepth 100000
set_option maxHeartbeats 2000000
namespace XG
open PySem PySem.Spec PyProof.Rows L2 PySem.W
/-- a built-in base of own errors -/
structure Bas (B nw ini : String) (tl : List Value) : Prop where
  fx : ExcBaseFacts B nw ini tl
  st : StoreFacts B tl "object.__setattr__" "object"
  kx : KxsFacts B ini
  st0 : (kfb_private% "nameAndClass") (.builtin ini) = pure (PySem.Str.ofString "__init__", .type B)
theorem basV : Bas "ValueError" "ValueError.__new__" "ValueError.__init__" [.type "ValueError", .type "Exception", .type "BaseException", .type "object"] := ⟨PySem.F.excBase_ValueError, PySem.F.store_ValueError, kxs_ValueError, kxs_ValueError.nac⟩
theorem basL : Bas "LookupError" "LookupError.__new__" "LookupError.__init__" [.type "LookupError", .type "Exception", .type "BaseException", .type "object"] := ⟨PySem.F.excBase_LookupError, PySem.F.store_LookupError, kxs_LookupError, kxs_LookupError.nac⟩
/-- what is known of the class -/
structure OexB (K : PySem.W.Frag) (nw : String) (tl : List Value) (C : Addr) : Prop where
  cls : ∃ nm q N bs bm sn sub ab col dd k0 k1 k2 k3 k5, K.lookup C = some (excClassObj nm q C N bs bm true sn sub ab col dd k0 k1 k2 k3 k5 nw) ∧ excTail tl bm = true
  sa : PySem.W.findIn K (.ref C) "__setattr__" = some (some (.builtin "object.__setattr__"))
  exC : PySem.W.subIn K (.ref C) (.type "BaseException") = some true
  tyC : PySem.W.typeIn K (.ref C) = some (.type "type")
  kC : PySem.W.keepIn K (.ref C) = true
theorem OexB.over {K : PySem.W.Frag} {nw : String} {tl : List Value} {C : Addr} (T : OexB K nw tl C) : excOver K C tl = true := by
  obtain ⟨nm, q, N, bs, bm, sn, sub, ab, col, dd, k0, k1, k2, k3, k5, hC, hbm⟩ := T.cls
  have hcl : clsIn K C = some { name := nm, bases := bs, mro := .ref C :: bm, ns := N, qualname := q, hasDict := true, slotNames := sn, subclasses := sub, abstract := ab, collection := col, hasDel := false } := by unfold clsIn; rw [hC] <;> rfl
  unfold excOver
  rw [hcl]
  show (C == C && excTail tl bm) = true
  rw [hbm]
  simp
theorem taker_no {K : PySem.W.Frag} {C : Addr} {f : Str} (h : findIn K (.ref C) f = some none) : takerIn K C f = some none := by
  unfold takerIn
  rw [h]
  rfl
section
open Builtin Builtin.ObjectAttr
variable {X : Cx} {pins : List (Addr × Obj)} {σ : L2.St} {H : Hp} {s : Shared} {a C dx : Addr} {f : Str} {y : V} {u : Value} {fs : List (Str × V)} {Q : Unit → Shared → Prop} {E : Value → Shared → Prop} {A : Around} {B nw ini : String} {tl : List Value}
/-- the first field -/
theorem ost_new (BS : Bas B nw ini tl) (T : OexB X.K nw tl C) (I : Inv X pins σ H s) (e : H a = some (exo a C none)) (hno : PySem.W.findIn X.K (.ref C) f = some none) (ry : RelV y u)
    (h : ∀ dx s', H dx = none → dx ≠ a → Inv X pins σ (upd (upd H dx (exd dx [(f, y)])) a (exo a C (some dx))) s' → Q () s') : wpAny (model X.prog X.w) A (setAttr (.ref a) f u) Q E s := by
  obtain ⟨nm, q, N, bs, bm, sn, sub, ab, col, dd, k0, k1, k2, k3, k5, hC, hbm⟩ := T.cls
  have hcl : clsIn X.K C = some { name := nm, bases := bs, mro := .ref C :: bm, ns := N, qualname := q, hasDict := true, slotNames := sn, subclasses := sub, abstract := ab, collection := col, hasDel := false } := by unfold clsIn; rw [hC] <;> rfl
  obtain ⟨t1, ho⟩ := exo_at I.hok e
  obtain ⟨hp, g, d, t, os⟩ := s
  have IA : InstAt hp a ({ cls := .ref C, dict := none, data := .fields #[.ref t1, .none, .none, .none, .bool false, .none] } : Obj) C none := ⟨ho, rfl, rfl, trivial⟩
  have has : a ≠ hp.objs.size := Nat.ne_of_lt (Heap.lt_size ho)
  have hcls : Looks (model X.prog X.w) hp (classData C) _ := looks_clsIn I.kIn hcl
  refine set_plain I.kIn IA T.sa (osa_openX (s := ⟨hp, g, d, t + 1, os⟩) BS.st I.kIn IA T.over (taker_no hno) fun bb => ?_)
  show wpAny _ _ (storeInOwnDict (.ref a) (.ref C) (.str f t) f u bb) _ _ _
  unfold storeInOwnDict ownDictForStores
  repeat (first | with_reducible refine HandSPX.store_in_new ?_ ?_ | with_reducible refine wpAny_loadPart_at ho ?_ | with_reducible refine hcls.at ?_ | wp_step)
  · exact ⟨_, #[], _, (Heap.get?_update_ne _ _ _ _ has.symm).trans (Heap.get?_push_at rfl rfl), rfl, fun e he => absurd he (by simp), fun _ => rfl⟩
  intro h' tk' hn' hs
  have hx₁ : (hp.push { cls := .type "dict", data := .dict #[] }).get? a = some ({ cls := .ref C, dict := none, data := .fields #[.ref t1, .none, .none, .none, .bool false, .none] } : Obj) := Heap.get?_push_of_some _ ho
  have k : ∀ b o, b ≠ a → hp.get? b = some o → h'.get? b = some o := fun b o hb ho' => (hs.2 b (Nat.ne_of_lt (Heap.lt_size ho'))).trans ((Heap.get?_update_ne _ _ _ _ hb).trans (Heap.get?_push_of_some _ ho'))
  have hx : h'.get? a = some ({ cls := .ref C, dict := some hp.objs.size, data := .fields #[.ref t1, .none, .none, .none, .bool false, .none] } : Obj) := (hs.2 a has).trans (Heap.get?_update_self _ hx₁ rfl)
  have hnd : H hp.objs.size = none := I.hok.fresh (Nat.le_refl _)
  have nd : ∀ {b : Addr} {o : Obj}, hp.get? b = some o → b ≠ hp.objs.size := fun {b o} q => Nat.ne_of_lt (Heap.lt_size q)
  have na : ∀ {b : Addr}, H b = none → b ≠ a := fun {b} n z => by rw [z, e] at n; cases n
  have Un1 : Un X.fs [] H (upd (upd H hp.objs.size (exd hp.objs.size [(f, y)])) a (exo a C (some hp.objs.size))) hp h' := {
    keep := fun b o q n _ _ => k b o (na n) q
    slot := fun b o q n _ _ => ⟨o.slots, k b o (na n) q⟩
    free := fun b o q n _ => by rw [upd_ne (na n), upd_ne (nd q)]; exact n
    there := fun b o q _ => by
      by_cases hb : b = a
      · exact ⟨_, by rw [hb]; exact hx⟩
      · exact ⟨o, k b o hb q⟩
    tups := fun b xs q => by rw [upd_ne (at_ne e q exo_tup), upd_ne (ne_of_none q hnd)]; exact q
    frzs := fun b o v q => by rw [upd_ne (at_ne e q exo_frz), upd_ne (ne_of_none q hnd)]; exact q
    tbls := fun b ps q => ⟨#[], by rw [upd_ne (at_ne e q exo_tbl), upd_ne (ne_of_none q hnd), q]; simp⟩ }
  refine h hp.objs.size _ hnd has.symm (I.un (t' := tk') Un1 fun b o q => ?_)
  by_cases hb : b = a
  · subst hb
    rw [upd_same] at q
    cases q
    exact exo_ok hx
  · rw [upd_ne hb] at q
    by_cases hd : b = hp.objs.size
    · subst hd
      rw [upd_same] at q
      cases q
      exact exd_ok hn' (relO_put (fs := []) ry fun g => True.intro)
    · rw [upd_ne hd] at q
      exact (I.hok b o q).stay (fun c v hc z => k c v (by
          rcases hc with hc | hc
          · rw [hc]
            exact hb
          · exact at_ne e hc exo_own) z)
        (fun c hc => by rw [upd_ne (at_ne e hc exo_own), upd_ne (ne_of_none hc hnd)]; exact hc) (fun c xs hc => by rw [upd_ne (at_ne e hc exo_tup), upd_ne (ne_of_none hc hnd)]; exact hc)
/-- a further field -/
theorem ost_old (BS : Bas B nw ini tl) (T : OexB X.K nw tl C) (I : Inv X pins σ H s) (e : H a = some (exo a C (some dx))) (ed : H dx = some (exd dx fs)) (hl : fs.length ≤ 900) (hno : PySem.W.findIn X.K (.ref C) f = some none) (ry : RelV y u)
    (h : ∀ s', Inv X pins σ (upd H dx (exd dx ((f, y) :: fs))) s' → Q () s') : wpAny (model X.prog X.w) A (setAttr (.ref a) f u) Q E s := by
  obtain ⟨nm, q, N, bs, bm, sn, sub, ab, col, dd, k0, k1, k2, k3, k5, hC, hbm⟩ := T.cls
  have hcl : clsIn X.K C = some { name := nm, bases := bs, mro := .ref C :: bm, ns := N, qualname := q, hasDict := true, slotNames := sn, subclasses := sub, abstract := ab, collection := col, hasDel := false } := by unfold clsIn; rw [hC] <;> rfl
  obtain ⟨t1, ho⟩ := exo_at I.hok e
  obtain ⟨mA, hns, rel⟩ := exd_at I.hok ed
  have hw := within_of rel
  obtain ⟨hp, g, d, t, os⟩ := s
  obtain ⟨oD, _, _, hoD, _, _⟩ := hns.count hw
  have IA : InstAt hp a ({ cls := .ref C, dict := some dx, data := .fields #[.ref t1, .none, .none, .none, .bool false, .none] } : Obj) C (some oD) := ⟨ho, rfl, rfl, hoD⟩
  have hcls : Looks (model X.prog X.w) hp (classData C) _ := looks_clsIn I.kIn hcl
  have hz : (fs.map (·.1)).length ≤ 1000 := by rw [List.length_map]; omega
  refine set_plain I.kIn IA T.sa (osa_openX (s := ⟨hp, g, d, t + 1, os⟩) BS.st I.kIn IA T.over (taker_no hno) fun bb => ?_)
  show wpAny _ _ (storeInOwnDict (.ref a) (.ref C) (.str f t) f u bb) _ _ _
  unfold storeInOwnDict ownDictForStores
  repeat (first | with_reducible refine OEX.store_in_old hns hw hz ?_ | with_reducible refine wpAny_loadPart_at ho ?_ | with_reducible refine hcls.at ?_ | wp_step)
  intro h' tk' hn' hs
  have hd : ∃ o, h'.get? dx = some o := by
    obtain ⟨o, _, _, e', _⟩ := hn'
    exact ⟨o, e'⟩
  exact h _ (I.write (t' := tk') (x := dx) (e := dx) (o := exd dx ((f, y) :: fs)) (by rw [ed]; exact True.intro) (.inl rfl) (fun b o hb ho' => (hs.2 b hb).trans ho') hd (exd_ok hn' (relO_put ry rel)))
end
end XG
set_option Elab.async false
set_option linter.all false
set_option maxRecDepth 100000
set_option maxHeartbeats 2000000
namespace XG
open PySem PySem.Spec PyProof.Rows L2 PySem.W XI
section
variable {P : Program} {w : World} {K : PySem.W.Frag} {mg : Str → Option Value} {base : Heap} {qual : Str} {params : Arguments} {body rest : List Stmt} {scope : Scope} {ps : List Str} {f D cda cc : Addr} {fd : FuncData} {A : Around} {outer : List Env} {s : Shared} {H : Hp} {B nw ini : String} {tl : List Value}
/-- super().__init__(a text), at the body's beginning -/
theorem sup_first {C a : Addr} {σ : L2.St} {s1 : Shared} {H1 : Hp} {pl : Sem Bool} {p0 p1 p2 p3 p4 p5 : Pos} {msg : Str} {j : Nat} {Q : Flow → Shared → Prop} (F : SupD K P qual params body scope ps f D fd cda cc) (S : SupS ps params scope) (BS : Bas B nw ini tl) (T : OexB K nw tl C)
    (hsu : mg "super" = none) (hop : nsIn K cStatics "thirdparty.any" = some none) (hD : (clsIn K D).isSome = true) (hCD : mroIn K C (.ref D) = some true) (hal : ks_superIn K C D "__init__" = some (some (.builtin ini))) (hVE : subIn K (.ref C) (.type B) = some true)
    (I : Inv (supCx P w K mg base ps qual scope f cda cc A outer s H) [] σ H1 s1) (h0 : σ[0]? = some (some (.ref a))) (e : H1 a = some (exo a C none)) (hq : ∀ s', Inv (supCx P w K mg base ps qual scope f cda cc A outer s H) [] σ H1 s' → Q .next s')
    (he : ∀ L, eval (.Call (.Attribute (.Call (.Name "super" p0) [] [] p1) "__init__" p2) [.Constant (.str msg) j p3] [] p4) (ksEnv qual scope L f (.ref cda) cc) = (do
      let ov ← attributeBase (.Call (.Name "super" p0) [] [] p1) "__init__" (ksEnv qual scope L f (.ref cda) cc) (eval (.Call (.Name "super" p0) [] [] p1) (ksEnv qual scope L f (.ref cda) cc))
      standAt p2.atName
      let (fv, first) ← holding [ov] (getMethod ov "__init__" pl)
      callWith p4 fv first (backTo p4 (starEach [.Constant (.str msg) j p3] (ksEnv qual scope L f (.ref cda) cc))) [])) :
    _root_.PySem.wpAt (model P w) (supCx P w K mg base ps qual scope f cda cc A outer s H).A (.func body (supCx P w K mg base ps qual scope f cda cc A outer s H).env)
      (exec (.Expr (.Call (.Attribute (.Call (.Name "super" p0) [] [] p1) "__init__" p2) [.Constant (.str msg) j p3] [] p4) p5) (supCx P w K mg base ps qual scope f cda cc A outer s H).env) Q (fun _ _ => False) s1 := by
  obtain ⟨oc, dV, kV, doc, pm, ct, ccl, cl, od, an, cdd, cld, osl, ccs, csl, vs, file, tf, rfl, lf, lcd, hvs, hfile, lcc⟩ := F.ex
  have KX : K.In s1.heap := I.kIn
  obtain ⟨ar, hp, har⟩ := S.par
  obtain ⟨nm, q, N, bs, bm, sn, sub, ab, col, dd, k0, k1, k2, k3, k5, hC, hbm⟩ := T.cls
  obtain ⟨cdD, hcD⟩ := Option.isSome_iff_exists.mp hD
  obtain ⟨t1, ho⟩ := exo_at I.hok e
  obtain ⟨m, hn, hlk⟩ := id I.loc
  obtain ⟨u0, ru0, lk0⟩ := hlk 0 "self" (.ref a) S.self_ h0 (.inl (S.loc _ (List.mem_of_getElem? S.self_)))
  obtain rfl : u0 = Value.ref a := ru0
  have lm : m "self" = some (.ref a) := by
    rcases lk0 with ⟨_, z⟩ | ⟨z, _⟩
    · exact z
    · have hl := S.loc _ (List.mem_of_getElem? S.self_)
      rcases z with z | z <;> (rw [show scope.names.lookup ("self" : Str) = _ from z] at hl; cases hl)
  obtain ⟨hh, g, d, t, os⟩ := s1
  obtain ⟨oD, hD1, hD2⟩ : ∃ oD, hh.get? D = some oD ∧ oD.data = .cls cdD := by
    unfold clsIn at hcD
    split at hcD
    · rename_i c d cd' sl ho
      cases hcD
      exact ⟨_, KX _ _ ho, rfl⟩
    · cases hcD
  refine ks_wpAt_Expr_any ?_ (hi := by show (scope.kind == .module && _) = false; rw [S.kind]; rfl)
  refine ks_wpAt_MethodCall (pl := pl) ?_ (he _)
  refine ks_wpAt_super_base (env := ksEnv qual scope s.heap.objs.size f (.ref cda) cc) (f := f) (cc := cda) S.su S.cl (by decide) rfl (KX _ _ lf) rfl hp rfl (KX _ _ lcd) rfl hvs hfile F.top ?_
  obtain ⟨mb, hb1, hb2⟩ := I.mod.blt
  refine ks_loadName_global S.kind S.su (Calls.loadGlobal_builtin (env := ksEnv qual scope s.heap.objs.size f (.ref cda) cc) (v := .type "super") (I.mod.glob.keeps I.bk) hsu (hb1.keeps I.bk) ((hb2 "super" (by decide)).trans (by decide +kernel)) ⟨rfl, ?_⟩)
  refine wpAny_loadName_free S.kind S.cl rfl ⟨_, KX _ _ lcc, rfl⟩ ?_
  rw [har]
  refine wpAny_loadName_local S.kind (S.loc _ (List.mem_of_getElem? S.self_)) hn lm ?_
  refine ks_wpAny_isType_cls hD1 hD2 ⟨rfl, ?_⟩
  refine ks_wpAny_call_super hD1 hD2 ho rfl (fun c e => by cases e) (looks_mroIn KX hCD) (fun h' e1 k1' => ?_)
  have I1 : Inv (supCx P w K mg base ps qual scope f cda cc A outer s H) [] σ H1 ⟨h', g, d, t, os⟩ := I.kept (t' := t) k1'
  have hcl : clsIn K C = some { name := nm, bases := bs, mro := .ref C :: bm, ns := N, qualname := q, hasDict := true, slotNames := sn, subclasses := sub, abstract := ab, collection := col, hasDel := false } := by unfold clsIn; rw [hC] <;> rfl
  have hal' := hal
  unfold ks_superIn at hal'
  rw [hcl] at hal'
  have IA : InstAt hh a ({ cls := .ref C, dict := none, data := .fields #[.ref t1, .none, .none, .none, .bool false, .none] } : Obj) C none := ⟨ho, rfl, rfl, trivial⟩
  have hI : Looks (model P w) h' (isInstance (.ref a) (.type B)) true := Looks.keeps (IA.type.andThen (looks_subIn KX hVE)) k1'
  refine kxs_getMethod BS.kx e1 (looks_opaque I1.kIn hop) (l₀ := .ref C :: bm) ?_ rfl I1.kIn hal' hI (ks_ne KX IA hcl) (by decide) ?_
  · exact fun A Q E s k q => wpAny_bind ((looks_clsIn I1.kIn hcl) A _ E s k (wpAny_pure q))
  have I2 : Inv (supCx P w K mg base ps qual scope f cda cc A outer s H) [(h'.objs.size, kxs_mw ini a)] σ H1 ⟨h'.push (kxs_mw ini a), g, d, t + 1, os⟩ :=
    ClX.pin_new I1 (fun b o e => Heap.get?_push_of_some _ e) (Nat.le_refl _) (Heap.get?_push_size _ rfl) (fun v z => nomatch z)
  refine kxs_callWith (i := ini) (x := a) (u := h'.objs.size) (by rfl) ?_
  refine Calls.evalArgs_plain ?_
  show wpAny _ _ (spliced ((false, eval (.Constant (.str msg) j p3) (supCx P w K mg base ps qual scope f cda cc A outer s H).env) :: backTo p4 (starEach [] (supCx P w K mg base ps qual scope f cda cc A outer s H).env))) _ _ _
  refine Calls.spliced_cons (wpAny_mono ((pe_str (X := supCx P w K mg base ps qual scope f cda cc A outer s H) (x := msg) (j := j) (pos := p3)).run [(h'.objs.size, kxs_mw ini a)] _ σ H1 (fun v H' => v = .str msg ∧ H' = H1) I2 ⟨rfl, rfl⟩) (fun u s2 hu => ?_) fun _ _ z => z)
  obtain ⟨v, H', I3, rv, rfl, rfl⟩ := hu
  obtain ⟨tk, rfl⟩ := rv
  refine Calls.spliced_nil ⟨ClX.pin_at I3, ?_⟩
  have hmw := ClX.pin_at I3
  have I4 := ClX.unpin I3
  obtain ⟨t2, ho2⟩ := exo_at I4.hok e
  obtain ⟨h2, g2, d2, tk2, os2⟩ := s2
  refine wpAny_call (codeAny_of_tree ?_)
  show wpAny _ _ (callAny (.ref h'.objs.size) ⟨[.str msg tk], []⟩) _ _ _
  simp only [callAny]
  refine wpAny_bind (wpAny_load hmw ?_)
  simp only [kxs_mw, show (Value.type "method-wrapper" == Value.type "method" || Value.type "method-wrapper" == Value.type "builtin_function_or_method" || Value.type "method-wrapper" == Value.type "method-wrapper") = true by decide, if_true]
  refine KFB.if_so (by decide) ?_
  refine wpAny_bind (check_bound_init BS.fx.toExcCallFacts (I4.kIn _ _ hC) ho2 rfl ?_)
  refine wpAny_bind (wpAny_pure (wpAny_pure ?_))
  refine ⟨plainId_quiet BS.fx.init.plain _, codeAny_builtin BS.fx.initEntry ?_⟩
  refine exc_init_tree (cls := .ref C) (t0 := t2) (dv := none) (c2 := .none) (c3 := .none) (b4 := .bool false) ho2 (by show 1 ≤ sizeLine; decide) fun h5 k5' e5 t5 => ?_
  have J := I4.write (t' := tk2) (x := a) (e := a) (o := exo a C none) (by rw [e]; exact True.intro) (.inl rfl) k5' ⟨_, e5⟩ (exo_ok e5)
  have eu : upd H' a (exo a C none) = H' := by
    funext b
    by_cases hb : b = a
    · rw [hb, upd_same, e]
    · rw [upd_ne hb]
  rw [eu] at J
  exact hq _ J
end
/-- self.f = e -/
def tOst (K : PySem.W.Frag) (nw : String) (tl : List Value) (f : Str) (to te : TE) : TS := fun D σ H => te σ H fun y H1 => to σ H1 fun x H2 => ∃ a C : Addr, x = .ref a ∧ OexB K nw tl C ∧ PySem.W.findIn K (.ref C) f = some none ∧
  ((H2 a = some (exo a C none) ∧ ∀ dx, H2 dx = none → dx ≠ a → D.nx σ (upd (upd H2 dx (exd dx [(f, y)])) a (exo a C (some dx)))) ∨
    ∃ (dx : Addr) (fs : List (Str × V)), H2 a = some (exo a C (some dx)) ∧ H2 dx = some (exd dx fs) ∧ fs.length ≤ 900 ∧ D.nx σ (upd H2 dx (exd dx ((f, y) :: fs))))
theorem ps_ost {X : Cx} {o e : Expr} {to te : TE} {f : Str} {p' pos : Pos} {B nw ini : String} {tl : List Value} (BS : Bas B nw ini tl) (ho : PE X o to) (he : PE X e te) (hs : swapsWith e (some (.Attribute o f p')) pos.line X.env = pure false := by rfl) : PS X (.Assign [.Attribute o f p'] e pos) (tOst X.K nw tl f to te) := by
  refine ⟨fun pins s σ H D I h => ?_⟩
  refine plainObj_wpAny_Assign_Attribute (thn (he.run pins s σ H _ I h) fun v s1 ⟨y, H1, I1, r1, q1⟩ => thn (ho.run pins s1 σ H1 _ I1 q1) fun u s2 ⟨x, H2, I2, r2, a, C, ex, T, hno, q⟩ => ?_) hs
  subst ex
  obtain rfl : u = Value.ref a := r2
  rcases q with ⟨ea, q⟩ | ⟨dx, fs, ea, ed, hl, q⟩
  · exact ost_new BS T I2 ea hno r1 fun dx s' n ne J => ⟨σ, _, J, q dx n ne⟩
  · exact ost_old BS T I2 ea ed hl hno r1 fun s' J => ⟨σ, _, J, q⟩
/-- the facts of the class -/
structure XClsB (B nw ini : String) (tl : List Value) (K : PySem.W.Frag) (mg : Str → Option Value) (C D : Addr) : Prop where
  T : OexB K nw tl C
  su : mg "super" = none
  op : nsIn K cStatics "thirdparty.any" = some none
  hD : (clsIn K D).isSome = true
  CD : mroIn K C (.ref D) = some true
  al : ks_superIn K C D "__init__" = some (some (.builtin ini))
  VE : subIn K (.ref C) (.type B) = some true
section
variable {P : Program} {w : World} {K : PySem.W.Frag} {mg : Str → Option Value} {base : Heap} {qual : Str} {params : Arguments} {rest : List Stmt} {scope : Scope} {ps : List Str} {f D cda cc C : Addr} {fd : FuncData} {CX : CXT} {k n : Nat} {fl : List V → List (Str × V)}
  {B nw ini : String} {tl : List Value} {pl : Sem Bool} {p0 p1 p2 p3 p4 p5 : Pos} {msg : Str} {j : Nat}
theorem fn_exc (F : SupD K P qual params (.Expr (.Call (.Attribute (.Call (.Name "super" p0) [] [] p1) "__init__" p2) [.Constant (.str msg) j p3] [] p4) p5 :: rest) scope ps f D fd cda cc) (S : SupS ps params scope) (BS : Bas B nw ini tl) (X : XClsB B nw ini tl K mg C D) (hn : ps.length = n + 1)
    (he : ∀ L, eval (.Call (.Attribute (.Call (.Name "super" p0) [] [] p1) "__init__" p2) [.Constant (.str msg) j p3] [] p4) (ksEnv qual scope L f (.ref cda) cc) = (do
      let ov ← attributeBase (.Call (.Name "super" p0) [] [] p1) "__init__" (ksEnv qual scope L f (.ref cda) cc) (eval (.Call (.Name "super" p0) [] [] p1) (ksEnv qual scope L f (.ref cda) cc))
      standAt p2.atName
      let (fv, first) ← holding [ov] (getMethod ov "__init__" pl)
      callWith p4 fv first (backTo p4 (starEach [.Constant (.str msg) j p3] (ksEnv qual scope L f (.ref cda) cc))) []))
    (h : ∀ (A : Around) (outer : List Env) (s : Shared) (H : Hp), ∃ t, PSs (supCx P w K mg base ps qual scope f cda cc A outer s H) rest t ∧
      ∀ (vs : List V) (Q : VK) (H1 : Hp), spX C n fl vs H1 Q (fun _ _ _ => False) → t { nx := fun _ H' => Q .non H', rt := Q } (L2.start ps vs) H1) :
    FnOk P w K mg base CX (k + 1) f fd ps (spX C n fl) := by
  refine ⟨fun vs H Q E q => ?_, fun A outer s H args us vs Q E hr e0 hb r q => ?_⟩
  · obtain ⟨a, ws, rfl, hl, _⟩ := q
    rw [List.length_cons, hl, hn]
  obtain ⟨oc, dV, kV, doc, pm, ct, ccl, cl, od, an, cdd, cld, osl, ccs, csl, vs', file, tf, rfl, lf, lcd, hvs, hfile, lcc⟩ := id F.ex
  have KX : K.In s.heap := e0.mod.kin.keeps fun b o e => (e0.bs b o e).1
  have lim : s.heap.NoLimit := e0.mod.nolimit.keeps fun b o e => (e0.bs b o e).1
  have hl : vs.length = ps.length := by
    obtain ⟨a, ws, rfl, hl, _⟩ := q
    rw [List.length_cons, hl, hn]
  refine ks_codeAny_call_defAt (binds := ps.zip us) hr.depth (KX _ _ lf) rfl lim (codeRec_of KX F.cd) rfl hb S.nocell (fun y hy => S.loc _ (List.of_mem_zip hy).1) (fun h₁ hns kp => ?_) S.co S.gen S.kind
  have I := inv_sup (f := f) (cda := cda) (qual := qual) (tk := s.toks + (ps.zip us).length) S hr.hd e0 hl r lcc hns kp
  obtain ⟨t, ht, hq⟩ := h A outer s H
  have q' := hq vs Q H (by obtain ⟨a, ws, e1, e2, e3, e4⟩ := q; exact ⟨a, ws, e1, e2, e3, e4⟩)
  obtain ⟨a, ws, rfl, hw, ea, _⟩ := q
  have h0 : (L2.start ps (.ref a :: ws))[0]? = some (some (.ref a)) := rfl
  refine ks_wpAt_execs_cons (ks_wpAt_mono (sup_first F S BS X.T X.su X.op X.hD X.CD X.al X.VE I h0 ea (Q := fun fl' s' => fl' = .next ∧ Inv (supCx P w K mg base ps qual scope f cda cc A outer s H) [] (L2.start ps (.ref a :: ws)) H s') (fun s' I' => ⟨rfl, I'⟩) he) (fun fl' s' hz => ?_) (fun _ _ z => z.elim))
  obtain ⟨rfl, I'⟩ := hz
  refine wpAt_of_wpAny (wpAny_mono (ht.run [] s' _ H _ I' q') (fun fl'' s'' hs => ?_) fun _ _ z => z.elim)
  have fin : ∀ {σ' : L2.St} {H' : Hp} {v : V} {u : Value}, Inv (supCx P w K mg base ps qual scope f cda cc A outer s H) [] σ' H' s'' → RelV v u → Q v H' → CE outer P w H s Q u s'' :=
    fun {σ' H' v u} J rv q => ⟨v, H', J.os, J.bare, J.base, J.hok, rv, q⟩
  cases fl'' with
  | ret u =>
    obtain ⟨v, σ', H', J, rv, q⟩ := hs
    exact fin J rv q
  | next =>
    obtain ⟨σ', H', J, q⟩ := hs
    exact fin (v := V.non) (u := Value.none) J rfl q
  | brk =>
    obtain ⟨_, _, _, q⟩ := hs
    exact False.elim q
  | cont =>
    obtain ⟨_, _, _, q⟩ := hs
    exact False.elim q
end
section
variable {P : Program} {w : World} {K : PySem.W.Frag} {mg : Str → Option Value} {base : Heap} {qual : Str} {params : Arguments} {scope : Scope} {f D cda cc C : Addr} {fd : FuncData} {CX : CXT} {k : Nat}
  {B nw ini : String} {tl : List Value} {pl : Sem Bool} {p0 p1 p2 p3 p4 p5 a1 a2 a3 a4 b1 b2 b3 b4 c1 c2 c3 c4 : Pos} {msg code f1 f2 x1 x2 : Str} {j jj : Nat}
theorem fn_exc0 (F : SupD K P qual params (.Expr (.Call (.Attribute (.Call (.Name "super" p0) [] [] p1) "__init__" p2) [.Constant (.str msg) j p3] [] p4) p5 :: [.Assign [.Attribute (.Name "self" c1) "code" c2] (.Constant (.str code) jj c3) c4]) scope ["self"] f D fd cda cc) (S : SupS ["self"] params scope) (BS : Bas B nw ini tl) (X : XClsB B nw ini tl K mg C D)  (nc : findIn K (.ref C) "code" = some none)
    (hc : ∀ L, swapsWith (.Constant (.str code) jj c3) (some (.Attribute (.Name "self" c1) "code" c2)) c4.line (ksEnv qual scope L f (.ref cda) cc) = pure false)
    (he : ∀ L, eval (.Call (.Attribute (.Call (.Name "super" p0) [] [] p1) "__init__" p2) [.Constant (.str msg) j p3] [] p4) (ksEnv qual scope L f (.ref cda) cc) = (do
      let ov ← attributeBase (.Call (.Name "super" p0) [] [] p1) "__init__" (ksEnv qual scope L f (.ref cda) cc) (eval (.Call (.Name "super" p0) [] [] p1) (ksEnv qual scope L f (.ref cda) cc))
      standAt p2.atName
      let (fv, first) ← holding [ov] (getMethod ov "__init__" pl)
      callWith p4 fv first (backTo p4 (starEach [.Constant (.str msg) j p3] (ksEnv qual scope L f (.ref cda) cc))) [])) :
    FnOk P w K mg base CX (k + 1) f fd ["self"] (spX C 0 (fl0 code)) := by
  refine fn_exc F S BS X rfl he fun A outer s H => ⟨_, pss_one (ps_ost BS (pe_var (i := 0) rfl (.inl (S.loc _ (.head _)))) pe_str (hc _)), ?_⟩
  rintro vs Q H1 ⟨a, ws, rfl, hl, ea, q⟩
  have e : ws = [] := List.eq_nil_of_length_eq_zero hl
  subst e
  exact ⟨.ref a, rfl, a, C, rfl, X.T, nc, .inl ⟨ea, fun dx h1 h2 => q dx h1 h2⟩⟩
theorem fn_exc1 (F : SupD K P qual params (.Expr (.Call (.Attribute (.Call (.Name "super" p0) [] [] p1) "__init__" p2) [.Constant (.str msg) j p3] [] p4) p5 :: [.Assign [.Attribute (.Name "self" a1) f1 a2] (.Name x1 a3) a4, .Assign [.Attribute (.Name "self" c1) "code" c2] (.Constant (.str code) jj c3) c4]) scope ["self", x1] f D fd cda cc) (S : SupS ["self", x1] params scope) (BS : Bas B nw ini tl) (X : XClsB B nw ini tl K mg C D) (n1 : findIn K (.ref C) f1 = some none) (nc : findIn K (.ref C) "code" = some none) (d1 : (x1 == ("__debug__" : Str)) = false) (e1 : (x1 == ("__classdict__" : Str)) = false)
    (ha : ∀ L, swapsWith (.Name x1 a3) (some (.Attribute (.Name "self" a1) f1 a2)) a4.line (ksEnv qual scope L f (.ref cda) cc) = pure false) (hc : ∀ L, swapsWith (.Constant (.str code) jj c3) (some (.Attribute (.Name "self" c1) "code" c2)) c4.line (ksEnv qual scope L f (.ref cda) cc) = pure false)
    (he : ∀ L, eval (.Call (.Attribute (.Call (.Name "super" p0) [] [] p1) "__init__" p2) [.Constant (.str msg) j p3] [] p4) (ksEnv qual scope L f (.ref cda) cc) = (do
      let ov ← attributeBase (.Call (.Name "super" p0) [] [] p1) "__init__" (ksEnv qual scope L f (.ref cda) cc) (eval (.Call (.Name "super" p0) [] [] p1) (ksEnv qual scope L f (.ref cda) cc))
      standAt p2.atName
      let (fv, first) ← holding [ov] (getMethod ov "__init__" pl)
      callWith p4 fv first (backTo p4 (starEach [.Constant (.str msg) j p3] (ksEnv qual scope L f (.ref cda) cc))) [])) :
    FnOk P w K mg base CX (k + 1) f fd ["self", x1] (spX C 1 (fl1 code f1)) := by
  refine fn_exc F S BS X rfl he fun A outer s H => ⟨_, pss_cons (ps_ost BS (pe_var (i := 0) rfl (.inl (S.loc _ (.head _)))) (pe_var (i := 1) rfl (.inl (S.loc _ (.tail _ (.head _)))) d1 e1) (ha _)) (pss_one (ps_ost BS (pe_var (i := 0) rfl (.inl (S.loc _ (.head _)))) pe_str (hc _))), ?_⟩
  rintro vs Q H1 ⟨a, ws, rfl, hl, ea, q⟩
  obtain ⟨w, rfl⟩ : ∃ w, ws = [w] := by
    match ws, hl with
    | [w], _ => exact ⟨w, rfl⟩
  refine ⟨w, rfl, .ref a, rfl, a, C, rfl, X.T, n1, .inl ⟨ea, fun dx h1 h2 => ?_⟩⟩
  refine ⟨.ref a, rfl, a, C, rfl, X.T, nc, .inr ⟨dx, _, upd_same, by rw [upd_ne h2]; exact upd_same, by show 1 ≤ 900; decide, ?_⟩⟩
  have q2 := q dx h1 h2
  rw [← upd2 h2] at q2
  exact q2
end
end XG
set_option Elab.async false
set_option linter.all false
set_option maxRecDepth 100000
set_option maxHeartbeats 2000000
namespace XG
open PySem PySem.Spec PyProof.Rows L2 PySem.W PySem.HandSPX
section
variable {M : Model} {A : Around} {E : Value → Shared → Prop} {h : Heap} {g : Array GenState} {d : Drawn} {t : Nat} {os : OsState} {kws : List (Str × Value)}
variable {nm q : Str} {C N : Addr} {bs bm bmB : List Value} {hdct : Bool} {sn : List Str} {sub : List Value} {ab : Bool} {col : Option Bool} {dd : Option Addr} {k0 k1 k2 k3 k5 : Option Value} {B newId initId : String}
theorem check_newK (F : ExcBaseFacts B newId initId bmB) (hT : ∀ X : String, bm.contains (.type X) = bmB.contains (.type X)) {rest : List Value} {Q : Unit → Shared → Prop}
    (hC : h.get? C = some (excClassObj nm q C N bs bm hdct sn sub ab col dd k0 k1 k2 k3 k5 newId)) (hq : Q () ⟨h, g, d, t, os⟩) : wpAny M A (checkBuiltinCall newId ⟨.ref C :: rest, kws⟩) Q E ⟨h, g, d, t, os⟩ := by
  have hcont : (Value.ref C :: bm).contains (.type B) = true := by rw [List.contains_cons, hT, F.hasB, Bool.or_true]
  have hstar := F.noStar
  simp only [checkBuiltinCall, F.newKind, F.newSplit, F.newRow]
  repeat (first | refine wpAny_loadPart_at hC ?_ | (refine wpAny_isSubtype_exc hC ?_; rw [hcont]) | refine wpAny_staticBase_exc hC ?_ | refine wpAny_madeBy_exc hC ?_ | simp only [bne_self_eq_false, Bool.false_eq_true, if_false] | wp_step)
  exact hq
end
section
variable {prog : Program} {w : World} {A : Around} {E : Value → Shared → Prop} {R : Result → Shared → Prop} {h : Heap} {g : Array GenState} {d : Drawn} {t : Nat} {os : OsState} {kws : List (Str × Value)}
variable {nm q : Str} {C N : Addr} {bs bm bmB : List Value} {hdct : Bool} {sn : List Str} {sub : List Value} {ab : Bool} {col : Option Bool} {dd : Option Addr} {k0 k1 k2 k3 k5 : Option Value} {B newId initId : String}
theorem newK (F : ExcBaseFacts B newId initId bmB) (hT : ∀ X : String, bm.contains (.type X) = bmB.contains (.type X)) {rest : List Value}
    (hC : h.get? C = some (excClassObj nm q C N bs bm hdct sn sub ab col dd k0 k1 k2 k3 k5 newId))
    (hq : R (.ok (.ret (.ref (h.objs.size + 1)))) ⟨(h.push { cls := .type "tuple", data := .seq rest.toArray }).push
      { cls := .ref C, data := .fields #[.ref h.objs.size, .none, .none, .none, .bool false, .none] }, g, d, t, os⟩) (hrest : rest.length ≤ sizeLine) :
    codeAny (model prog w) A (.builtin newId ⟨.ref C :: rest, kws⟩) R ⟨h, g, d, t, os⟩ := by
  have hends := F.ends
  have hcB : (Value.ref C :: bm).contains (.type B) = true := by rw [List.contains_cons, hT, F.hasB, Bool.or_true]
  have hcA : (Value.ref C :: bm).contains (.type "AttributeError") = false := by rw [List.contains_cons, hT, F.noAttr]; rfl
  have hcN : (Value.ref C :: bm).contains (.type "NameError") = false := by rw [List.contains_cons, hT, F.noName]; rfl
  refine codeAny_builtinAt F.entry ?_
  unfold Builtin.«BaseException.__new__»
  refine _root_.PySem.wpAt_bind ?_
  show _root_.PySem.wpAt _ _ _ (stack >>= _) _ _ _
  refine _root_.PySem.wpAt_bind (_root_.PySem.wpAt_stack fun p below => _root_.PySem.wpAt_of_wpAny ?_)
  wp_walk
  refine _root_.PySem.wpAt_of_wpAny ?_
  rw [F.owner]
  repeat (first | with_reducible refine wpAny_madeHere_exc F.canon hC ?_ | with_reducible refine wpAny_loadPart_at hC ?_ | (with_reducible refine wpAny_isSubtype_exc hC ?_; first | rw [hcB] | rw [hcA] | rw [hcN]) | wp_step)
  show R _ _
  rw [Heap.size_push]
  exact hq
theorem type_callK (F : ExcBaseFacts B newId initId bmB) (hT : ∀ X : String, bm.contains (.type X) = bmB.contains (.type X)) {rest : List Value} {fI : Addr} {Q : Fin → Shared → Prop}
    (hC : h.get? C = some (excClassObj nm q C N bs bm hdct sn sub ab col dd k0 k1 k2 k3 k5 newId))
    (hi : W.Looks (model prog w) h (typeLookup (.ref C) "__init__") (some (.ref fI))) (hb : ∀ self, W.Looks (model prog w) h (bindSpecial (.ref fI) self) (.ref fI, [self])) (hrest : rest.length ≤ sizeLine)
    (hq : codeAny (model prog w) A (.call (.ref fI) ⟨.ref (h.objs.size + 1) :: rest, kws⟩)
      (fun r s' => match r with | .ok (.ret v) => v = .none ∧ Q (.done (.ret (.ref (h.objs.size + 1)))) s' | .ok _ => False | .error e => E e s')
      ⟨(h.push (W.kdv_tup rest)).push (excO C h.objs.size), g, d, t, os⟩) :
    wpAny (model prog w) A (Builtin.«type.__call__» ⟨.ref C :: rest, kws⟩) Q E ⟨h, g, d, t, os⟩ := by
  repeat (first | with_reducible refine wpAny_loadPart_at hC ?_ | with_reducible refine wpAny_madeBy_exc hC ?_ | wp_step)
  refine codeAny_call_builtin_code (Code.quiet_builtin _ F.quiet) (check_newK F hT hC ?_)
  refine newK F hT hC ?_ hrest
  show wpAny _ _ _ _ _ _
  have k : ∀ b o, h.get? b = some o → ((h.push (W.kdv_tup rest)).push (excO C h.objs.size)).get? b = some o := fun b o e => Heap.get?_push_of_some _ (Heap.get?_push_of_some _ e)
  have hC₁ := k _ _ hC
  have hget : ((h.push (W.kdv_tup rest)).push (excO C h.objs.size)).get? (h.objs.size + 1) = some (excO C h.objs.size) := by heap_get
  have hcC : (Value.ref C :: bm).contains (.ref C) = true := by simp
  have i1 := hi.keeps k
  have b1 := (hb (.ref (h.objs.size + 1))).keeps k
  unfold isInstance
  repeat (first | with_reducible refine wpAny_loadPart_at hget ?_ | (with_reducible refine wpAny_isSubtype_exc hC₁ ?_; rw [hcC]) | wp_step)
  show wpAny _ _ (typeLookup (.ref C) _) _ _ _
  refine i1.at ?_
  refine wpAny_holding (wpAny_bind (b1.at ?_))
  refine wpAny_bind (wpAny_call (codeAny_mono hq fun r s' z => ?_))
  rcases r with e | (v | _ | _ | _) <;> first | exact z | exact z.elim | skip
  obtain ⟨rfl, z⟩ := z
  first
    | exact wpAny_pure (wpAny_pure z)
    | (wp_walk; exact z)
/-- C(.., k=..): the object is laid, then the own __init__ runs -/
theorem callK (F : ExcBaseFacts B newId initId bmB) (hT : ∀ X : String, bm.contains (.type X) = bmB.contains (.type X)) {rest : List Value} {fI : Addr}
    (hC : h.get? C = some (excClassObj nm q C N bs bm hdct sn sub ab col dd k0 k1 k2 k3 k5 newId))
    (hi : W.Looks (model prog w) h (typeLookup (.ref C) "__init__") (some (.ref fI))) (hb : ∀ self, W.Looks (model prog w) h (bindSpecial (.ref fI) self) (.ref fI, [self])) (hrest : rest.length ≤ sizeLine)
    (hq : codeAny (model prog w) (A.under (.builtin "type.__call__" ⟨.ref C :: rest, kws⟩)) (.call (.ref fI) ⟨.ref (h.objs.size + 1) :: rest, kws⟩) (W.InitBack (h.objs.size + 1) R)
      ⟨(h.push (W.kdv_tup rest)).push (excO C h.objs.size), g, d, t, os⟩) :
    codeAny (model prog w) A (.call (.ref C) ⟨rest, kws⟩) R ⟨h, g, d, t, os⟩ := by
  have f1 := tc_lookup
  have f2 := tc_bind (.ref C)
  have hTy : (⟨h, g, d, t, os⟩ : Shared).TypeIs (.ref C) "type" := ⟨_, hC, rfl⟩
  refine codeAny_of_tree ?_
  show wpAny _ _ (callAny (.ref C) _) _ _ _
  repeat (any_goals (first | assumption | with_reducible refine wpAny_loadPart_at hC ?_ | wp_step))
  refine ⟨rfl, ?_⟩
  refine codeAny_call_builtin_at (Code.quiet_builtin _ (by decide +kernel)) entry_typeCall (wpAny_check_type_call_sub hC (type_callK F hT hC hi hb hrest ?_))
  refine codeAny_mono hq fun r s' z => ?_
  rcases r with e | (v | _ | _ | _) <;> exact z
end
end XG
set_option Elab.async false
set_option linter.all false
set_option maxRecDepth 100000
set_option maxHeartbeats 2000000
set_option Elab.async false
set_option linter.all false
set_option maxRecDepth 100000
set_option maxHeartbeats 2000000
namespace DL
open PySem PySem.Spec PyProof.Rows L2
/-- what is known of an own error class that is made with n places and the keywords ks -/
structure ErrF (P : Program) (w : World) (K : PySem.W.Frag) (mg : Str → Option Value) (base : Heap) (x : Str) (C : Addr) (n : Nat) (ks : List Str) (fl : List V → List (Str × V)) : Prop where
  m : mg x = some (.ref C)
  ex : ∃ (B nw ini : String) (tl : List Value) (fI : Addr) (fd : FuncData) (ps : List Str), XG.Bas B nw ini tl ∧ XG.OexB K nw tl C ∧ PySem.W.findIn K (.ref C) "__init__" = some (some (.ref fI)) ∧ PySem.W.typeIn K (.ref fI) = some (.type "function") ∧
    KBn K fd ps (n + 1) ks (fun us ws => us ++ ws) (fun vs zs => vs ++ zs) ∧ FnOk P w K mg base (L2.CX P w) 1 fI fd ps (XI.spX C (n + ks.length) fl)
end DL
set_option Elab.async false
set_option linter.all false
set_option maxRecDepth 100000
set_option maxHeartbeats 2000000
namespace DL
open PySem PySem.Spec PyProof.Rows L2
end DL
set_option Elab.async false
set_option linter.all false
set_option maxRecDepth 100000
set_option maxHeartbeats 2000000
namespace DL
open PySem PySem.Spec PyProof.Rows L2
end DL
set_option Elab.async false
set_option linter.all false
set_option maxRecDepth 100000
set_option maxHeartbeats 2000000
namespace DL
open PySem PySem.Spec PyProof.Rows L2
/-- the names of a lambda: captured ones, globals, and own ones that are none of the def's -/
structure LamN (N : List Str) (sc scope : Scope) : Prop where
  kind : scope.kind = .function
  co : scope.isCoroutine = false
  gen : scope.isGenerator = false
  noc : ∀ y ∈ scope.names, y.2 ≠ .cell
  own : ∀ y ∈ scope.names, y.2 = .local → y.1 ∉ N
  free : ∀ y ∈ scope.names, y.2 = .free → sc.names.lookup y.1 = some .cell ∨ sc.names.lookup y.1 = some .free
theorem LamN.has {X : Cx} {N : List Str} {scope : Scope} (L : LamN N X.env.scope scope) (ok : X.Ok) : ∀ y ∈ scope.names, y.2 = .free → ∃ c, X.env.cells.lookup y.1 = some c := fun y hy e => by
  rcases L.free y hy e with z | z
  · exact ok.has _ (.inl z)
  · exact ok.has _ (.inr z)
end DL
set_option Elab.async false
set_option linter.all false
set_option maxRecDepth 100000
set_option maxHeartbeats 2000000
namespace DL
open PySem PySem.Spec PyProof.Rows L2
end DL
set_option Elab.async false
set_option linter.all false
set_option maxRecDepth 100000
set_option maxHeartbeats 2000000
namespace DL
open PySem PySem.Spec PyProof.Rows L2
end DL
set_option Elab.async false
set_option linter.all false
set_option maxRecDepth 100000
set_option maxHeartbeats 2000000
namespace DL
open PySem PySem.Spec PyProof.Rows L2
end DL
set_option Elab.async false
set_option linter.all false
set_option maxRecDepth 100000
set_option maxHeartbeats 2000000
set_option Elab.async false
set_option linter.all false
set_option maxRecDepth 100000
set_option maxHeartbeats 2000000
namespace DL
open PySem PySem.Spec PyProof.Rows L2
section
variable {X : Cx} {E : XK} {C f : Addr} {fd : FuncData} {ps : List Str} {φ : Ct} {k n : Nat} {pins : List (Addr × Obj)} {σ : L2.St} {H : Hp} {s : Shared}
/-- a def that raises nothing is called from within a builtin -/
theorem run_At {A : Around} {E' : Value → Shared → Prop} {vs : List V} {us : List Value} {Q : VK} (F : FnOk X.prog X.w X.K X.mg X.base (L2.CX X.prog X.w) k f fd ps (spD X.K n φ)) (hr : Room k A) (e0 : Env0 X.prog X.w X.K X.mg X.base A X.stack s H) (hb : KBd X.K fd ps n [] (fun us _ => us)) (I : Inv X pins σ H s) (r : Vals vs us)
    (h : ∃ s ds kk, s.H = H ∧ Ok X.K s ∧ Reps X.K s.G vs ds ∧ ds.length = n ∧ φ ds s.M kk (fun _ _ _ => False) ∧ Post X.K s kk Q) :
    wpAny (model X.prog X.w) A (call (.ref f) us) (EP X pins σ Q) E' s := by
  obtain ⟨s0, ds, kk, rfl, o, r1, l1, q, p⟩ := h
  obtain ⟨g, gV, hb, hrep⟩ := hb.ex
  have rr := hb.rel (ws := []) (zs := []) r .nil
  have e1 : us.length = n := r.length.symm.trans (r1.length.trans l1)
  have hs : spD X.K n φ (gV vs []) s0.H Q (fun _ _ _ => False) := ⟨s0, ds, kk, _, rfl, o, hrep r1 .nil l1 rfl, l1, q, p, PostX.never⟩
  refine wpAny_call (codeAny_mono (F.run A X.stack s s0.H ⟨us, []⟩ (g us []) (gV vs []) Q _ hr e0 (hb.to s us [] I.kIn e1 rfl) rr hs) fun r s' hq => ?_)
  cases r with
  | error e =>
    obtain ⟨_, _, _, _, _, _, _, _, _, _, _, _, z⟩ := hq
    exact z.elim
  | ok fl =>
    cases fl with
    | ret u => exact I.after hq
    | next => exact False.elim hq
    | brk => exact False.elim hq
    | cont => exact False.elim hq
/-- a text that the class's own def tells -/
def dTxtO (C : Addr) (φ : Ct) : D1 := fun u M k _ => (∃ fs, insOf u M = some (C, fs)) ∧ φ [u] M (fun r M2 => ∃ y, r = .str y ∧ k (.str y) M2) (fun _ _ _ => False)
def dOneN (g : D1) : DN := fun ds M k x => ∃ u, ds = [u] ∧ g u M k x
theorem txt_run {A : Around} {E' : Value → Shared → Prop} {u : D} {s0 : Sta} {kk : DK} {Q : VK} {a : Addr} (F : FnOk X.prog X.w X.K X.mg X.base (L2.CX X.prog X.w) k f fd ps (spD X.K 1 φ)) (hr : Room k A) (e0 : Env0 X.prog X.w X.K X.mg X.base A X.stack s s0.H) (hb : KBd X.K fd ps 1 [] (fun us _ => us)) (I : Inv X pins σ s0.H s)
    (ok : Ok X.K s0) (rv : Rep X.K s0.G (.ref a) u) (q : φ [u] s0.M (fun r M2 => ∃ y, r = .str y ∧ kk (.str y) M2) (fun _ _ _ => False)) (p : Post X.K s0 kk Q) :
    wpAny (model X.prog X.w) A (call (.ref f) [.ref a]) (PySem.W.StrBack (EP X pins σ Q)) E' s := by
  refine wpAny_mono (run_At (Q := fun v H' => ∃ y, v = .str y ∧ Q (.str y) H') F hr e0 hb I (vs := [.ref a]) (.cons rfl .nil) ⟨s0, [u], _, rfl, ok, .cons rv .nil, rfl, q, ?_⟩) (fun w s' z => ?_) fun _ _ x => x
  · rintro r t ⟨y, rfl, qy⟩ st okt v hv
    cases hv
    exact ⟨y, rfl, p _ t qy st okt _ .str⟩
  · obtain ⟨z', H', I', rz, y, rfl, qz⟩ := z
    obtain ⟨tk, rfl⟩ := rz
    exact ⟨.str y, H', I', ⟨tk, rfl⟩, qz⟩
theorem c_reprO (hs : PySem.W.findIn X.K (.ref C) "__repr__" = some (some (.ref f))) (hf : PySem.W.isFn X.K (.ref f) = true) (F : FnOk X.prog X.w X.K X.mg X.base (L2.CX X.prog X.w) k f fd ps (spD X.K 1 φ)) (hb : KBd X.K fd ps 1 [] (fun us _ => us)) (hr : Room (k + 1) X.A) :
    CallR X (.builtin "repr") (rA X.K E (dOneN (dTxtO C φ))) := by
  intro pins s σ H xs us Q I r h
  obtain ⟨s0, ds, kk, xx, rfl, ok, hx, ⟨u, rfl, ⟨fs, hi⟩, q⟩, p, px⟩ := h
  obtain ⟨v, rfl, rv⟩ := hx.one
  obtain ⟨a, da, fvs, rfl, ha, rf⟩ := ins_of ok rv hi
  obtain ⟨u', rfl, ru⟩ := vals1 r
  obtain rfl : u' = Value.ref a := ru
  obtain ⟨_, O, _⟩ := ins_get I.hok ha
  obtain ⟨_, J, _⟩ := O.look
  obtain ⟨m, hF⟩ := I.fr
  exact PySem.W.repr_K (by have := hr.un; show X.A.units + 1 < _; omega) hF I.ok.mod.kin J hs hf (txt_run F (Room.in1 hr) I.env0.in1 hb I ok rv q p)
/-- the class of the one argument decides -/
def dSelN (own g : DN) : DN := fun ds M k xx => match ds with
  | [u] => (match insOf u M with
    | some _ => own [u] M k xx
    | none => g [u] M k xx)
  | _ => False
theorem c_sel {fv : Value} {own g : DN} (h1 : CallR X fv (rA X.K E own)) (h2 : CallR X fv (rA X.K E g)) : CallR X fv (rA X.K E (dSelN own g)) := by
  intro pins s σ H xs us Q I r h
  obtain ⟨s0, ds, kk, xx, rfl, ok, hx, q, p, px⟩ := h
  unfold dSelN at q
  split at q
  · split at q
    · exact h1 pins s σ _ xs us Q I r ⟨s0, _, kk, xx, rfl, ok, hx, q, p, px⟩
    · exact h2 pins s σ _ xs us Q I r ⟨s0, _, kk, xx, rfl, ok, hx, q, p, px⟩
  · exact q.elim
end
theorem boot_repr' : bootBuiltins "repr" = some (.builtin "repr") := by decide +kernel
end DL
set_option Elab.async false
set_option linter.all false
set_option maxRecDepth 100000
set_option maxHeartbeats 2000000
namespace DL
open PySem PySem.Spec PyProof.Rows L2
/-- {x}: a text or an int -/
def dFmt (τ : DE) : DE := fun ρ M k x => τ ρ M (fun u M1 => (∃ y : Str, u = .str y ∧ y.length ≤ sizeLine ∧ k (.str y) M1) ∨ ∃ i : Int, u = .int i ∧ i.natAbs.log2 < 1920 ∧ k (.str (toString i)) M1) x
def dJs : List DE → Str → DEnv → Mm → DK → DX → Prop
  | [], acc, _, M, k, _ => k (.str acc) M
  | τ :: τs, acc, ρ, M, k, x => τ ρ M (fun u M1 => ∃ y : Str, u = .str y ∧ (acc ++ y).length ≤ sizeLine ∧ dJs τs (acc ++ y) ρ M1 k x) x
def dJoin' (τs : List DE) : DE := fun ρ M k x => dJs τs Str.empty ρ M k x
section
variable {X : Cx} {E : XK} {e : Expr} {τ : DE} {pos : Pos} {C f : Addr} {fd : FuncData} {ps : List Str} {φ : Ct} {k : Nat}
theorem d_fmt (he : DP X E e τ) : DP X E (.FormattedValue e (-1) none pos) (dFmt τ) := pe_mono (pe_fmt he) fun σ H Q h => by
  obtain ⟨ρ, s, k, x, rfl, er, q, p, px⟩ := h
  refine ⟨ρ, s, _, x, rfl, er, q, fun u s1 q1 st1 ok1 v1 r1 => ?_, px⟩
  rcases q1 with ⟨y, rfl, hz, q1⟩ | ⟨i, rfl, hz, q1⟩
  · cases r1
    exact .inl ⟨y, rfl, hz, p _ s1 q1 st1 ok1 _ .str⟩
  · cases r1
    exact .inr ⟨i, rfl, hz, p _ s1 q1 st1 ok1 _ .str⟩
inductive DPJ (X : Cx) (E : XK) : List Expr → List DE → Prop where
  | nil : DPJ X E [] []
  | cons {e : Expr} {τ : DE} {es : List Expr} {τs : List DE} (h : DP X E e τ) (r : DPJ X E es τs) : DPJ X E (e :: es) (τ :: τs)
theorem j_nil : DPJ X E [] [] := .nil
theorem j_cons {es : List Expr} {τs : List DE} (h : DP X E e τ) (r : DPJ X E es τs) : DPJ X E (e :: es) (τ :: τs) := .cons h r
theorem dpj {es : List Expr} {τs : List DE} (h : DPJ X E es τs) : PJ X es (τs.map (up X.K E)) := by
  induction h with
  | nil => exact .nil
  | cons h r ih => exact .cons h ih
theorem js_up {K : PySem.W.Frag} : ∀ (τs : List DE) (acc : Str) (σ : L2.St) (ρ : DEnv) (s : Sta) (k : DK) (x : DX) (Q : VK), ER K s σ ρ → dJs τs acc ρ s.M k x → Post K s k Q → PostX K E s x → tJs (τs.map (up K E)) acc σ s.H fun out H1 => Q (.str out) H1
  | [], acc, σ, ρ, s, k, x, Q, er, q, p, px => p _ s q (Step.refl s) er.ok _ .str
  | τ :: τs, acc, σ, ρ, s, k, x, Q, er, q, p, px => by
    refine ⟨ρ, s, _, x, rfl, er, q, fun u s1 q1 st1 ok1 v1 r1 => ?_, px⟩
    obtain ⟨y, rfl, hz, q1⟩ := q1
    cases r1
    exact ⟨y, rfl, hz, js_up τs (acc ++ y) σ ρ s1 k x Q (er.step st1 ok1) q1 (p.step st1) (px.step st1)⟩
theorem d_joined {v1 v2 : Expr} {rest : List Expr} {τs : List DE} (h : DPJ X E (v1 :: v2 :: rest) τs) : DP X E (.JoinedStr (v1 :: v2 :: rest) pos) (dJoin' τs) := pe_mono (pe_joined (dpj h)) fun σ H Q h => by
  obtain ⟨ρ, s, k, x, rfl, er, q, p, px⟩ := h
  exact js_up τs Str.empty σ ρ s k x Q er q p px
end
end DL
set_option Elab.async false
set_option linter.all false
set_option maxRecDepth 100000
set_option maxHeartbeats 2000000
namespace DL
open PySem PySem.Spec PyProof.Rows L2
end DL
set_option Elab.async false
set_option linter.all false
set_option maxRecDepth 100000
set_option maxHeartbeats 2000000
namespace DL
open PySem PySem.Spec PyProof.Rows L2
end DL
set_option Elab.async false
set_option linter.all false
set_option maxRecDepth 100000
set_option maxHeartbeats 2000000
namespace DX
open PySem PySem.SeqAt
open AutoSeq1 (wpAny_loadPart')
open MeetsSeq MeetsSeq2 MeetsSeq3 SeqRoads2
section
variable {prog : Program} {w : World} {A : Around} {R : Result → Shared → Prop}
/-- items asked one behind the other -/
def EqRun (prog : Program) (w : World) (A : Around) (E : Value → Shared → Prop) (Q : Bool → Shared → Prop) : List (Value × Value) → Shared → Prop
  | [], s => Q true s
  | p :: r, s => wpAny (model prog w) A (eqBool p.1 p.2) (fun b s' => (b = false ∧ Q false s') ∨ (b = true ∧ EqRun prog w A E Q r s')) E s
/-- lists are read anew at each turn -/
def IsL (h : Heap) (l : Addr) (items : Array Value) : Prop := ∃ (dd : Option Addr) (sl : Array (Option Value)) (n : Nat), h.get? l = some { cls := .type "list", dict := dd, data := .seq items n, slots := sl }
/-- both lists have N items -/
def Two (l b : Addr) (N : Nat) (s : Shared) : Prop := ∃ items items2, IsL s.heap l items ∧ IsL s.heap b items2 ∧ items.size = N ∧ items2.size = N
def LRun (prog : Program) (w : World) (A : Around) (E : Value → Shared → Prop) (Q : Bool → Shared → Prop) (l b : Addr) (N : Nat) : Nat → Nat → Shared → Prop
  | 0, _, s => Two l b N s ∧ Q true s
  | k + 1, i, s => ∃ items items2, IsL s.heap l items ∧ IsL s.heap b items2 ∧ items.size = N ∧ items2.size = N ∧ ∀ (h1 : i < items.size) (h2 : i < items2.size),
      wpAny (model prog w) A (eqBool items[i] items2[i]) (fun r s' => (r = false ∧ Two l b N s' ∧ Q false s') ∨ (r = true ∧ LRun prog w A E Q l b N k (i + 1) s')) E s
theorem LRun.imp {E E' : Value → Shared → Prop} {Q Q' : Bool → Shared → Prop} {l b : Addr} {N : Nat} (hq : ∀ b s, Q b s → Q' b s) (he : ∀ e s, E e s → E' e s) : ∀ {k i : Nat} {s : Shared}, LRun prog w A E Q l b N k i s → LRun prog w A E' Q' l b N k i s
  | 0, _, s, h => ⟨h.1, hq _ _ h.2⟩
  | k + 1, i, s, ⟨its, jts, a1, a2, a3, a4, h⟩ => ⟨its, jts, a1, a2, a3, a4, fun h1 h2 => wpAny_mono (h h1 h2) (fun b s' z => z.elim (fun z => .inl ⟨z.1, z.2.1, hq _ _ z.2.2⟩) (fun z => .inr ⟨z.1, LRun.imp hq he z.2⟩)) he⟩
end
end DX
set_option Elab.async false
set_option linter.all false
set_option maxRecDepth 100000
set_option maxHeartbeats 2000000
namespace DL
open PySem PySem.Spec PyProof.Rows L2
mutual
/-- data without changing parts -/
def solid : D → Bool
  | .non => true
  | .bl _ => true
  | .int _ => true
  | .str _ => true
  | .lst ds => solids ds
  | .tup ds => solids ds
  | .obj _ fs => solidF fs
  | _ => false
def solids : List D → Bool
  | [] => true
  | d :: ds => solid d && solids ds
def solidF : List (Str × D) → Bool
  | [] => true
  | (_, d) :: ds => solid d && solidF ds
end
section
variable {X : Cx} {pins : List (Addr × Obj)} {σ : L2.St} {s : Shared}
theorem not_lt {H : Hp} {a : Addr} {xs ys : List V} (I : Inv X pins σ H s) (h : SqL X.K H a xs) (h' : SqT X.K H a ys) : False := by
  obtain ⟨its, _, ⟨o, n, e, c, _⟩, _⟩ := I.list h
  obtain ⟨its', _, ⟨o', e', c', _⟩, _⟩ := I.tuple h'
  rw [e] at e'
  cases e'
  rw [c] at c'
  injection c' with z
  exact absurd z (by decide)
theorem not_ot {H : Hp} {a C dx : Addr} {fvs : List (Str × V)} {ys : List V} (I : Inv X pins σ H s) (h : H a = some (.ins C dx fvs)) (h' : SqT X.K H a ys) : False := by
  obtain ⟨its', _, ⟨o', e', c', _⟩, _⟩ := I.tuple h'
  obtain ⟨_, O, _⟩ := ins_get I.hok h
  obtain ⟨_, J, _⟩ := O.look
  obtain ⟨j1, j2, _⟩ := J
  rw [e'] at j1
  cases j1
  rw [c'] at j2
  cases j2
mutual
theorem Rep.inj {H G : Hp} (I : Inv X pins σ H s) (sub : Same G H) : ∀ {d d' : D} {v : V}, Rep X.K G v d → Rep X.K G v d' → solid d = true → solid d' = true → d = d'
  | .non, _, _, h, h', _, _ => by cases h; cases h'; rfl
  | .bl _, _, _, h, h', _, _ => by cases h; cases h'; rfl
  | .int _, _, _, h, h', _, _ => by cases h; cases h'; rfl
  | .str _, _, _, h, h', _, _ => by cases h; cases h'; rfl
  | .lst ds, d', _, h, h', z, z' => by
    cases h with
    | lst g r =>
      cases h' with
      | lst g' r' =>
        rw [g] at g'
        cases g'
        rw [Reps.inj I sub r r' z z']
      | tup g' r' => exact (not_lt I (.inl (.of (sub _ _ g))) (Same.seqT sub g')).elim
      | obj g' r' => rw [g] at g'; cases g'
      | cel => cases z'
      | scr => cases z'
      | exc => cases z'
      | lam => cases z'
      | err => cases z'
      | dic => cases z'
  | .tup ds, d', _, h, h', z, z' => by
    cases h with
    | tup g r =>
      cases h' with
      | tup g' r' =>
        cases I.tuple_inj (Same.seqT sub g) (Same.seqT sub g')
        rw [Reps.inj I sub r r' z z']
      | lst g' r' => exact (not_lt I (.inl (.of (sub _ _ g'))) (Same.seqT sub g)).elim
      | obj g' r' => exact (not_ot I (sub _ _ g') (Same.seqT sub g)).elim
      | cel => cases z'
      | scr => cases z'
      | exc => cases z'
      | lam => cases z'
      | err => cases z'
      | dic => cases z'
  | .obj C fs, d', _, h, h', z, z' => by
    cases h with
    | obj g r =>
      cases h' with
      | obj g' r' =>
        rw [g] at g'
        cases g'
        rw [FRep.inj I sub r r' z z']
      | lst g' r' => rw [g] at g'; cases g'
      | tup g' r' => exact (not_ot I (sub _ _ g) (Same.seqT sub g')).elim
      | cel => cases z'
      | scr => cases z'
      | exc => cases z'
      | lam => cases z'
      | err => cases z'
      | dic => cases z'
  | .cel _, _, _, _, _, z, _ => by cases z
  | .scr _, _, _, _, _, z, _ => by cases z
  | .exc _ _ _, _, _, _, _, z, _ => by cases z
  | .lam _ _ _ _ _, _, _, _, _, z, _ => by cases z
  | .err _ _, _, _, _, _, z, _ => by cases z
  | .dic _ _, _, _, _, _, z, _ => by cases z
theorem Reps.inj {H G : Hp} (I : Inv X pins σ H s) (sub : Same G H) : ∀ {ds es : List D} {vs : List V}, Reps X.K G vs ds → Reps X.K G vs es → solids ds = true → solids es = true → ds = es
  | [], _, _, .nil, .nil, _, _ => rfl
  | d :: ds, _, _, .cons h r, .cons h' r', z, z' => by
    simp only [solids, Bool.and_eq_true] at z z'
    rw [Rep.inj I sub h h' z.1 z'.1, Reps.inj I sub r r' z.2 z'.2]
theorem FRep.inj {H G : Hp} (I : Inv X pins σ H s) (sub : Same G H) : ∀ {ds es : List (Str × D)} {vs : List (Str × V)}, FRep X.K G vs ds → FRep X.K G vs es → solidF ds = true → solidF es = true → ds = es
  | [], _, _, .nil, .nil, _, _ => rfl
  | (f, d) :: ds, _, _, .cons h r, .cons h' r', z, z' => by
    simp only [solidF, Bool.and_eq_true] at z z'
    rw [Rep.inj I sub h h' z.1 z'.1, FRep.inj I sub r r' z.2 z'.2]
end
/-- what is known of the own __eq__ of a class -/
structure OwnEq (P : Program) (w : World) (K : PySem.W.Frag) (mg : Str → Option Value) (base : Heap) (k : Nat) (CS : List Addr) (C : Addr) (φ : Ct) : Prop where
  ex : ∃ f fd ps, PySem.W.findIn K (.ref C) "__eq__" = some (some (.ref f)) ∧ PySem.W.isFn K (.ref f) = true ∧ FnOk P w K mg base (L2.CX P w) k f fd ps (spD K 2 φ) ∧ KBd K fd ps 2 [] (fun us _ => us)
  hB : ∀ u : Kd, PySem.W.subIn K (.type u.nm) (.ref C) = some false
  hC : ∀ C' ∈ CS, ClsI K C' ∧ (C' = C ∨ PySem.W.subIn K (.ref C') (.ref C) = some false)
theorem OwnEq.mono {P : Program} {w : World} {K : PySem.W.Frag} {mg : Str → Option Value} {base : Heap} {k j : Nat} {CS : List Addr} {C : Addr} {φ : Ct} (h : OwnEq P w K mg base k CS C φ) (hk : k ≤ j) : OwnEq P w K mg base j CS C φ := by
  obtain ⟨⟨f, fd, ps, a, b, F, c⟩, d, e⟩ := h
  exact ⟨⟨f, fd, ps, a, b, ⟨F.len, fun A outer s H args us vs Q E hr => F.run A outer s H args us vs Q E (hr.mono hk)⟩, c⟩, d, e⟩
variable {O : Addr → Ct → Prop} {CS : List Addr}
/-- the state behind a comparison -/
def After (X : Cx) (pins : List (Addr × Obj)) (σ : L2.St) (s0 : Sta) (s' : Shared) : Prop := ∃ t : Sta, Step s0 t ∧ Ok X.K t ∧ t.M = s0.M ∧ Inv X pins σ t.H s'
theorem After.refl {s0 : Sta} (ok : Ok X.K s0) (I : Inv X pins σ s0.H s) : After X pins σ s0 s := ⟨s0, .refl s0, ok, rfl, I⟩
theorem After.step {s0 s1 : Sta} {s' : Shared} (st : Step s0 s1) (e : s1.M = s0.M) (h : After X pins σ s1 s') : After X pins σ s0 s' := by
  obtain ⟨t, st2, ok, hM, I⟩ := h
  exact ⟨t, st.trans st2, ok, hM.trans e, I⟩
theorem EqRun.imp {prog : Program} {w : World} {A : Around} {E : Value → Shared → Prop} {Q Q' : Bool → Shared → Prop} (hq : ∀ b s, Q b s → Q' b s) : ∀ {l : List (Value × Value)} {s : Shared}, DX.EqRun prog w A E Q l s → DX.EqRun prog w A E Q' l s
  | [], s, h => hq _ _ h
  | p :: r, s, h => wpAny_mono h (fun b s' z => z.elim (fun z => .inl ⟨z.1, hq _ _ z.2⟩) (fun z => .inr ⟨z.1, EqRun.imp hq z.2⟩)) fun _ _ x => x
end
end DL
set_option Elab.async false
set_option linter.all false
set_option maxRecDepth 100000
set_option maxHeartbeats 2000000
namespace DL
open PySem PySem.Spec PyProof.Rows L2
end DL
set_option Elab.async false
set_option linter.all false
set_option maxRecDepth 100000
set_option maxHeartbeats 2000000
namespace DL
open PySem PySem.Spec PyProof.Rows L2
end DL
set_option Elab.async false
set_option linter.all false
set_option maxRecDepth 100000
set_option maxHeartbeats 2000000
namespace DL
open PySem PySem.Spec PyProof.Rows L2
end DL
set_option Elab.async false
set_option linter.all false
set_option maxRecDepth 100000
set_option maxHeartbeats 2000000
namespace DL
open PySem PySem.Spec PyProof.Rows L2
end DL
set_option Elab.async false
set_option linter.all false
set_option maxRecDepth 100000
set_option maxHeartbeats 2000000
namespace DL
open PySem PySem.Spec PyProof.Rows L2
end DL
set_option Elab.async false
set_option linter.all false
set_option maxRecDepth 100000
set_option maxHeartbeats 2000000
namespace DL
open PySem PySem.Spec PyProof.Rows L2
end DL
set_option Elab.async false
set_option linter.all false
set_option maxRecDepth 100000
set_option maxHeartbeats 2000000
namespace DL
open PySem PySem.Spec PyProof.Rows L2
section
variable {X : Cx} {E : XK}
inductive LtD : D → D → PyData → PyData → Prop where
  | mk {x y : D} {p q : PyData} (h1 : toP x = some p) (h2 : toP y = some q) (h3 : SeqAt.shaped p = true) (h4 : SeqAt.shaped q = true) (h5 : PySem.W.alike p q = true) (h6 : p ≠ .none) : LtD x y p q
def dLtD : D2 := fun x y M k _ => ∃ p q, LtD x y p q ∧ k (.bl (PySem.W.dataLt p q)) M
theorem o_ltD (hu : X.A.units + 64 < cLine) : OpR X (compareOp .Lt) (r2 X.K E dLtD) := by
  intro pins s σ H x y u v Q I rx ry h
  obtain ⟨s0, dx, dy, k, xx, rfl, ok, hx, hy, ⟨p, q, ⟨h1, h2, h3, h4, h5, h6⟩, qq⟩, pp, px⟩ := h
  obtain ⟨as, r1⟩ := Dp.reads I _ _ _ (Dp.same ok.sub (dp_of hx h1)) rx
  obtain ⟨bs, r2⟩ := Dp.reads I _ _ _ (Dp.same ok.sub (dp_of hy h2)) ry
  exact PySem.W.lt_data r1 r2 h5 h6 (SeqAt.room_of_shaped h3 hu) ⟨.bl _, s0.H, I, rfl, pp.now qq ok .bl⟩
def dInD (neg : Bool) : D2 := fun x y M k _ => ∃ d ds, toP x = some d ∧ toP y = some (.list ds) ∧ SeqAt.shaped d = true ∧ SeqAt.shaped (.list ds) = true ∧ k (.bl (if neg then !ds.any fun z => PyData.eqv z d else ds.any fun z => PyData.eqv z d)) M
theorem o_inD (hu : X.A.units + 65 < cLine) : OpR X (compareOp .In) (r2 X.K E (dInD false)) := by
  intro pins s σ H x y u v Q I rx ry h
  obtain ⟨s0, dx, dy, k, xx, rfl, ok, hx, hy, ⟨d, ds, h1, h2, h3, h4, qq⟩, pp, px⟩ := h
  exact op_inD hu pins s σ _ _ _ u v Q I rx ry ⟨_, _, Dp.same ok.sub (dp_of hx h1), Dp.same ok.sub (dp_of hy h2), h3, h4, pp.now qq ok .bl⟩
theorem units65 {k : Nat} {A : Around} (r : Room k A) : A.units + 65 < cLine := by have := r.un; omega
end
end DL
set_option Elab.async false
set_option linter.all false
set_option maxRecDepth 100000
set_option maxHeartbeats 2000000
namespace DL
open PySem PySem.Spec PyProof.Rows L2
def enums (ds : List D) : List D := ds.mapIdx fun i d => .tup [.int (i : Nat), d]
theorem enums_length (ds : List D) : (enums ds).length = ds.length := List.length_mapIdx
theorem enums_get {ds : List D} {i : Nat} {d : D} (h : (enums ds)[i]? = some d) : ∃ e, ds[i]? = some e ∧ d = .tup [.int (i : Nat), e] := by
  unfold enums at h
  rw [List.getElem?_mapIdx] at h
  cases e : ds[i]? with
  | none => rw [e] at h; cases h
  | some v => rw [e] at h; cases h; exact ⟨v, rfl, rfl⟩
theorem itD_enum {K : PySem.W.Frag} {s : Sta} {l : Addr} {vs : List V} {ds : List D} (h : s.G l = some (.lst vs)) (r : Reps K s.G vs ds) : ItD K s (Ite K l) (enums ds) := by
  have at1 : ∀ t, Step s t → Ok K t → SqL K t.H l vs := fun t st ok => SqL.of (ok.sub _ _ (st.same _ _ h))
  have hl := r.length
  refine ⟨fun i t st ok hi => ?_, fun t st ok => ⟨vs, at1 t st ok, ?_⟩, fun i t x H' st ok y d hd => ?_⟩
  · rw [enums_length] at hi
    exact ⟨vs, vs[i]'(by omega), at1 t st ok, by simp⟩
  · rw [enums_length]; omega
  · obtain ⟨d1, e1, rfl⟩ := enums_get hd
    obtain ⟨T, x1, rfl, hT, rfl, y1⟩ := y
    obtain ⟨v1, w1, p1⟩ := r.get e1
    have q1 := y1 vs (at1 t st ok)
    rw [w1] at q1
    cases q1
    exact yld_pair ok hT .int (p1.same st.same)
end DL
set_option Elab.async false
set_option linter.all false
set_option maxRecDepth 100000
set_option maxHeartbeats 2000000
namespace ENT
open PySem PySem.Spec PyProof.Rows L2
open Sem (wp)
set_option maxHeartbeats 1000000 in
theorem meets_newT (t : Addr) (items : Array Value) :
    Meets (Builtin.«enumerate.__new__» ⟨[.type "enumerate", .ref t], []⟩) (fun _ R s => s.heap.IsTuple t items ∧
      R (.ok (.ret (.ref (s.heap.push { cls := .type "tuple_iterator", data := .fields #[.ref t, .int 0 0] }).objs.size)))
        { s with heap := (s.heap.push { cls := .type "tuple_iterator", data := .fields #[.ref t, .int 0 0] }).push { cls := .type "enumerate", data := .fields #[.none, .bool false, .ref s.heap.objs.size, rawInt 0, .none, .none] } }) :=
  .of_wp fun prog w A R s h => by
    obtain ⟨hp, g, d, tk, os⟩ := s; obtain ⟨h1, h⟩ := h
    have hsub := sub_enumerate
    have q1 : ∀ {A' : Around} {E : Value → Shared → Prop} {Q : Value → Shared → Prop}, Q (.ref hp.objs.size) ⟨hp.push { cls := .type "tuple_iterator", data := .fields #[.ref t, .int 0 0] }, g, d, tk, os⟩ → wpAny (model prog w) A' (pyIter (.ref t)) Q E ⟨hp, g, d, tk, os⟩ :=
      fun q => (begins_tuple t items).iter prog w _ _ ⟨hp, g, d, tk, os⟩ _ h1 q
    wp_walk using q1
    refine wpAny_stack_any fun st => wpAny_pure ?_
    split
    · rename_i c _ _ _ _ _
      cases (c == Value.type "enumerate")
      · wp_walk using q1
        exact ⟨_, rfl, h⟩
      · wp_walk using q1
        exact ⟨_, rfl, h⟩
    · wp_walk using q1
      exact ⟨_, rfl, h⟩
theorem call_T {prog : Program} {w : World} {A : Around} {E : Value → Shared → Prop} {s : Shared} {l : Addr} {items : Array Value} {Q : Value → Shared → Prop} (hL : s.heap.IsTuple l items)
    (h : ∀ h', IsEnum h' (s.heap.objs.size + 1) s.heap.objs.size 0 .none → h'.IsTupleIter s.heap.objs.size l 0 → h'.objs.size = s.heap.objs.size + 2 →
      (∀ b o, s.heap.get? b = some o → h'.get? b = some o) → Q (.ref (s.heap.objs.size + 1)) { s with heap := h' }) :
    wpAny (model prog w) A (call (.type "enumerate") [.ref l]) Q E s := by
  refine callType_new F.called_enumerate (by decide) (F.typeCall_enumerate_1 _) (F.newCall_enumerate_1 _) (fun obj => F.args_object_init_2 obj _) F.entry_enumerate_new
    (meets_newT l items) ⟨hL, ?_⟩
  have hz : (s.heap.push { cls := .type "tuple_iterator", data := .fields #[.ref l, .int 0 0] }).objs.size = s.heap.objs.size + 1 := Heap.size_push ..
  show _ ∧ _
  rw [hz]
  have he : IsEnum ((s.heap.push { cls := .type "tuple_iterator", data := .fields #[.ref l, .int 0 0] }).push
      { cls := .type "enumerate", data := .fields #[.none, .bool false, .ref s.heap.objs.size, rawInt 0, .none, .none] }) (s.heap.objs.size + 1) s.heap.objs.size 0 .none := by
    have := Heap.get?_push_size (s.heap.push { cls := .type "tuple_iterator", data := .fields #[.ref l, .int 0 0] })
      (o := { cls := .type "enumerate", data := .fields #[.none, .bool false, .ref s.heap.objs.size, rawInt 0, .none, .none] }) rfl
    rw [hz] at this; exact this
  refine ⟨⟨_, he, rfl⟩, h _ he ⟨_, Heap.get?_push_of_some _ (Heap.get?_push_size _ rfl), rfl, rfl⟩ (by rw [Heap.size_push, hz]) fun b o x => Heap.get?_push_of_some _ (Heap.get?_push_of_some _ x)⟩
def ItT (K : PySem.W.Frag) (a : Addr) : It :=
  ⟨fun i H => ∃ (xs : List V) (x : V), SqT K H a xs ∧ xs[i]? = some x, fun i H v H' => ∃ T x, v = .ref T ∧ H T = none ∧ H' = upd H T (.tup [.int (i : Nat), x]) ∧ ∀ xs, SqT K H a xs → xs[i]? = some x, fun i H => ∃ xs : List V, SqT K H a xs ∧ xs.length ≤ i⟩
theorem turn_T {P : Program} {w : World} {K : PySem.W.Frag} {elts : List Expr} {kk : Nat} {tpos : Pos} (a e it : Addr) :
    Turn P w K (.Tuple elts kk tpos) (ItT K a) [e, it] e (fun i h => (∃ old, IsEnum h e it ((i : Nat) : Int) old) ∧ h.IsTupleIter it a i ∧ e ≠ it) where
  mem := by simp
  obj := fun i h st b hb => by
    obtain ⟨⟨old, he⟩, ⟨o, ho, hc, hd⟩, _⟩ := st
    have e' : b = e ∨ b = it := by simpa using hb
    rcases e' with z | z
    · rw [z]; exact ⟨_, he, fun v q => nomatch q⟩
    · rw [z]; exact ⟨o, ho, fun v q => by rw [hd] at q; cases q⟩
  keep := fun i h h' st k => let ⟨⟨old, he⟩, hi, hne⟩ := st; ⟨⟨old, k e (by simp) _ he⟩, hi.at fun o q => k it (by simp) o q, hne⟩
  item := by
    intro X hP hw hK hc i pins s σ H E I hf st hg
    subst hP hw hK
    obtain ⟨⟨old, he⟩, hit, hne⟩ := st
    obtain ⟨xs, x, hq, hx⟩ := hg
    obtain ⟨its, rv, p, hz⟩ := I.tuple hq
    obtain ⟨u, hu, ru⟩ := rv.get hx
    have hel : e < s.heap.objs.size := Heap.lt_size he
    have hil : it < s.heap.objs.size := by obtain ⟨_, q, _⟩ := hit; exact Heap.lt_size q
    have hti : s.heap.IsTuple a its.toArray := p
    have tne : a ≠ it := fun z => by
      obtain ⟨o, e1, c1, _⟩ := hti
      obtain ⟨o', e2, c2, _⟩ := hit
      rw [z, e2] at e1
      cases e1
      rw [c1] at c2
      injection c2 with c3
      exact absurd c3 (by decide)
    have tne2 : a ≠ e := fun z => by
      obtain ⟨o, e1, c1, _⟩ := hti
      have e2 : s.heap.get? e = some _ := he
      rw [z, e2] at e1
      cases e1
      injection c1 with c3
      exact absurd c3 (by decide)
    have hlt : i < its.toArray.size := by
      have := List.getElem?_eq_some_iff.mp hu
      simpa using this.1
    refine wpAny_pyNext_enum_itemD (Draws.tuple (A := X.A.in1) (I.ok.hd hc) it a tne its.toArray) he ⟨hit, hti⟩ hlt hne (by simp [hne, Ne.symm tne2]) fun x' h' tk hP ho hs' hT hsz hk => ?_
    have ex : x' = u := by
      have h1 : its[i]? = some x' := by simpa using hP
      rw [hu] at h1
      exact (Option.some.inj h1).symm
    subst ex
    refine ⟨_, rfl, wpAny_letOwnedTupleGo_enum (s := { s with heap := h', toks := tk + 1 }) ho fun h'' he' sb => ?_⟩
    have hT2 : h''.get? s.heap.objs.size = some { cls := .type "tuple", data := .seq #[.int i tk, x'] } := (sb.2 _ (Nat.ne_of_gt hel)).trans hT
    have new : ObjOk X.prog X.w (upd H s.heap.objs.size (.tup [.int (i : Nat), x])) h'' s.heap.objs.size (.tup [.int (i : Nat), x]) :=
      ⟨by show 2 ≤ sizeLine; decide, [.int i tk, x'], .cons ⟨_, rfl⟩ (.cons ru .nil), ⟨_, hT2, rfl, _, rfl⟩⟩
    have I1 : Inv X pins σ (upd H s.heap.objs.size (.tup [.int (i : Nat), x])) { s with heap := h'', toks := tk + 1 } :=
      I.turnedNew (ch := [e, it]) (fun b ob hb q => (sb.2 b (fun z => hb (by simp [z]))).trans (hk b ob (fun z => hb (by simp [z])) (fun z => hb (by simp [z])) q)) hf (Nat.le_refl _) new
    refine ⟨.ref s.heap.objs.size, _, I1, rfl, ⟨_, x, rfl, I.hok.fresh (Nat.le_refl _), rfl, fun ys hy => by rw [I.tuple_inj hy hq]; exact hx⟩, ⟨⟨x', ?_⟩, hs'.1.at fun o q => (sb.2 it (Ne.symm hne)).trans q, hne⟩, fun b hb => ?_⟩
    · have e1 : ((i + 1 : Nat) : Int) = (i : Int) + 1 := by omega
      rw [e1]; exact he'
    · have hb' : b < s.heap.objs.size := by
        have e' : b = e ∨ b = it := by simpa using hb
        rcases e' with z | z
        · rw [z]; exact hel
        · rw [z]; exact hil
      rw [upd_ne (Nat.ne_of_lt hb')]
      exact (hf b hb).1
  done := by
    intro X hP hw hK hc i pins s σ H E I hf st hg
    subst hP hw hK
    obtain ⟨⟨old, he⟩, hit, hne⟩ := st
    obtain ⟨xs, hq, hx⟩ := hg
    obtain ⟨its, rv, p, hz⟩ := I.tuple hq
    obtain ⟨f0, f1, f2, f3, f4, f5⟩ := hf it (by simp)
    have hl := rv.length
    have hti : s.heap.IsTuple a its.toArray := p
    unfold pyNext
    have hT : s.TypeIs (.ref e) "enumerate" := ⟨_, he, rfl⟩
    refine wpAny_bind (wpAny_attempt (wpAny_callSpecial?_slot (name := Str.ofString "__next__") hT F.slot_enumerate_next
      (wpAny_call_entry F.slot_enumerate_next hT F.entry_enumerate_next ?_ (F.args_enumerate_next_1 _))))
    show wpAny _ _ (field (.ref e) 2 >>= _) _ _ _
    refine wpAny_bind (wpAny_field he rfl (x := .ref it) rfl ?_)
    refine wpAny_bind (wpAny_nextOf_tuple_end (A := X.A.in1) (I.ok.hd hc) hit hti (by simp; omega) fun h' x he' hx' => ?_)
    obtain ⟨o, ho, hc'⟩ := hx'
    refine wpAny_bind (wpAny_isInstance (T := "StopIteration") (b := true) ⟨o, ho, hc'⟩ isSubtype_stop ?_)
    exact wpAny_pure ⟨rfl, I.turned (t' := s.toks) (fun b o hb q => he' b o hb q) f0 f1 f3 f4 f5⟩
  self := fun A i s Q E st h => let ⟨⟨_, he⟩, _⟩ := st; wpAny_pyIter_enum he h
end ENT
namespace DL
open PySem PySem.Spec PyProof.Rows L2
def dEnumA : List D → DKA → Mm → Prop
  | [.lst ds], k, M => k (enums ds) M
  | [.tup ds], k, M => k (enums ds) M
  | _, _, _ => False
def iEnumA (α : DA) : DI := fun ρ M k x => α ρ M (fun us M1 => dEnumA us k M1) x
theorem itD_enumT {K : PySem.W.Frag} {s : Sta} {l : Addr} {vs : List V} {ds : List D} (h : SqT K s.G l vs) (r : Reps K s.G vs ds) : ItD K s (ENT.ItT K l) (enums ds) := by
  have at1 : ∀ t, Step s t → Ok K t → SqT K t.H l vs := fun t st ok => Same.seqT ok.sub (Same.seqT st.same h)
  have hl := r.length
  refine ⟨fun i t st ok hi => ?_, fun t st ok => ⟨vs, at1 t st ok, ?_⟩, fun i t x H' st ok y d hd => ?_⟩
  · rw [enums_length] at hi
    exact ⟨vs, vs[i]'(by omega), at1 t st ok, by simp⟩
  · rw [enums_length]; omega
  · obtain ⟨d1, e1, rfl⟩ := enums_get hd
    obtain ⟨T, x1, rfl, hT, rfl, y1⟩ := y
    obtain ⟨v1, w1, p1⟩ := r.get e1
    have q1 := y1 vs (at1 t st ok)
    rw [w1] at q1
    cases q1
    exact yld_pair ok hT .int (p1.same st.same)
section
variable {X : Cx} {E : XK} {a : Expr} {pos : Pos} {αa : DA}
theorem i_enumA {p tpos : Pos} {elts : List Expr} {kk : Nat} (hg : Gl X "enumerate") (hm : X.mg "enumerate" = none) (ha : DPA X E [a] αa) (hs : starEach [a] X.env = [(false, eval a X.env)] := by rfl) :
    DPI X E (.Tuple elts kk tpos) (.Call (.Name "enumerate" p) [a] [] pos) (iEnumA αa) := by
  refine ⟨fun pins s σ H R I h => ?_⟩
  obtain ⟨ρ, s0, k, x, rfl, er, q, px, p⟩ := h
  refine Call_ (ld_blt I hg hm boot_enumerate (PyProof.Rows.callWith_type1 (thn (ha.run pos pins s σ s0.H (fun vs H1 => ∃ ds t, t.H = H1 ∧ Step s0 t ∧ Ok X.K t ∧ Reps X.K t.G vs ds ∧ dEnumA ds k t.M) I ⟨ρ, s0, _, x, rfl, er, q, fun ds t q1 st1 ok1 vs r1 => ⟨ds, t, rfl, st1, ok1, r1, q1⟩, px⟩) fun us s1 ⟨vs, H1, I1, r1, ds, t, eH, st, ok, rd, q1⟩ => ?_) hs rfl))
  subst eH
  have fin : ∀ b : Addr, b = s1.heap.objs.size + 1 ∨ b = s1.heap.objs.size → s1.heap.objs.size ≤ b := fun b e' => by
    rcases e' with z | z
    · rw [z]; exact Nat.le_add_right _ _
    · rw [z]; exact Nat.le_refl _
  unfold dEnumA at q1
  split at q1
  · obtain ⟨v, rfl, rv0⟩ := rd.one
    obtain ⟨l, ws, rfl, hl, rs⟩ := rv0.lst_of
    cases r1 with
    | cons r rr =>
      cases rr
      cases r
      obtain ⟨its, rv, p', hz⟩ := I1.list (SqL.of (ok.sub _ _ hl))
      refine call_enumerate_list p'.isList fun h' he hit hsz hk => wpAny_pyIter_enum he ?_
      have I2 : Inv X pins σ t.H { s1 with heap := h' } := I1.kept (t' := s1.toks) hk
      refine ⟨s1.heap.objs.size + 1, [s1.heap.objs.size + 1, s1.heap.objs.size], _, _, t.H, rfl, I2, turn_enum l (s1.heap.objs.size + 1) s1.heap.objs.size, ⟨⟨.none, he⟩, hit, Nat.succ_ne_self _⟩, fun b hb => ?_, p _ t q1 st ok _ (itD_enum hl rs)⟩
      have hle := fin b (by simpa using hb)
      exact I1.fpOk hle (I1.hok.fresh hle)
  · obtain ⟨v, rfl, rv0⟩ := rd.one
    obtain ⟨l, ws, rfl, hl, rs⟩ := rv0.tup_of
    cases r1 with
    | cons r rr =>
      cases rr
      cases r
      obtain ⟨its, rv, p', hz⟩ := I1.tuple (Same.seqT ok.sub hl)
      refine ENT.call_T p' fun h' he hit hsz hk => wpAny_pyIter_enum he ?_
      have I2 : Inv X pins σ t.H { s1 with heap := h' } := I1.kept (t' := s1.toks) hk
      refine ⟨s1.heap.objs.size + 1, [s1.heap.objs.size + 1, s1.heap.objs.size], _, _, t.H, rfl, I2, ENT.turn_T l (s1.heap.objs.size + 1) s1.heap.objs.size, ⟨⟨.none, he⟩, hit, Nat.succ_ne_self _⟩, fun b hb => ?_, p _ t q1 st ok _ (itD_enumT hl rs)⟩
      have hle := fin b (by simpa using hb)
      exact I1.fpOk hle (I1.hok.fresh hle)
  · exact q1.elim
end
end DL
set_option Elab.async false
set_option linter.all false
set_option maxRecDepth 100000
set_option maxHeartbeats 2000000
namespace DL
open PySem PySem.Spec PyProof.Rows L2
/-- the inner turns -/
def InK (g1 : DG) (θ1 : DT) (ε : DE) (vs1 : List Nat) (ρ1 : DEnv) (ds1 : List D) (M : Mm) (acc : List D) (Z : List D → Mm → Prop) : Prop :=
  ∃ I1 : Nat → List D → Mm → Prop, I1 0 acc M ∧ (∀ (i : Nat) (d1 : D) (acc1 : List D) (M5 : Mm), ds1[i]? = some d1 → I1 i acc1 M5 → g1 d1 (wipeD ρ1 vs1) M5 fun ρ2 M6 => θ1 ρ2 M6 (fun b M7 => if b = true then ε ρ2 M7 (fun y M8 => acc1.length < sizeLine ∧ I1 (i + 1) (acc1 ++ [y]) M8) (fun _ _ _ => False) else I1 (i + 1) acc1 M7) (fun _ _ _ => False)) ∧
    ∀ acc1 M5, I1 ds1.length acc1 M5 → Z acc1 M5
inductive Lc2K (g : DG) (θ : DT) (ι1 : DI) (g1 : DG) (θ1 : DT) (ε : DE) (vs vs1 : List Nat) (ρ : DEnv) (ds : List D) (M0 : Mm) (k : DK) : Prop where
  | of (I : Nat → List D → Mm → Prop) (i0 : I 0 [] M0)
      (turn : ∀ (j : Nat) (d : D) (acc : List D) (M : Mm), ds[j]? = some d → I j acc M → g d (wipeD ρ vs) M fun ρ1 M2 => θ ρ1 M2 (fun b M3 => if b = true then ι1 ρ1 M3 (fun ds1 M4 => InK g1 θ1 ε vs1 ρ1 ds1 M4 acc (I (j + 1))) (fun _ _ _ => False) else I (j + 1) acc M3) (fun _ _ _ => False))
      (fin : ∀ acc M, I ds.length acc M → k (.lst acc) M)
  | no (h : False)
def dLc2 (ι : DI) (g : DG) (θ : DT) (ι1 : DI) (g1 : DG) (θ1 : DT) (ε : DE) (vs vs1 : List Nat) : DE := fun ρ M k x => ι ρ M (fun ds M1 => Lc2K g θ ι1 g1 θ1 ε vs vs1 ρ ds M1 k) x
theorem ER.sm {K : PySem.W.Frag} {s t : Sta} {σ : L2.St} {ρ : DEnv} (e : ER K s σ ρ) (sm : Same s.G t.G) (k : Ok K t) : ER K t σ ρ := ⟨k, e.len, fun i d h => let ⟨v, h1, h2⟩ := e.at_ i d h; ⟨v, h1, h2.same sm⟩⟩
/-- J gives the data ds, one by one, wherever what stays in s stays -/
structure ItG (K : PySem.W.Frag) (s : Sta) (J : It) (ds : List D) : Prop where
  go : ∀ (i : Nat) (t : Sta), Same s.G t.G → Ok K t → i < ds.length → J.go i t.H
  stop : ∀ (t : Sta), Same s.G t.G → Ok K t → J.stop ds.length t.H
  yld : ∀ (i : Nat) (t : Sta) (x : V) (H' : Hp), Same s.G t.G → Ok K t → J.yld i t.H x H' → ∀ d, ds[i]? = some d → ∃ u : Sta, u.H = H' ∧ u.M = t.M ∧ Step t u ∧ Ok K u ∧ Rep K u.G x d
def upIG (K : PySem.W.Frag) (E : XK) (ι : DI) : TI := fun σ H R => ∃ ρ s k x, s.H = H ∧ ER K s σ ρ ∧ ι ρ s.M k x ∧ PostX K E s x ∧ ∀ (ds : List D) (t : Sta), k ds t.M → Step s t → Ok K t → ∀ J, ItG K t J ds → R J t.H
theorem itG_list {K : PySem.W.Frag} {s : Sta} {l : Addr} {vs : List V} {ds : List D} (h : s.G l = some (.lst vs)) (r : Reps K s.G vs ds) : ItG K s (Itl K l) ds := by
  have at_ : ∀ t, Same s.G t.G → Ok K t → SqL K t.H l vs := fun t sm ok => SqL.of (ok.sub _ _ (sm _ _ h))
  have hl := r.length
  refine ⟨fun i t st ok hi => ?_, fun t st ok => ⟨vs, at_ t st ok, by omega⟩, fun i t x H' st ok y d hd => ?_⟩
  · exact ⟨vs, vs[i]'(by omega), at_ t st ok, by simp [hl ▸ hi]⟩
  · obtain ⟨v, hv, rv⟩ := r.get hd
    have q := y.2 vs (at_ t st ok)
    rw [hv] at q
    cases q
    exact ⟨t, y.1.symm, rfl, Step.refl t, ok, rv.same st⟩
theorem itG_tup {K : PySem.W.Frag} {s : Sta} {l : Addr} {vs : List V} {ds : List D} (h : SqT K s.G l vs) (r : Reps K s.G vs ds) : ItG K s (Itt K l) ds := by
  have at_ : ∀ t, Same s.G t.G → Ok K t → SqT K t.H l vs := fun t st ok => Same.seqT ok.sub (Same.seqT st h)
  have hl := r.length
  refine ⟨fun i t st ok hi => ?_, fun t st ok => ⟨vs, at_ t st ok, by omega⟩, fun i t x H' st ok y d hd => ?_⟩
  · exact ⟨vs, vs[i]'(by omega), at_ t st ok, by simp [hl ▸ hi]⟩
  · obtain ⟨v, hv, rv⟩ := r.get hd
    have q := y.2 vs (at_ t st ok)
    rw [hv] at q
    cases q
    exact ⟨t, y.1.symm, rfl, Step.refl t, ok, rv.same st⟩
/-- a walked list or tuple -/
def dItemsG : D → DKA → Mm → Prop
  | .lst ds, k, M => k ds M
  | .tup ds, k, M => k ds M
  | _, _, _ => False
def iSeqG (τ : DE) : DI := fun ρ M k x => τ ρ M (fun u M1 => dItemsG u k M1) x
section
variable {X : Cx} {E : XK} {e tg : Expr} {τa : DE}
theorem i_seqG (he : DP X E e τa) : PI X tg e (upIG X.K E (iSeqG τa)) := by
  refine ⟨fun pins s σ H R I h => ?_⟩
  obtain ⟨ρ, s0, k, x, rfl, er, q, px, p⟩ := h
  refine thn (he.run pins s σ s0.H (fun v H1 => ∃ d t, t.H = H1 ∧ Step s0 t ∧ Ok X.K t ∧ Rep X.K t.G v d ∧ dItemsG d k t.M) I ⟨ρ, s0, _, x, rfl, er, q, fun d t q1 st1 ok1 v1 r1 => ⟨d, t, rfl, st1, ok1, r1, q1⟩, px⟩) fun v s1 ⟨y, H1, I1, r1, d, t, eH, st, ok, rd, q1⟩ => ?_
  subst eH
  cases rd with
  | lst ha rs =>
    rename_i a vs ds
    cases r1
    have hq : SqL X.K t.H a vs := SqL.of (ok.sub _ _ ha)
    obtain ⟨its, rv, pl, hz⟩ := I1.list hq
    refine wpAny_pyIter_list pl.isList ?_
    refine ⟨s1.heap.objs.size, [s1.heap.objs.size], _, _, t.H, rfl, I1.kept (t' := s1.toks) fun b o e => Heap.get?_push_of_some _ e, turn_list a _, ⟨_, Heap.get?_push_size _ rfl, rfl, rfl⟩, fun b hb => ?_, p ds t q1 st ok _ (itG_list ha rs)⟩
    have e : b = s1.heap.objs.size := by simpa using hb
    subst e
    exact I1.fpOk (Nat.le_refl _) (I1.hok.fresh (Nat.le_refl _))
  | tup ha rs =>
    rename_i a vs ds
    cases r1
    have hq : SqT X.K t.H a vs := (Same.seqT ok.sub ha)
    obtain ⟨its, rv, pl, hz⟩ := I1.tuple hq
    refine wpAny_pyIter_tuple (show s1.heap.IsTuple a its.toArray from pl) ?_
    refine ⟨s1.heap.objs.size, [s1.heap.objs.size], _, _, t.H, rfl, I1.kept (t' := s1.toks) fun b o e => Heap.get?_push_of_some _ e, turn_tuple a _, ⟨_, Heap.get?_push_size _ rfl, rfl, rfl⟩, fun b hb => ?_, p ds t q1 st ok _ (itG_tup ha rs)⟩
    have e : b = s1.heap.objs.size := by simpa using hb
    subst e
    exact I1.fpOk (Nat.le_refl _) (I1.hok.fresh (Nat.le_refl _))
  | _ => exact q1.elim
end
theorem up_lc2 {K : PySem.W.Frag} {E : XK} {ι ι1 : DI} {g g1 : TG} {γ γ1 : DG} {θ θ1 : DT} {ε : DE} {vs vs1 : List Nat} {σ : L2.St} {H : Hp} {Q : VK} (gp : GPair K g γ vs) (gp1 : GPair K g1 γ1 vs1) (h : up K E (dLc2 ι γ θ ι1 γ1 θ1 ε vs vs1) σ H Q) :
    tLc2 (upI K E ι) g (upT K E0 θ) (upIG K E0 ι1) g1 (upT K E0 θ1) (up K E0 ε) vs vs1 σ H Q := by
  obtain ⟨ρ, s, k, x, rfl, er, q, p, px⟩ := h
  refine ⟨ρ, s, _, x, rfl, er, q, px, fun ds s1 q1 st1 ok1 J it => ?_⟩
  rcases q1 with ⟨I, i0, turn, fin⟩ | z
  case no => exact z.elim
  intro L hL
  -- the list at L is hidden while it grows
  have inv0 : ∃ (acc : List D) (vs' : List V) (s' : Sta), s'.H = upd s1.H L (.lst []) ∧ Ok K s' ∧ Step s1 s' ∧ s'.G L = none ∧ s'.M L = none ∧ s'.H L = some (.lst vs') ∧ Reps K s'.G vs' acc ∧ I 0 acc s'.M := by
    obtain ⟨k1, st⟩ := ok1.hide (o := .lst []) (Step.refl s1) hL (ok1.freeG hL) (ok1.freeM hL)
    exact ⟨[], [], ⟨_, _, _⟩, rfl, k1, st, ok1.freeG hL, ok1.freeM hL, upd_same, .nil, i0⟩
  refine ⟨fun j m H' => m = ds.length - j ∧ j ≤ ds.length ∧ ∃ (acc : List D) (vs' : List V) (s' : Sta), s'.H = H' ∧ Ok K s' ∧ Step s1 s' ∧ s'.G L = none ∧ s'.M L = none ∧ s'.H L = some (.lst vs') ∧ Reps K s'.G vs' acc ∧ I j acc s'.M,
    ⟨ds.length, rfl, Nat.zero_le _, inv0⟩, ?_⟩
  rintro j m H' ⟨rfl, hj, acc, vs', s', rfl, ok', st', gL, mL, hL', rs, ij⟩
  by_cases hlt : j < ds.length
  · refine .inr ⟨it.go j s' st' ok' hlt, fun H2 => ∃ (acc : List D) (vs' : List V) (s' : Sta), s'.H = H2 ∧ Ok K s' ∧ Step s1 s' ∧ s'.G L = none ∧ s'.M L = none ∧ s'.H L = some (.lst vs') ∧ Reps K s'.G vs' acc ∧ I (j + 1) acc s'.M,
      fun H2 z => ⟨ds.length - (j + 1), by omega, rfl, hlt, z⟩, fun v H2 y => ?_⟩
    obtain ⟨d, hd⟩ : ∃ d, ds[j]? = some d := ⟨ds[j], by simp [hlt]⟩
    obtain ⟨u, rfl, eM, stu, oku, ru⟩ := it.yld j s' v H2 st' ok' y d hd
    have ij' : I j acc u.M := by rw [eM]; exact ij
    obtain ⟨hLu, gLu, mLu⟩ := stu.hid L _ hL' gL mL
    have eru : ER K u (wipe σ vs) (wipeD ρ vs) := (er.step ((st1.trans st').trans stu) oku).wipe vs
    refine gp.run v d _ _ u _ _ eru ru (turn j d acc u.M hd ij') fun ρ3 σ3 q3 er3 w3 => ⟨w3.trans (wipe_wipe σ vs), ?_⟩
    refine ⟨ρ3, u, _, _, rfl, er3, q3, fun b s4 q4 st4 ok4 => ?_, PostX.never⟩
    obtain ⟨hL4, gL4, mL4⟩ := st4.hid L _ hLu gLu mLu
    cases b with
    | true =>
      rw [if_pos rfl] at q4 ⊢
      refine ⟨ρ3, s4, _, _, rfl, er3.step st4 ok4, q4, PostX.never, fun ds1 s5 q5 st5 ok5 J1 it1 => ?_⟩
      obtain ⟨I1, j0, turn1, fin1⟩ := q5
      obtain ⟨hL5, gL5, mL5⟩ := st5.hid L _ hL4 gL4 mL4
      have stS : Step s1 s5 := ((st'.trans stu).trans st4).trans st5
      have er5 : ER K s5 σ3 ρ3 := er3.step (st4.trans st5) ok5
      have sm5 : Same s5.G s5.G := Same.refl _
      refine ⟨fun i m H' => m = ds1.length - i ∧ i ≤ ds1.length ∧ ∃ (acc1 : List D) (ws : List V) (t : Sta), t.H = H' ∧ Ok K t ∧ Step s1 t ∧ Same s5.G t.G ∧ t.G L = none ∧ t.M L = none ∧ t.H L = some (.lst ws) ∧ Reps K t.G ws acc1 ∧ I1 i acc1 t.M,
        ⟨ds1.length, rfl, Nat.zero_le _, acc, vs', s5, rfl, ok5, stS, sm5, gL5, mL5, hL5, rs.same ((stu.trans st4).trans st5).same, j0⟩, ?_⟩
      rintro i m H' ⟨rfl, hi, acc1, ws, t, rfl, okt, stt, smt, gLt, mLt, hLt, rt, it'⟩
      by_cases hlt1 : i < ds1.length
      · refine .inr ⟨it1.go i t smt okt hlt1, fun H2 => ∃ (acc1 : List D) (ws : List V) (t : Sta), t.H = H2 ∧ Ok K t ∧ Step s1 t ∧ Same s5.G t.G ∧ t.G L = none ∧ t.M L = none ∧ t.H L = some (.lst ws) ∧ Reps K t.G ws acc1 ∧ I1 (i + 1) acc1 t.M,
          fun H2 z => ⟨ds1.length - (i + 1), by omega, rfl, hlt1, z⟩, fun v1 H2 y1 => ?_⟩
        obtain ⟨d1, hd1⟩ : ∃ d, ds1[i]? = some d := ⟨ds1[i], by simp [hlt1]⟩
        obtain ⟨u1, rfl, eM1, stu1, oku1, ru1⟩ := it1.yld i t v1 H2 smt okt y1 d1 hd1
        have it'' : I1 i acc1 u1.M := by rw [eM1]; exact it'
        obtain ⟨hLu1, gLu1, mLu1⟩ := stu1.hid L _ hLt gLt mLt
        have eru1 : ER K u1 (wipe σ3 vs1) (wipeD ρ3 vs1) := (er5.sm (smt.trans stu1.same) oku1).wipe vs1
        refine gp1.run v1 d1 _ _ u1 _ _ eru1 ru1 (turn1 i d1 acc1 u1.M hd1 it'') fun ρ6 σ6 q6 er6 w6 => ⟨w6.trans (wipe_wipe σ3 vs1), ?_⟩
        refine ⟨ρ6, u1, _, _, rfl, er6, q6, fun b s7 q7 st7 ok7 => ?_, PostX.never⟩
        obtain ⟨hL7, gL7, mL7⟩ := st7.hid L _ hLu1 gLu1 mLu1
        cases b with
        | true =>
          rw [if_pos rfl] at q7 ⊢
          refine ⟨ρ6, s7, _, _, rfl, er6.step st7 ok7, q7, fun yd s8 q8 st8 ok8 yv ry => ?_, PostX.never⟩
          obtain ⟨hL8, gL8, mL8⟩ := st8.hid L _ hL7 gL7 mL7
          have rs8 : Reps K s8.G ws acc1 := rt.same ((stu1.trans st7).trans st8).same
          refine ⟨ws, hL8, by rw [rs8.length]; exact q8.1, ?_⟩
          have stB : Step s1 s8 := ((stt.trans stu1).trans st7).trans st8
          obtain ⟨k9, st9⟩ := ok8.hide (o := .lst (ws ++ [yv])) stB hL gL8 mL8
          exact ⟨acc1 ++ [yd], ws ++ [yv], ⟨_, _, _⟩, rfl, k9, st9, ((smt.trans stu1.same).trans st7.same).trans st8.same, gL8, mL8, upd_same, rs8.append (.cons ry .nil), q8.2⟩
        | false =>
          rw [if_neg Bool.false_ne_true] at q7 ⊢
          exact ⟨acc1, ws, s7, rfl, ok7, (stt.trans stu1).trans st7, (smt.trans stu1.same).trans st7.same, gL7, mL7, hL7, rt.same (stu1.trans st7).same, q7⟩
      · have ei : i = ds1.length := by omega
        subst ei
        refine .inl ⟨it1.stop t smt okt, acc1, ws, t, rfl, okt, stt, gLt, mLt, hLt, rt, fin1 acc1 t.M it'⟩
    | false =>
      rw [if_neg Bool.false_ne_true] at q4 ⊢
      exact ⟨acc, vs', s4, rfl, ok4, (st'.trans stu).trans st4, gL4, mL4, hL4, rs.same (stu.trans st4).same, q4⟩
  · have ej : j = ds.length := by omega
    subst ej
    refine .inl ⟨it.stop s' st' ok', ?_⟩
    obtain ⟨k6, st6, sm⟩ := ok'.shown st' hL gL mL hL'
    exact p _ ⟨s'.H, upd s'.G L (.lst vs'), s'.M⟩ (fin acc s'.M ij) (st1.trans st6) k6 _ (.lst upd_same (rs.same sm))
section
variable {X : Cx} {E : XK} {elt tg iter tg1 iter1 : Expr} {ifs ifs1 : List Expr} {scope : Scope} {own : List (Str × Nat)} {pos spos py : Pos} {ι ι1 : DI} {g g1 : TG} {γ γ1 : DG} {θ θ1 : DT} {ε : DE} {vs1 : List Nat} {i : Nat} {y : Str}
theorem s_setLc2 (hc : X.calm = true) (hN : X.N.Nodup) (hy : X.N[i]? = some y) (hyl : X.env.scope.names.lookup y = some .local)
    (hsw : swapsWith (.ListComp elt [⟨tg, iter, ifs, 0⟩, ⟨tg1, iter1, ifs1, 0⟩] scope pos) (some (.Name y py)) spos.line X.env = pure true) (hi : DPI X E tg iter ι) (ok : BlkOk X.N X.env.scope scope own) (hv : ∀ i ∈ vs1, i ∈ own.map (·.2)) (gp : GPair X.K g γ (own.map (·.2))) (gp1 : GPair X.K g1 γ1 vs1)
    (hg : ∀ (s : Shared) (H : Hp) (C : Addr) (cl : List (Str × Addr)) (fp : List Addr), PG (X.blk s H scope (compEnvC scope cl C X.env) fp) tg g) (ht : ∀ (s : Shared) (H : Hp) (C : Addr) (cl : List (Str × Addr)) (fp : List Addr), DPTs (X.blk s H scope (compEnvC scope cl C X.env) fp) E0 ifs θ)
    (hi1 : ∀ (s : Shared) (H : Hp) (C : Addr) (cl : List (Str × Addr)) (fp : List Addr), PI (X.blk s H scope (compEnvC scope cl C X.env) fp) tg1 iter1 (upIG X.K E0 ι1))
    (hg1 : ∀ (s : Shared) (H : Hp) (C : Addr) (cl : List (Str × Addr)) (fp : List Addr), PG (X.blk s H scope (compEnvC scope cl C X.env) fp) tg1 g1) (ht1 : ∀ (s : Shared) (H : Hp) (C : Addr) (cl : List (Str × Addr)) (fp : List Addr), DPTs (X.blk s H scope (compEnvC scope cl C X.env) fp) E0 ifs1 θ1)
    (he : ∀ (s : Shared) (H : Hp) (C : Addr) (cl : List (Str × Addr)) (fp : List Addr), DP (X.blk s H scope (compEnvC scope cl C X.env) fp) E0 elt ε) (hs : ∀ x, foldedSetIterable iter X.env x = pure x := by intro _; rfl) (hs1 : ∀ env x, foldedSetIterable iter1 env x = pure x := by intro _ _; rfl) :
    DPS X E (.Assign [.Name y py] (.ListComp elt [⟨tg, iter, ifs, 0⟩, ⟨tg1, iter1, ifs1, 0⟩] scope pos) spos) (dSet i (dLc2 ι γ θ ι1 γ1 θ1 ε (own.map (·.2)) vs1)) :=
  ps_mono (ps_setLc2 (tt := upT X.K E0 θ) (tt1 := upT X.K E0 θ1) (wi1 := upIG X.K E0 ι1) (te := up X.K E0 ε) hc hN hy hyl hsw hi ok hv hg ht hi1 hg1 ht1 he hs hs1) fun D σ H h => by
  obtain ⟨ρ, s, k, x, rfl, er, q, p, px⟩ := h
  refine up_lc2 gp gp1 ⟨ρ, s, _, x, rfl, er, q, fun u s1 q1 st1 ok1 v1 r1 => p.nx _ s1 q1 st1 _ ((er.step st1 ok1).set i r1), px⟩
end
def dMinL : DN := fun ds M k _ => ∃ ns : List Int, ds = [.lst (ns.map .int)] ∧ 0 < ns.length ∧ ∀ m, m ∈ ns → (∀ y, y ∈ ns → m ≤ y) → k (.int m) M
def dMaxL : DN := fun ds M k _ => ∃ ns : List Int, ds = [.lst (ns.map .int)] ∧ 0 < ns.length ∧ ∀ m, m ∈ ns → (∀ y, y ∈ ns → y ≤ m) → k (.int m) M
theorem Reps.intsOf {K : PySem.W.Frag} {G : Hp} : ∀ {vs : List V} {ns : List Int}, Reps K G vs (ns.map D.int) → vs = ns.map V.int
  | _, [], h => by cases h; rfl
  | _, n :: ns, h => by
    cases h with
    | cons h r => rw [h.int_of, Reps.intsOf r]; rfl
section
variable {X : Cx} {E : XK}
theorem c_minL (hc : X.calm = true) : CallR X (.builtin "min") (rA X.K E dMinL) := by
  intro pins s σ H xs us Q I r h
  obtain ⟨s0, ds, k, xx, rfl, ok, hx, ⟨ns, rfl, h0, q⟩, p, px⟩ := h
  obtain ⟨v, rfl, rv⟩ := hx.one
  obtain ⟨l, vs, rfl, hl, rs⟩ := rv.lst_of
  rw [rs.intsOf] at hl
  exact cr_min hc pins s σ _ _ us Q I r ⟨l, ns, rfl, SqL.of (ok.sub _ _ hl), h0, fun m h1 h2 => p.now (q m h1 h2) ok .int⟩
theorem c_maxL (hc : X.calm = true) : CallR X (.builtin "max") (rA X.K E dMaxL) := by
  intro pins s σ H xs us Q I r h
  obtain ⟨s0, ds, k, xx, rfl, ok, hx, ⟨ns, rfl, h0, q⟩, p, px⟩ := h
  obtain ⟨v, rfl, rv⟩ := hx.one
  obtain ⟨l, vs, rfl, hl, rs⟩ := rv.lst_of
  rw [rs.intsOf] at hl
  exact cr_max hc pins s σ _ _ us Q I r ⟨l, ns, rfl, SqL.of (ok.sub _ _ hl), h0, fun m h1 h2 => p.now (q m h1 h2) ok .int⟩
end
theorem boot_max' : bootBuiltins "max" = some (.builtin "max") := by decide +kernel
def dIsiLT (CS : List Addr) : D1 := fun u M k _ => match kdD u M with
  | some (.inl u') => k (.bl (decide (u' = .lst) || decide (u' = .tup))) M
  | some (.inr C) => C ∈ CS ∧ k (.bl false) M
  | none => False
theorem kit_LT (K : PySem.W.Frag) (u : Kd) : PySem.W.kitAny K (.type u.nm) [.type "list", .type "tuple"] = some (decide (u = .lst) || decide (u = .tup)) := by
  have h1 := kit_ty (K := K) (kit_K .lst u (fun z => nomatch z))
  have h2 := kit_ty (K := K) (kit_K .tup u (fun z => nomatch z))
  unfold PySem.W.kitAny
  rw [show (Kd.nm .lst) = "list" from rfl] at h1
  rw [h1]
  unfold PySem.W.kitAny
  rw [show (Kd.nm .tup) = "tuple" from rfl] at h2
  cases u <;> first
    | rfl
    | (rw [h2]; rfl)
theorem d_isiLT {X : Cx} {E : XK} {e : Expr} {p pos p1 p2 p3 : Pos} {kk : Nat} {τa : DE} (CS : List Addr) (hL : ∀ C ∈ CS, ClsI X.K C ∧ PySem.W.kitOne X.K (.ref C) (.type (Kd.nm .lst)) = some false) (hT : ∀ C ∈ CS, ClsI X.K C ∧ PySem.W.kitOne X.K (.ref C) (.type (Kd.nm .tup)) = some false)
    (hg : Gl X "isinstance") (hm : X.mg "isinstance" = none) (hg1 : Gl X "list") (hm1 : X.mg "list" = none) (hg2 : Gl X "tuple") (hm2 : X.mg "tuple" = none) (he : DP X E e τa)
    (hs : starEach [e, .Tuple [.Name "list" p1, .Name "tuple" p2] kk p3] X.env = (false, eval e X.env) :: starEach [.Tuple [.Name "list" p1, .Name "tuple" p2] kk p3] X.env := by rfl) (hs2 : starEach [.Tuple [.Name "list" p1, .Name "tuple" p2] kk p3] X.env = (false, eval (.Tuple [.Name "list" p1, .Name "tuple" p2] kk p3) X.env) :: starEach [] X.env := by rfl)
    (hs3 : starEach [.Name "list" p1, .Name "tuple" p2] X.env = (false, eval (.Name "list" p1) X.env) :: starEach [.Name "tuple" p2] X.env := by rfl) (hs4 : starEach [.Name "tuple" p2] X.env = (false, eval (.Name "tuple" p2) X.env) :: starEach [] X.env := by rfl)
    (hpl : (backTo pos (starEach [.Tuple [.Name "list" p1, .Name "tuple" p2] kk p3] X.env)).any (·.1) = false := by rfl) :
    DP X E (.Call (.Name "isinstance" p) [e, .Tuple [.Name "list" p1, .Name "tuple" p2] kk p3] [] pos) (dUn (dIsiLT CS) τa) :=
  pe_mono (pe_callB call_isiT hg hm (by decide +kernel) (pa_cons he (pa_cons (pe_tup (pa_cons (pe_bltn (v := .ty "list") hg1 hm1 (by decide +kernel) rfl (by decide) (by decide)) (pa_cons (pe_bltn (v := .ty "tuple") hg2 hm2 (by decide +kernel) rfl (by decide) (by decide)) pa_nil hs4) hs3)) pa_nil hs2) hs) (by decide) (by decide) hs hpl) fun σ H Q h => by
    obtain ⟨ρ, s, k, xx, rfl, er, q, pp, px⟩ := h
    refine ⟨ρ, s, _, xx, rfl, er, q, fun u s1 q1 st1 ok1 v1 r1 => ?_, px⟩
    refine ⟨Nat.le_of_ble_eq_true rfl, fun tp htp => ?_⟩
    obtain ⟨ok2, st2⟩ := ok1.new (o := .tup [.ty "list", .ty "tuple"]) htp
    have st : Step s _ := st1.trans st2
    have r2 := r1.same st2.same
    obtain ⟨t1, t2⟩ := tyX_of ok2 r2
    have cv : Paired ClsV [V.ty "list", V.ty "tuple"] [Value.type "list", Value.type "tuple"] := .cons (.ty _) (.cons (.ty _) .nil)
    change dIsiLT CS u s1.M k xx at q1
    unfold dIsiLT at q1
    split at q1
    · rename_i u' hu
      exact ⟨v1, tp, _, .type u'.nm, _, _, rfl, upd_same, cv, t1 u' hu, kit_LT X.K u', pp _ ⟨upd s1.H tp (.tup [.ty "list", .ty "tuple"]), upd s1.G tp (.tup [.ty "list", .ty "tuple"]), s1.M⟩ q1 st ok2 _ .bl⟩
    · rename_i C hu
      obtain ⟨c1, c2⟩ := hL C q1.1
      obtain ⟨_, c3⟩ := hT C q1.1
      refine ⟨v1, tp, _, .ref C, _, false, rfl, upd_same, cv, t2 C hu c1, ?_, pp _ ⟨upd s1.H tp (.tup [.ty "list", .ty "tuple"]), upd s1.G tp (.tup [.ty "list", .ty "tuple"]), s1.M⟩ q1.2 st ok2 _ .bl⟩
      have c2' : PySem.W.kitOne X.K (.ref C) (.type "list") = some false := c2
      have c3' : PySem.W.kitOne X.K (.ref C) (.type "tuple") = some false := c3
      unfold PySem.W.kitAny
      rw [c2']
      unfold PySem.W.kitAny
      rw [c3']
      rfl
    · exact q1.elim
def dMax2 : DN
  | [.int i, .int j], M, k, _ => k (.int (if j > i then j else i)) M
  | _, _, _, _ => False
theorem c_max2 {X : Cx} {E : XK} (hc : X.calm = true) : CallR X (.builtin "max") (rA X.K E dMax2) := by
  intro pins s σ H xs us Q I r h
  obtain ⟨s0, ds, k, xx, rfl, ok, hx, q, p, px⟩ := h
  unfold dMax2 at q
  split at q
  · obtain ⟨v, w, rfl, rv, rw'⟩ := hx.two
    cases rv; cases rw'
    exact call_max2 hc pins s σ _ _ us Q I r ⟨_, _, rfl, p.now q ok .int⟩
  · exact q.elim
/-- a, b, .. = a list of that length -/
def gLstD (n : Nat) (g : DGs) : DG := fun d ρ M k => ∃ ds, d = .lst ds ∧ ds.length = n ∧ g ds ρ M k
theorem g_lst {X : Cx} {pos : Pos} {es : List Expr} {k : Nat} {g : DGs} {n : Nat} (hc : X.calm = true) (h : DPGs X es g) (hn : (assignEach es X.env).length = n := by rfl) (hst : (assignEach es X.env).findIdx? (·.1) = none := by rfl) : DPG X (.Tuple es k pos) (gLstD n g) :=
  pg_mono (pg_unl hc h hn hst) fun v σ H Q hh => by
    obtain ⟨d, ρ, s, k, rfl, er, r, ⟨ds, rfl, h1, q⟩, p⟩ := hh
    obtain ⟨a, vs, rfl, ha, rs⟩ := r.lst_of
    exact ⟨a, vs, rfl, SqL.of (er.ok.sub _ _ ha), by rw [rs.length]; exact h1, ds, ρ, s, k, rfl, er, rs, q, p⟩
end DL
set_option Elab.async false
set_option linter.all false
set_option maxRecDepth 100000
set_option maxHeartbeats 2000000
namespace XG
open PySem PySem.Spec PyProof.Rows L2 PySem.W XI
section
variable {X : Cx} {CX : CXT} {k n : Nat} {fI C : Addr} {fd : FuncData} {ps : List Str} {x : Str} {p pos : Pos} {e : Expr} {es : List Expr} {t : TA} {fl : List V → List (Str × V)} {B nw ini : String} {tl : List Value}
theorem mk_err {pins : List (Addr × Obj)} {σ : L2.St} {H1 : Hp} {s1 : Shared} {Q : XK} {us : List Value} {vs : List V} (BS : Bas B nw ini tl) (T : OexB X.K nw tl C) (iC : findIn X.K (.ref C) "__init__" = some (some (.ref fI))) (tI : typeIn X.K (.ref fI) = some (.type "function"))
    (F1 : FnOk X.prog X.w X.K X.mg X.base CX k fI fd ps (spX C n fl)) (hr : Room (k + 1) X.A) (hb : KBn X.K fd ps (n + 1) [] (fun us ws => us ++ ws) (fun vs zs => vs ++ zs)) (hx : Passes CX X (fun _ _ _ => False)) (hn : n ≤ 1000)
    (I1 : Inv X pins σ H1 s1) (r : Vals vs us) (l1 : vs.length = n)
    (h : ∀ a dx, H1 a = none → H1 dx = none → dx ≠ a → Q (.ref C) (some dx) (upd H1 dx (.xd (fl vs)))) :
    wpAny (model X.prog X.w) X.A (call (.ref C) us []) (MkP X pins σ Q) X.xe s1 := by
  obtain ⟨nm, q, N, bs, bm, sn, sub, ab, col, dd, k0, k1, k2, k3, k5, hC, hbm⟩ := T.cls
  obtain ⟨hp, g, dr, tk, os⟩ := s1
  have hsz : hp.objs.size ≤ hp.objs.size + 1 := Nat.le_succ _
  have hnn : H1 (hp.objs.size + 1) = none := I1.hok.fresh hsz
  have kk : ∀ b o, hp.get? b = some o → ((hp.push (kdv_tup us)).push (HandSPX.excO C hp.objs.size)).get? b = some o := fun b o e => Heap.get?_push_of_some _ (Heap.get?_push_of_some _ e)
  have hget : ((hp.push (kdv_tup us)).push (HandSPX.excO C hp.objs.size)).get? (hp.objs.size + 1) = some (HandSPX.excO C hp.objs.size) := by heap_get
  have I2 : Inv X pins σ (upd H1 (hp.objs.size + 1) (exo (hp.objs.size + 1) C none)) ⟨(hp.push (kdv_tup us)).push (HandSPX.excO C hp.objs.size), g, dr, tk, os⟩ :=
    I1.laid (t' := tk) (a := hp.objs.size + 1) (o := exo (hp.objs.size + 1) C none) (h' := (hp.push (kdv_tup us)).push (HandSPX.excO C hp.objs.size)) kk hsz (exo_ok hget)
  have hq : spX C n fl (.ref (hp.objs.size + 1) :: vs) (upd H1 (hp.objs.size + 1) (exo (hp.objs.size + 1) C none)) (fun v H2 => v = .non ∧ ∃ d fs, H2 (hp.objs.size + 1) = some (exo (hp.objs.size + 1) C (some d)) ∧ H2 d = some (exd d fs) ∧ H1 d = none ∧ Q (.ref C) (some d) (upd (del H2 (hp.objs.size + 1)) d (.xd fs))) (fun _ _ _ => False) := by
    refine ⟨_, vs, rfl, l1, upd_same, fun dx h1 h2 => ⟨rfl, dx, fl vs, upd_same, by rw [upd_ne h2, upd_same], ?_, ?_⟩⟩
    · rw [upd_ne h2] at h1; exact h1
    · rw [upd_ne h2] at h1
      have e : upd (del (upd (upd (upd H1 (hp.objs.size + 1) (exo (hp.objs.size + 1) C none)) dx (exd dx (fl vs))) (hp.objs.size + 1) (exo (hp.objs.size + 1) C (some dx))) (hp.objs.size + 1)) dx (.xd (fl vs)) = upd H1 dx (.xd (fl vs)) := by
        funext b
        by_cases e1 : b = dx
        · rw [e1, upd_same, upd_same]
        · rw [upd_ne e1, upd_ne e1]
          by_cases e2 : b = hp.objs.size + 1
          · rw [e2, del_same, hnn]
          · rw [del_ne e2, upd_ne e2, upd_ne e1, upd_ne e2]
      rw [e]
      exact h _ dx hnn h1 h2
  have r1 : Vals (V.ref (hp.objs.size + 1) :: vs) (Value.ref (hp.objs.size + 1) :: us) := .cons rfl r
  have r2 := hb.rel r1 (.nil : Vals [] [])
  simp only [List.append_nil] at r2
  have n1 : (Value.ref (hp.objs.size + 1) :: us).length = n + 1 := by rw [List.length_cons, ← r.length, l1]
  have hus : us.length ≤ sizeLine := by
    rw [← Paired.length r, l1, sizeLine_eq]
    omega
  have hb2 := hb.to ⟨(hp.push (kdv_tup us)).push (HandSPX.excO C hp.objs.size), g, dr, tk, os⟩ (Value.ref (hp.objs.size + 1) :: us) [] I2.kIn n1 rfl
  simp only [List.append_nil] at hb2
  refine wpAny_call (callK BS.fx (fun Y => excTail_contains Y bm hbm) (I1.kIn _ _ hC) (looks_findIn I1.kIn iC) (fun self => bind_fn I1.kIn self tI) hus
    (codeAny_mono (F1.run _ X.stack _ _ ⟨Value.ref (hp.objs.size + 1) :: us, []⟩ (Value.ref (hp.objs.size + 1) :: us) _ _ (fun _ _ _ => False) (hr.make C us []) (I2.env0.make C us []) hb2 r2 hq) fun r s' hq' => ?_))
  cases r with
  | error er => exact hx pins σ _ _ er s' I2 hq'
  | ok fl =>
    cases fl with
    | ret u =>
      obtain ⟨v, H2, os2, bare2, un2, hok2, rv, ev, d, fs, ea, ed, hd1, q2⟩ := hq'
      subst ev
      obtain ⟨h2, g2, d2, t2, os'⟩ := s'
      exact ⟨rv, mk_end (raises_own T.exC T.tyC) I1 hsz kk un2 hok2 os2 bare2 ea ed hd1 q2⟩
    | next => exact False.elim hq'
    | brk => exact False.elim hq'
    | cont => exact False.elim hq'
def tMkE (C : Addr) (n : Nat) (fl : List V → List (Str × V)) (t : TA) : L2.St → Hp → XK → Prop := fun σ H Q => t σ H fun vs H1 => vs.length = n ∧ ∀ a dx, H1 a = none → H1 dx = none → dx ≠ a → Q (.ref C) (some dx) (upd H1 dx (.xd (fl vs)))
theorem pmk_err (BS : Bas B nw ini tl) (T : OexB X.K nw tl C) (iC : findIn X.K (.ref C) "__init__" = some (some (.ref fI))) (tI : typeIn X.K (.ref fI) = some (.type "function"))
    (F1 : FnOk X.prog X.w X.K X.mg X.base CX k fI fd ps (spX C n fl)) (hr : Room (k + 1) X.A) (hb : KBn X.K fd ps (n + 1) [] (fun us ws => us ++ ws) (fun vs zs => vs ++ zs)) (hx : Passes CX X (fun _ _ _ => False)) (hn : n ≤ 1000) (hg : Gl X x) (hm : X.mg x = some (.ref C)) (ha : PA X (e :: es) t)
    (hdb : (x == ("__debug__" : Str)) = false := by decide) (he : starEach (e :: es) X.env = (false, eval e X.env) :: starEach es X.env := by rfl) (hpl : (backTo pos (starEach es X.env)).any (·.1) = false := by rfl) :
    PMk X (.Call (.Name x p) (e :: es) [] pos) (tMkE C n fl t) := by
  intro pins s σ H Q I h
  refine wpAny_Call_Name_kw (ld_glob I hg hm ?_ hdb)
  refine PySem.W.callWith_K (h₀ := X.base) I.ok.mod.kin T.kC (thn (ha.run pos pins s σ H _ I h) fun us s1 ⟨vs, H1, I1, r, l1, q⟩ => ⟨I1.kIn, ?_⟩) he hpl
  exact mk_err BS T iC tI F1 hr hb hx hn I1 r l1 q
theorem pmk_err0 (BS : Bas B nw ini tl) (T : OexB X.K nw tl C) (iC : findIn X.K (.ref C) "__init__" = some (some (.ref fI))) (tI : typeIn X.K (.ref fI) = some (.type "function"))
    (F1 : FnOk X.prog X.w X.K X.mg X.base CX k fI fd ps (spX C 0 fl)) (hr : Room (k + 1) X.A) (hb : KBn X.K fd ps (0 + 1) [] (fun us ws => us ++ ws) (fun vs zs => vs ++ zs)) (hx : Passes CX X (fun _ _ _ => False)) (hg : Gl X x) (hm : X.mg x = some (.ref C))
    (hdb : (x == ("__debug__" : Str)) = false := by decide) : PMk X (.Call (.Name x p) [] [] pos) (tMkE C 0 fl tNil) := by
  intro pins s σ H Q I h
  refine wpAny_Call_Name_kw (ld_glob I hg hm ?_ hdb)
  exact PySem.W.callWith_K0 I.kIn T.kC (mk_err (us := []) (vs := []) BS T iC tI F1 hr hb hx (by decide) I .nil rfl h.2)
end
end XG
namespace DL
open PySem PySem.Spec PyProof.Rows L2
section
variable {X : Cx} {E : XK} {e : Expr} {es : List Expr} {αa : DA} {x : Str} {C : Addr} {n : Nat} {fl : List V → List (Str × V)} {flD : List D → List (Str × D)} {p pos pos' : Pos}
theorem s_raiseE (R : ErrF X.prog X.w X.K X.mg X.base x C n [] fl) (hfl : ∀ {G : Hp} {vs : List V} {ds : List D}, Reps X.K G vs ds → ds.length = n → FRep X.K G (fl vs) (flD ds)) (hc : X.calm = true) (tk : Takes X (fun cls d _ H' => E cls d H')) (hr : Room 2 X.A) (hn : n ≤ 1000)
    (hg : Gl X x) (ha : DPA X E (e :: es) αa) (hdb : (x == ("__debug__" : Str)) = false := by decide) (he : starEach (e :: es) X.env = (false, eval e X.env) :: starEach es X.env := by rfl) (hpl : (backTo pos (starEach es X.env)).any (·.1) = false := by rfl) :
    DPS X E (.Raise (some (.Call (.Name x p) (e :: es) [] pos)) none pos') (dRaise C n flD αa) := by
  obtain ⟨B, nw, ini, tl, fI, fd, ps, BS, T, iC, tI, hb, F1⟩ := R.ex
  refine ps_mono (ps_raise hc tk (XG.pmk_err BS T iC tI F1 hr hb passes_no hn hg R.m ha hdb he hpl)) fun D σ H h => ?_
  obtain ⟨ρ, s, kk, xx, rfl, er, q, pp, px⟩ := h
  refine ⟨ρ, s, _, xx, rfl, er, q, fun ds s1 q1 st1 ok1 vs r1 => ?_, px⟩
  obtain ⟨hl, q1⟩ := q1
  exact ⟨r1.length.trans hl, fun a dx ha hdx hne => post_exc px er.ok st1 ok1 q1 hdx (hfl r1 hl)⟩
theorem s_raiseE0 (R : ErrF X.prog X.w X.K X.mg X.base x C 0 [] fl) (hfl : ∀ {G : Hp} {vs : List V} {ds : List D}, Reps X.K G vs ds → ds.length = 0 → FRep X.K G (fl vs) (flD ds)) (hc : X.calm = true) (tk : Takes X (fun cls d _ H' => E cls d H')) (hr : Room 2 X.A)
    (hg : Gl X x) (hdb : (x == ("__debug__" : Str)) = false := by decide) :
    DPS X E (.Raise (some (.Call (.Name x p) [] [] pos)) none pos') (dRaise C 0 flD dNil) := by
  obtain ⟨B, nw, ini, tl, fI, fd, ps, BS, T, iC, tI, hb, F1⟩ := R.ex
  refine ps_mono (ps_raise hc tk (XG.pmk_err0 BS T iC tI F1 hr hb passes_no hg R.m hdb)) fun D σ H h => ?_
  obtain ⟨ρ, s, kk, xx, rfl, er, q, pp, px⟩ := h
  exact ⟨rfl, fun a dx ha hdx hne => post_exc px er.ok (Step.refl s) er.ok q.2 hdx (hfl (vs := []) (ds := []) .nil rfl)⟩
end
end DL
set_option Elab.async false
set_option linter.all false
set_option maxRecDepth 100000
set_option maxHeartbeats 2000000
namespace DL
open PySem PySem.Spec PyProof.Rows L2
/-- entries with places: keys, where they stand, values -/
abbrev KAV := List (NestedKey × Addr × V)
def atV (kvs : KAV) (k : NestedKey) : Option V := (kvs.find? fun x => decide (x.1 = k)).map (·.2.2)
def putV (kvs : KAV) (k : NestedKey) (b : Addr) (v : V) : KAV := if (atV kvs k).isSome then kvs.map (fun x => if x.1 = k then (x.1, x.2.1, v) else x) else kvs ++ [(k, b, v)]
def dGet (es : List (NestedKey × D)) (k : NestedKey) : Option D := (es.find? fun x => decide (x.1 = k)).map (·.2)
def dPut (es : List (NestedKey × D)) (k : NestedKey) (d : D) : List (NestedKey × D) := if (dGet es k).isSome then es.map (fun x => if x.1 = k then (x.1, d) else x) else es ++ [(k, d)]
theorem dGet_cons (k j : NestedKey) (d : D) (es : List (NestedKey × D)) : dGet ((j, d) :: es) k = if j = k then some d else dGet es k := by
  unfold dGet
  rw [List.find?_cons]
  by_cases h : j = k
  · rw [if_pos h]; simp [h]
  · rw [if_neg h]; simp [h]
abbrev TV : KAV → List (NestedKey × Addr × Value) → Prop := Paired (fun (p : NestedKey × Addr × V) (q : NestedKey × Addr × Value) => p.1 = q.1 ∧ p.2.1 = q.2.1 ∧ RelV p.2.2 q.2.2)
theorem TV.val {kvs : KAV} {xs : List (NestedKey × Addr × Value)} (r : TV kvs xs) (k : NestedKey) : (atV kvs k = none ∧ atKey xs k = none) ∨ ∃ b v u, atV kvs k = some v ∧ atKey xs k = some (b, u) ∧ RelV v u := by
  induction r with
  | nil => exact .inl ⟨rfl, rfl⟩
  | @cons p q ps qs h t ih =>
    obtain ⟨h1, h2, h3⟩ := h
    by_cases e : p.1 = k
    · refine .inr ⟨q.2.1, p.2.2, q.2.2, ?_, ?_, h3⟩
      · simp [atV, List.find?_cons, e]
      · have e' : q.1 = k := h1.symm.trans e
        simp [atKey, List.find?_cons, e']
    · have e' : ¬ q.1 = k := fun z => e (h1.trans z)
      have a1 : atV (p :: ps) k = atV ps k := by simp [atV, List.find?_cons, e]
      have a2 : atKey (q :: qs) k = atKey qs k := by simp [atKey, List.find?_cons, e']
      rw [a1, a2]
      exact ih
theorem TV.put {kvs : KAV} {xs : List (NestedKey × Addr × Value)} (r : TV kvs xs) (k : NestedKey) (b : Addr) {v : V} {u : Value} (rv : RelV v u) : TV (putV kvs k b v) (storedH xs k b u) := by
  have rep : ∀ {kvs : KAV} {xs : List (NestedKey × Addr × Value)}, TV kvs xs → TV (kvs.map (fun x => if x.1 = k then (x.1, x.2.1, v) else x)) (xs.map (putAt k u)) := by
    intro kvs xs r
    induction r with
    | nil => exact .nil
    | @cons p q ps qs h t ih =>
      obtain ⟨h1, h2, h3⟩ := h
      rw [List.map_cons, List.map_cons]
      refine .cons ?_ ih
      unfold putAt
      by_cases e : p.1 = k
      · have e' : q.1 = k := h1.symm.trans e
        rw [if_pos e, if_pos e']
        exact ⟨h1, h2, rv⟩
      · have e' : ¬ q.1 = k := fun z => e (h1.trans z)
        rw [if_neg e, if_neg e']
        exact ⟨h1, h2, h3⟩
  unfold putV storedH
  rcases r.val k with ⟨e1, e2⟩ | ⟨c, v', u', e1, e2, _⟩
  · rw [e1, e2, if_neg (by simp), if_neg (by simp)]
    exact Paired.snoc r ⟨rfl, rfl, rv⟩
  · rw [e1, e2, if_pos Option.isSome_some, if_pos Option.isSome_some]
    exact rep r
theorem length_putV (kvs : KAV) (k : NestedKey) (b : Addr) (v : V) : (putV kvs k b v).length ≤ kvs.length + 1 := by
  unfold putV
  split
  · rw [List.length_map]; omega
  · rw [List.length_append]; exact Nat.le_refl _
section
variable {K : PySem.W.Frag} {G : Hp}
theorem DRep.keys : ∀ {vs : KAV} {es : List (NestedKey × D)}, DRep K G vs es → vs.map (·.1) = es.map (·.1)
  | _, _, .nil => rfl
  | _, _, .cons _ _ _ r => by simp [DRep.keys r]
theorem DRep.length {vs : KAV} {es : List (NestedKey × D)} (r : DRep K G vs es) : vs.length = es.length := by
  have h := congrArg List.length r.keys
  simpa using h
theorem DRep.get : ∀ {vs : KAV} {es : List (NestedKey × D)} (k : NestedKey), DRep K G vs es → (dGet es k = none ∧ atV vs k = none) ∨ ∃ d v, dGet es k = some d ∧ atV vs k = some v ∧ Rep K G v d
  | _, _, _, .nil => .inl ⟨rfl, rfl⟩
  | _, _, k, .cons (k := j) (b := b) (v := v) (d := d) (vs := vs) (ds := ds) hz hk h r => by
    rw [dGet_cons]
    by_cases e : j = k
    · rw [if_pos e]
      exact .inr ⟨d, v, rfl, by simp [atV, List.find?_cons, e], h⟩
    · rw [if_neg e]
      have a1 : atV ((j, b, v) :: vs) k = atV vs k := by simp [atV, List.find?_cons, e]
      rw [a1]
      exact DRep.get k r
theorem DRep.put {k : NestedKey} {b : Addr} {v : V} {d : D} (hz : k.depth ≤ 8) (hk : Rep K G (.ref b) (kD k)) (h : Rep K G v d) {vs : KAV} {es : List (NestedKey × D)} (r : DRep K G vs es) : DRep K G (putV vs k b v) (dPut es k d) := by
  have rep : ∀ {vs : KAV} {es : List (NestedKey × D)}, DRep K G vs es → DRep K G (vs.map (fun x => if x.1 = k then (x.1, x.2.1, v) else x)) (es.map (fun x => if x.1 = k then (x.1, d) else x)) := by
    intro vs es r
    induction es generalizing vs with
    | nil => cases r; exact .nil
    | cons e es ih =>
      cases r with
      | @cons j c u d' vs ds hz' hk' h' r' =>
        rw [List.map_cons, List.map_cons]
        show DRep K G ((if j = k then (j, c, v) else (j, c, u)) :: _) ((if j = k then (j, d) else (j, d')) :: _)
        by_cases e : j = k
        · rw [if_pos e, if_pos e]
          exact .cons hz' hk' h (ih r')
        · rw [if_neg e, if_neg e]
          exact .cons hz' hk' h' (ih r')
  have app : ∀ {vs : KAV} {es : List (NestedKey × D)}, DRep K G vs es → DRep K G (vs ++ [(k, b, v)]) (es ++ [(k, d)]) := by
    intro vs es r
    induction es generalizing vs with
    | nil => cases r; exact .cons hz hk h .nil
    | cons e es ih =>
      cases r with
      | cons hz' hk' h' r' => exact .cons hz' hk' h' (ih r')
  unfold putV dPut
  rcases r.get k with ⟨e1, e2⟩ | ⟨d', v', e1, e2, _⟩
  · rw [e1, e2, if_neg (by simp), if_neg (by simp)]
    exact app r
  · rw [e1, e2, if_pos Option.isSome_some, if_pos Option.isSome_some]
    exact rep r
end
section
variable {X : Cx} {pins : List (Addr × Obj)} {σ : L2.St} {H G : Hp} {s : Shared}
mutual
theorem nested_is (I : Inv X pins σ H s) (sub : Same G H) : ∀ (k : NestedKey) (v : V) (u : Value), Rep X.K G v (kD k) → RelV v u → NestedIs s.heap k u
  | .none, _, _, h, r => by cases h; cases r; exact .none
  | .num i, _, _, h, r => by cases h; obtain ⟨t, rfl⟩ := r; exact .int i t
  | .text x, _, _, h, r => by cases h; obtain ⟨t, rfl⟩ := r; exact .text x t
  | .tup ks, v, u, h, r => by
    have h' : Rep X.K G v (.tup (kDs ks)) := by rw [kD] at h; exact h
    obtain ⟨a, vs, rfl, ha, rs⟩ := h'.tup_of
    cases r
    obtain ⟨its, rv, ⟨o, h1, h2, n, h3⟩, hz⟩ := I.tuple (Same.seqT sub ha)
    exact .tup h1 h2 h3 (by simpa using nested_all I sub ks vs its rs rv)
theorem nested_all (I : Inv X pins σ H s) (sub : Same G H) : ∀ (ks : List NestedKey) (vs : List V) (us : List Value), Reps X.K G vs (kDs ks) → Vals vs us → NestedAll s.heap ks us
  | [], _, _, h, r => by
    rw [kDs] at h
    cases h; cases r; exact .nil
  | k :: ks, _, _, h, r => by
    rw [kDs] at h
    cases h with
    | cons h1 h2 =>
      cases r with
      | cons r1 r2 => exact .cons (nested_is I sub k _ _ h1 r1) (nested_all I sub ks _ _ h2 r2)
end
/-- a dict that is held -/
theorem dict_of {a : Addr} {kvs : KAV} {es : List (NestedKey × D)} (I : Inv X pins σ H s) (sub : Same G H) (e : H a = some (DicO X.w a kvs)) (r : DRep X.K G kvs es) :
    ∃ xs, TV kvs xs ∧ kvs.length ≤ sizeLine ∧ (a == sysModules) = false ∧ s.heap.DictOfH (nestedKind X.prog X.w) a xs := by
  obtain ⟨⟨hz, hd, xs, tv, o, eas, ep, h1, h2, h3, h4, h5⟩, _, _⟩ := I.hok a _ e
  refine ⟨xs, tv, hz, hd, o, eas, ep, h1, h2, h3, h4, fun x hx => ?_, h5⟩
  have all : ∀ {kvs : KAV} {es : List (NestedKey × D)} {xs : List (NestedKey × Addr × Value)}, TV kvs xs → DRep X.K G kvs es → ∀ x ∈ xs, (nestedKind X.prog X.w).is s.heap x.1 x.2.1 := by
    intro kvs es xs tv r
    induction tv generalizing es with
    | nil => intro x hx; exact nomatch hx
    | @cons p q ps qs hq t ih =>
      intro x hx
      cases r with
      | cons hz hk h' r' =>
        rcases List.mem_cons.mp hx with e | hx
        · subst e
          obtain ⟨e1, e2, _⟩ := hq
          rw [← e1, ← e2]
          exact ⟨nested_is I sub _ _ _ hk rfl, hz⟩
        · exact ih r' x hx
  exact all tv r x hx
theorem dic_ok {P : Program} {w : World} {H' : Hp} {h' : Heap} {a : Addr} {kvs : KAV} {xs : List (NestedKey × Addr × Value)} (hz : kvs.length ≤ sizeLine) (hd : (a == sysModules) = false) (tv : TV kvs xs) (dd : h'.DictOfH (nestedKind P w) a xs) : ObjOk P w H' h' a (DicO w a kvs) := by
  obtain ⟨o, eas, ep, h1, h2, h3, h4, _, h5⟩ := dd
  refine ⟨⟨hz, hd, xs, tv, o, eas, ep, h1, h2, h3, h4, h5⟩, ⟨o, h1⟩, fun g1 g2 ⟨z1, z2, z3, z4, o', e', p', q1, q2⟩ k => ⟨z1, z2, z3, z4, o', e', p', k _ q1, q2⟩⟩
/-- {} -/
def dNewD (w : World) : DE := fun _ M k _ => ∀ p, M p = none → k (.cel p) (mup M p (.dic p w []))
theorem d_newD {E : XK} {pos : Pos} : DP X E (.Dict [] [] pos) (dNewD X.w) := by
  refine ⟨fun pins s σ H Q I h => ?_⟩
  obtain ⟨ρ, s0, k, x, rfl, er, q, p, px⟩ := h
  have hn := I.hok.fresh (Nat.le_refl s.heap.objs.size)
  have new : ObjOk X.prog X.w (upd s0.H s.heap.objs.size (DicO X.w s.heap.objs.size [])) (s.heap.push { cls := .type "dict", data := .dict #[] }) s.heap.objs.size (DicO X.w s.heap.objs.size []) :=
    dic_ok (Nat.zero_le _) (beq_eq_false_iff_ne.mpr (Ne.symm (Nat.ne_of_lt I.big))) .nil (Heap.DictOfH.new s.heap)
  refine wpAny_Dict_empty ⟨.ref s.heap.objs.size, _, I.laid (a := s.heap.objs.size) (o := DicO X.w s.heap.objs.size []) (t' := s.toks) (fun _ _ q => Heap.get?_push_of_some _ q) (Nat.le_refl _) new, rfl, ?_⟩
  obtain ⟨k1, st1⟩ := er.ok.newM (o := DicO X.w s.heap.objs.size []) (mo := .dic s.heap.objs.size X.w []) hn ⟨[], rfl, .nil⟩
  exact p _ ⟨_, _, _⟩ (q _ (er.ok.freeM hn)) st1 k1 _ .cel
/-- what is a dict -/
def DicIs (u : D) (M : Mm) (w : World) (es : List (NestedKey × D)) : Prop := u = .dic w es ∨ ∃ a, u = .cel a ∧ M a = some (.dic a w es)
theorem dic_of {s0 : Sta} {v : V} {d : D} {w : World} {es : List (NestedKey × D)} (ok : Ok X.K s0) (r : Rep X.K s0.G v d) (h : DicIs d s0.M w es) : ∃ a kvs, v = .ref a ∧ s0.H a = some (DicO w a kvs) ∧ DRep X.K s0.G kvs es := by
  rcases h with rfl | ⟨a, rfl, hm⟩
  · cases r with
    | dic h r => exact ⟨_, _, rfl, ok.sub _ _ h, r⟩
  · obtain ⟨kvs, e, r'⟩ := ok.cells _ _ hm
    exact ⟨a, kvs, r.cel_of, e, r'⟩
theorem TV.isSome {kvs : KAV} {es : List (NestedKey × D)} {xs : List (NestedKey × Addr × Value)} {K : PySem.W.Frag} (tv : TV kvs xs) (r : DRep K G kvs es) (k : NestedKey) : (atKey xs k).isSome = (dGet es k).isSome := by
  rcases tv.val k with ⟨e1, e2⟩ | ⟨b, v, u, e1, e2, _⟩
  · rcases r.get k with ⟨f1, f2⟩ | ⟨d', v', f1, f2, _⟩
    · rw [e2, f1]; rfl
    · rw [e1] at f2; cases f2
  · rcases r.get k with ⟨f1, f2⟩ | ⟨d', v', f1, f2, _⟩
    · rw [e1] at f2; cases f2
    · rw [e2, f1]; rfl
def dInN (w : World) (neg : Bool) : D2 := fun x y M k _ => ∃ ks es, x = .tup (kDs ks) ∧ (NestedKey.tup ks).depth ≤ 8 ∧ DicIs y M w es ∧ k (.bl (neg != (dGet es (.tup ks)).isSome)) M
theorem key_is {s0 : Sta} {v : V} {u : Value} {ks : List NestedKey} (I : Inv X pins σ s0.H s) (ok : Ok X.K s0) (r : Rep X.K s0.G v (.tup (kDs ks))) (ru : RelV v u) (hz : (NestedKey.tup ks).depth ≤ 8) : ∃ b, v = .ref b ∧ u = .ref b ∧ (nestedKind X.prog X.w).is s.heap (.tup ks) b := by
  obtain ⟨b, vs, rfl, hb, rs⟩ := r.tup_of
  cases ru
  refine ⟨b, rfl, rfl, nested_is I ok.sub (.tup ks) (.ref b) _ ?_ rfl, hz⟩
  rw [kD]
  exact r
variable {E : XK}
theorem o_inN (hu : X.A.units + 64 < cLine) : OpR X (compareOp .In) (r2 X.K E (dInN X.w false)) := by
  intro pins s σ H x y u v Q I rx ry h
  obtain ⟨s0, dx, dy, k, xx, rfl, ok, hx, hy, ⟨ks, es, rfl, hz, hd, q⟩, p, px⟩ := h
  obtain ⟨b, rfl, rfl, hk⟩ := key_is I ok hx rx hz
  obtain ⟨a, kvs, rfl, ha, r⟩ := dic_of ok hy hd
  cases ry
  obtain ⟨xs, tv, hl, hne, dd⟩ := dict_of I ok.sub ha r
  refine wpAny_in_heap (knd := nestedKind X.prog X.w) (by show X.A.in1.units + 8 < cLine; rw [Around.in1_units]; omega) hk hne dd ?_
  rw [tv.isSome r]
  exact ⟨.bl _, s0.H, I.tok _, rfl, p.now (by simpa using q) ok .bl⟩
/-- d[k] -/
def dIxN (w : World) : D2 := fun x y M k _ => ∃ ks es d, y = .tup (kDs ks) ∧ (NestedKey.tup ks).depth ≤ 8 ∧ DicIs x M w es ∧ dGet es (.tup ks) = some d ∧ k d M
theorem x_ixN (hu : X.A.units + 64 < cLine) : IxR X (r2 X.K E (dIxN X.w)) := by
  intro value slice pins s σ H x y u v Q I rx ry h hsub
  obtain ⟨s0, dx, dy, k, xx, rfl, ok, hx, hy, ⟨ks, es, d, rfl, hz, hd, hg, q⟩, p, px⟩ := h
  obtain ⟨b, rfl, rfl, hk⟩ := key_is I ok hy ry hz
  obtain ⟨a, kvs, rfl, ha, r⟩ := dic_of ok hx hd
  cases rx
  obtain ⟨xs, tv, hl, hne, dd⟩ := dict_of I ok.sub ha r
  rcases r.get (.tup ks) with ⟨f1, _⟩ | ⟨d', v', f1, f2, rd⟩
  · rw [hg] at f1; cases f1
  rw [hg] at f1
  cases f1
  rcases tv.val (.tup ks) with ⟨e1, _⟩ | ⟨c, v2, u2, e1, e2, rv⟩
  · rw [f2] at e1; cases e1
  rw [f2] at e1
  cases e1
  refine subscriptTail_builtinR (x := u2) dd.typeIs PySem.F.slot_dict_getitem.lookup (wpAny_getItem_heap (Q := fun r s' => r = u2 ∧ EP X pins σ Q r s') (knd := nestedKind X.prog X.w) (by show X.A.in1.units + 8 < cLine; rw [Around.in1_units]; omega) hk dd e2 ⟨rfl, ?_⟩) hsub
  exact ⟨_, s0.H, I.tok _, rv, p.now q ok rd⟩
/-- d[k] = v of a changing dict -/
def rSetN (X : Cx) : TSet := fun o i v H Q => ∃ s0 a kvs es b ks d, s0.H = H ∧ Ok X.K s0 ∧ o = .ref a ∧ H a = some (DicO X.w a kvs) ∧ DRep X.K s0.G kvs es ∧ kvs.length < sizeLine ∧ i = .ref b ∧ Rep X.K s0.G i (.tup (kDs ks)) ∧ (NestedKey.tup ks).depth ≤ 8 ∧ Rep X.K s0.G v d ∧ Q (upd H a (DicO X.w a (putV kvs (.tup ks) b v)))
theorem set_dic (hu : X.A.units + 64 < cLine) : PSet X (rSetN X) := by
  intro pins s σ H o i v ov iv u Q I ro ri rv h
  obtain ⟨s0, a, kvs, es, b, ks, d, rfl, ok, rfl, ha, r, hl, rfl, hi, hz, hv, q⟩ := h
  cases ro
  obtain ⟨b', e1, rfl, hk⟩ := key_is I ok hi ri hz
  cases e1
  obtain ⟨xs, tv, _, hne, dd⟩ := dict_of I ok.sub ha r
  have hxs : xs.length ≤ sizeLine := by rw [← Paired.length tv]; omega
  refine wpAny_setItem_heap (hsz := hxs) (knd := nestedKind X.prog X.w) (by show X.A.in1.units + 8 < cLine; rw [Around.in1_units]; omega) hk dd fun h' dd' hs => ?_
  have hlen : (putV kvs (.tup ks) b v).length ≤ sizeLine := by have := length_putV kvs (.tup ks) b v; omega
  obtain ⟨ob, _, _, hob, _⟩ := id dd'
  exact ⟨_, I.write (x := a) (e := a) (by rw [ha]; exact True.intro) (.inl rfl) (fun c z hc e => (hs.2 c hc).trans e) ⟨ob, hob⟩ (dic_ok hlen hne (tv.put (.tup ks) b rv) dd'), q⟩
def dSetN (w : World) (τo τi τv : DE) : DS := fun k x ρ M => τv ρ M (fun v M1 => τo ρ M1 (fun o M2 => τi ρ M2 (fun i M3 => ∃ a es ks, o = .cel a ∧ M3 a = some (.dic a w es) ∧ es.length < sizeLine ∧ i = .tup (kDs ks) ∧ (NestedKey.tup ks).depth ≤ 8 ∧ k.nx ρ (mup M3 a (.dic a w (dPut es (.tup ks) v)))) x) x) x
theorem s_setN {o i v : Expr} {τo τi τv : DE} {pos pos' : Pos} (hu : X.A.units + 64 < cLine) (hv : DP X E v τv) (ho : DP X E o τo) (hi : DP X E i τi) (hs : swapsWithSole [.Subscript o i pos'] v pos.line X.env = pure false := by rfl) (hw : swappedStores [.Subscript o i pos'] v X.env = pure none := by rfl)
    (h1 : (assignEach [.Subscript o i pos'] X.env).map (·.2) = [assign (.Subscript o i pos') X.env] := by rfl)
    (hasg : ∀ v, assign (.Subscript o i pos') X.env v = (do
      let ov ← holding [v] (eval o X.env)
      let iv ← holding [v, ov] (eval i X.env)
      standAt pos'
      holding [v, ov, iv] (setItem ov iv v)
      release [v, ov, iv] []) := by intro _; rfl) :
    DPS X E (.Assign [.Subscript o i pos'] v pos) (dSetN X.w τo τi τv) := ps_mono (ps_asg hv (pg_sub ho hi (set_dic hu) hasg) hs hw h1) fun D σ H h => by
  obtain ⟨ρ, s, k, x, rfl, er, q, p, px⟩ := h
  refine ⟨ρ, s, _, x, rfl, er, q, fun u s1 q1 st1 ok1 v1 r1 => ?_, px⟩
  refine ⟨ρ, s1, _, x, rfl, er.step st1 ok1, q1, fun w s2 q2 st2 ok2 v2 r2 => ?_, px.step st1⟩
  refine ⟨ρ, s2, _, x, rfl, er.step (st1.trans st2) ok2, q2, fun z s3 q3 st3 ok3 v3 r3 => ?_, px.step (st1.trans st2)⟩
  obtain ⟨a, es, ks, rfl, hm, hl, rfl, hz, q3⟩ := q3
  obtain ⟨kvs, e, rs⟩ := ok3.cells _ _ hm
  have st : Step s s3 := (st1.trans st2).trans st3
  obtain ⟨b, vs, eb, hb, rb⟩ := r3.tup_of
  subst eb
  have r1' := r1.same (st2.trans st3).same
  obtain ⟨k4, st4⟩ := ok3.put (p := a) (o := DicO X.w a (putV kvs (.tup ks) b v1)) (mo := .dic a X.w (dPut es (.tup ks) u)) (by rw [hm]; rfl) ⟨_, rfl, rs.put hz (by rw [kD]; exact r3) r1'⟩
  exact ⟨s3, a, kvs, es, b, ks, u, rfl, ok3, r2.cel_of, e, rs, by rw [rs.length]; exact hl, rfl, r3, hz, r1', p.nx ρ ⟨_, _, _⟩ q3 (st.trans st4) σ (er.step (st.trans st4) k4)⟩
end
end DL
set_option Elab.async false
set_option linter.all false
set_option maxRecDepth 100000
set_option maxHeartbeats 2000000
namespace DL
open PySem PySem.Spec PyProof.Rows L2
theorem FRep.swap {K : PySem.W.Frag} {G : Hp} {f : Str} {d d' : D} (hd : ∀ v, Rep K G v d → Rep K G v d') : ∀ {vs : List (Str × V)} {ds : List (Str × D)}, FRep K G vs ds → ds.lookup f = some d → FRep K G vs (putD f d' ds)
  | _, _, .nil, h => by simp at h
  | _, _, .cons (f := g) (v := v) (d := u) h t, e => by
    rw [List.lookup_cons] at e
    unfold putD
    by_cases hb : g = f
    · subst hb
      rw [if_pos rfl]
      simp only [beq_self_eq_true] at e
      cases e
      exact .cons (hd _ h) t
    · rw [if_neg hb]
      have : (f == g) = false := beq_eq_false_iff_ne.mpr (Ne.symm hb)
      rw [this] at e
      exact .cons h (FRep.swap hd t e)
theorem was_free {K : PySem.W.Frag} {b t : Sta} {q : Addr} (st : Step b t) (ok : Ok K t) (hb : b.M q = none) (hm : (t.M q).isSome = true) : b.H q = none := by
  cases eh : b.H q with
  | none => rfl
  | some o =>
    cases eg : b.G q with
    | none =>
      have z := (st.hid q o eh eg hb).2.2
      rw [z] at hm
      cases hm
    | some u =>
      have z := st.same q u eg
      cases e : t.M q with
      | none => rw [e] at hm; cases hm
      | some mo =>
        rw [ok.apart _ _ e] at z
        cases z
def mkF (C : Addr) (φ : Ct) (gD : List D → List D → List D) (ds zs : List D) (M : Mm) (k : DK) (x : DX) : Prop :=
  ∀ p, M p = none → φ (gD (.cel p :: ds) zs) (mup M p (.ins C [])) (fun d M2 => d = .non ∧ ∃ fs f q w es, M2 p = some (.ins C fs) ∧ fs.lookup f = some (.cel q) ∧ M2 q = some (.dic q w es) ∧ M q = none ∧ q ≠ p ∧ k (.obj C (putD f (.dic w es) fs)) (mdel (mdel M2 q) p)) (fun D fs M2 => x D fs (mdel M2 p))
def dMakeF (C : Addr) (n m : Nat) (φ : Ct) (gD : List D → List D → List D) (α κ : DA) : DE := fun ρ M k x => α ρ M (fun ds M1 => κ ρ M1 (fun zs M2 => ds.length = n ∧ zs.length = m ∧ mkF C φ gD ds zs M2 k x) x) x
section
variable {X : Cx} {CX : CXT} {E : XK} {k n nn : Nat} {f C : Addr} {fd : FuncData} {ps ks : List Str} {φ : Ct} {x m : Str} {p pos apos : Pos} {e o : Expr} {es : List Expr} {kws : List Keyword} {αa ακ : DA} {τo τv : DE} {gD : List D → List D → List D}
theorem mk_spF {K : PySem.W.Frag} {gV : List V → List V → List V} {s0 : Sta} {ds zd : List D} {vs zs : List V} {kk : DK} {xx : DX} {Q : VK}
    (hrep : ∀ {G : Hp} {vs : List V} {us : List D} {zs : List V} {ws : List D}, Reps K G vs us → Reps K G zs ws → us.length = n + 1 → ws.length = ks.length → Reps K G (gV vs zs) (gD us ws))
    (hgl : ∀ us ws : List D, us.length = n + 1 → ws.length = ks.length → (gD us ws).length = nn)
    (ok : Ok K s0) (r1 : Reps K s0.G vs ds) (r2 : Reps K s0.G zs zd) (l1 : ds.length = n) (l2 : zd.length = ks.length) (q : mkF C φ gD ds zd s0.M kk xx) (pp : Post K s0 kk Q) (px : PostX K E s0 xx) :
    ∀ y dx, s0.H y = none → s0.H dx = none → dx ≠ y → spD K nn φ (gV (.ref y :: vs) zs) (upd (upd s0.H dx (.own y)) y (.ins C dx [])) (fun v H3 => v = .non ∧ Q (.ref y) H3) E := by
  intro y dx hy hdx hne
  obtain ⟨oka, sta⟩ := ok.hide (o := .own y) (Step.refl s0) hdx (ok.freeG hdx) (ok.freeM hdx)
  have hy1 : upd s0.H dx (.own y) y = none := by rw [upd_ne (Ne.symm hne)]; exact hy
  obtain ⟨okb, stb⟩ := oka.newM (p := y) (o := .ins C dx []) (mo := .ins C []) hy1 ⟨dx, [], rfl, .nil⟩
  have hym : s0.M y = none := ok.freeM hy
  refine ⟨_, gD (.cel y :: ds) zd, _, _, rfl, okb, hrep (.cons .cel r1) r2 (by rw [List.length_cons, l1]) l2, hgl _ _ (by rw [List.length_cons, l1]) l2, q y hym, ?_, ?_⟩
  · rintro d t ⟨rfl, fs, f, c, w, es, hm, hf, hc, hc0, hcy, q2⟩ st okt v rv
    cases rv
    refine ⟨rfl, ?_⟩
    obtain ⟨dx', fvs, ho, rf⟩ := okt.cells _ _ hm
    obtain ⟨kvs, hoc, rc⟩ := okt.cells _ _ hc
    have st0 : Step s0 t := (sta.trans stb).trans st
    have hch : s0.H c = none := was_free st0 okt hc0 (by rw [hc]; rfl)
    obtain ⟨k1, st1, sm1⟩ := okt.freeze st0 hch hc0 (by rw [hc]; rfl) hoc
    obtain ⟨k2, st2, sm2⟩ := k1.freeze st1 hy hym (by show (mdel t.M c y).isSome = true; rw [mdel_ne (Ne.symm hcy), hm]; rfl) ho
    refine pp _ ⟨_, _, _⟩ q2 st2 k2 _ (.obj upd_same ?_)
    refine FRep.swap (d := .cel c) (fun v hv => ?_) ((rf.same sm1).same sm2) hf
    rw [hv.cel_of]
    refine .dic (kvs := kvs) ?_ ((rc.same sm1).same sm2)
    show upd (upd t.G c _) y _ c = _
    rw [upd_ne hcy]
    exact upd_same
  · intro D fs t h st okt dx' fvs h1 h2 h3 hn h4
    have st0 : Step s0 t := (sta.trans stb).trans st
    obtain ⟨k2, st2⟩ := okt.drop st0 hy hym
    refine px D fs ⟨_, _, _⟩ h st2 k2 dx' fvs h1 h2 ?_ (fun ⟨o, z1, z2, z3⟩ => hn ⟨o, (sta.trans stb).hid dx' o z1 z2 z3⟩) h4
    show mdel t.M y dx' = none
    unfold mdel
    split
    · rfl
    · exact h3
theorem d_makeF (Mk : Mk X.K C f) (F : FnOk X.prog X.w X.K X.mg X.base CX k f fd ps (spD X.K nn φ)) (hr : Room (k + 1) X.A) (hg : Gl X x) (hm : X.mg x = some (.ref C)) (hb : KBd X.K fd ps (n + 1) ks gD) (hgl : ∀ us ws : List D, us.length = n + 1 → ws.length = ks.length → (gD us ws).length = nn) (hx : Passes CX X E)
    (ha : DPA X E (e :: es) αa) (hkw : DPK X E kws ακ) (hall : (backToKw pos (keywordEach kws X.env)).all (·.1.isSome) = true := by rfl) (hks : (backToKw pos (keywordEach kws X.env)).filterMap (·.1) = ks := by rfl)
    (hdb : (x == ("__debug__" : Str)) = false := by decide) (he : starEach (e :: es) X.env = (false, eval e X.env) :: starEach es X.env := by rfl)
    (hpl : ((backTo pos (starEach (e :: es) X.env)).any (·.1) || (backToKw pos (keywordEach kws X.env)).any (·.1.isNone)) = false := by rfl) :
    DP X E (.Call (.Name x p) (e :: es) kws pos) (dMakeF C n ks.length φ gD αa ακ) := by
  obtain ⟨g, gV, hb, hrep⟩ := hb.ex
  refine pe_mono (pe_makeK (n := n) Mk F hr hg hm hb hx ha hkw hall hks hdb he hpl) fun σ H Q h => ?_
  obtain ⟨ρ, s0, kk, xx, rfl, er, q, pp, px⟩ := h
  refine ⟨ρ, s0, _, xx, rfl, er, q, fun ds s1 q1 st1 ok1 vs r1 => ?_, px⟩
  refine ⟨ρ, s1, _, xx, rfl, er.step st1 ok1, q1, fun zd s2 q2 st2 ok2 zs r2 => ?_, px.step st1⟩
  obtain ⟨l1, l2, q3⟩ := q2
  have st := st1.trans st2
  exact ⟨r1.length.trans l1, r2.length.trans l2, mk_spF hrep hgl ok2 (r1.same st2.same) r2 l1 l2 q3 (pp.step st) (px.step st)⟩
end
end DL
set_option Elab.async false
set_option linter.all false
namespace RT
structure Nf (a b : Int) : Prop where
  pos : 0 < b
  one : Int.gcd a b = 1
end RT
set_option Elab.async false
set_option linter.all false
namespace RT
/-- a cut: a ratio and 0 (ahead of it) or 1 (behind it) -/
structure Cut where
  a : Int
  b : Int
  k : Int
def Cut.lt (x y : Cut) : Prop := x.a * y.b < y.a * x.b ∨ (x.a * y.b = y.a * x.b ∧ x.k < y.k)
instance (x y : Cut) : Decidable (Cut.lt x y) := inferInstanceAs (Decidable (_ ∨ _ ∧ _))
structure Cut.Ok (x : Cut) : Prop where
  nf : Nf x.a x.b
  k01 : x.k = 0 ∨ x.k = 1
def least (f : Cut) : Int := if f.k = 0 then -((-f.a).fdiv f.b) else f.a.fdiv f.b + 1
/-- one turn of the search: no whole number lies in the interval -/
structure Turn (f c : Cut) (w : Int) (f' : Cut) (l' : Option Cut) : Prop where
  w_eq : w = f.a.fdiv f.b
  f_eq : f' = ⟨c.b, c.a - w * c.b, 1 - c.k⟩
  l_eq : l' = if f.a - w * f.b = 0 then none else some ⟨f.b, f.a - w * f.b, 1 - f.k⟩
structure IOk (f : Cut) (l : Option Cut) : Prop where
  cf : f.Ok
  f0 : 0 ≤ f.a
  cl : ∀ c, l = some c → c.Ok ∧ Cut.lt f c
end RT
set_option Elab.async false
set_option linter.all false
namespace RT
def Pos (f : Cut) : Prop := 0 < f.a ∨ f.k = 1
def Sz (B : Int) (f : Cut) (l : Option Cut) : Prop := f.a ≤ B ∧ f.b ≤ B ∧ ∀ c, l = some c → c.a ≤ B ∧ c.b ≤ B
/-- the turns so far -/
inductive Chain (B : Int) (f0 : Cut) (l0 : Option Cut) : List Int → Cut → Option Cut → Prop
  | nil : Chain B f0 l0 [] f0 l0
  | snoc {ws : List Int} {f c f' : Cut} {l' : Option Cut} {w : Int} (h : Chain B f0 l0 ws f (some c)) (hi : IOk f (some c)) (hp : Pos f) (hn : ¬ Cut.lt ⟨least f, 1, 0⟩ c) (t : Turn f c w f' l') (z : Sz B f (some c)) : Chain B f0 l0 (ws ++ [w]) f' l'
theorem Chain.empty {B : Int} {f0 : Cut} {l0 : Option Cut} {ws : List Int} {f : Cut} {l : Option Cut} (h : Chain B f0 l0 ws f l) (e : ws = []) : f = f0 ∧ l = l0 := by
  cases h with
  | nil => exact ⟨rfl, rfl⟩
  | snoc => simp at e
end RT
set_option Elab.async false
set_option linter.all false
set_option Elab.async false
set_option linter.all false
set_option Elab.async false
set_option linter.all false
set_option maxRecDepth 100000
set_option maxHeartbeats 2000000
set_option Elab.async false
set_option linter.all false
set_option maxRecDepth 100000
set_option maxHeartbeats 2000000
set_option Elab.async false
set_option linter.all false
set_option maxRecDepth 100000
set_option maxHeartbeats 2000000
set_option Elab.async false
set_option linter.all false
set_option maxRecDepth 100000
set_option maxHeartbeats 2000000
namespace TX
open PySem PySem.NumText L2 TL
abbrev Pr := Int × Int
/-- the order of pairs -/
def PLt (p q : Pr) : Prop := p.1 < q.1 ∨ (p.1 = q.1 ∧ p.2 < q.2)
instance (p q : Pr) : Decidable (PLt p q) := inferInstanceAs (Decidable (_ ∨ _))
def prP (p : Pr) : PyData := .tuple [.int p.1, .int p.2]
theorem lt_pr (p q : Pr) : PySem.W.dataLt (prP p) (prP q) = decide (PLt p q) := by
  have e : ∀ (a b : Int) (l m : List (Int ⊕ List Nat)), PyProof.Rows.lexLt PyProof.Rows.itemOrd (.inl a :: l) (.inl b :: m) = (if a = b then PyProof.Rows.lexLt PyProof.Rows.itemOrd l m else decide (a < b)) := by
    intro a b l m
    by_cases h : a = b
    · rw [if_pos h, h]; exact PyProof.Rows.lex_self (O := PyProof.Rows.itemOrd) _ _ _
    · rw [if_neg h, PyProof.Rows.lex_diff (O := PyProof.Rows.itemOrd) (fun w => h (by cases w; rfl))]; rfl
  show PyProof.Rows.lexLt PyProof.Rows.itemOrd (PySem.W.keyToksAll [.int p.1, .int p.2]) (PySem.W.keyToksAll [.int q.1, .int q.2]) = _
  simp only [PySem.W.keyToksAll, PySem.W.keyToks, List.cons_append, List.nil_append]
  rw [e, if_pos rfl, e]
  by_cases h : p.1 = q.1
  · rw [if_pos h, e, if_pos rfl, e]
    by_cases h2 : p.2 = q.2
    · rw [if_pos h2, e, if_pos rfl]
      rw [show PyProof.Rows.lexLt PyProof.Rows.itemOrd [] [] = false from rfl]
      refine (decide_eq_false ?_).symm
      unfold PLt
      omega
    · rw [if_neg h2]
      refine decide_eq_decide.mpr ?_
      unfold PLt
      omega
  · rw [if_neg h]
    refine decide_eq_decide.mpr ?_
    unfold PLt
    omega
end TX
set_option Elab.async false
set_option linter.all false
set_option maxRecDepth 100000
set_option maxHeartbeats 2000000
namespace TI
open PySem L2 DL
abbrev P2 := Int × Int
def pt (p : P2) : D := .tup [.int p.1, .int p.2]
def sd (s : P2 × P2) : D := .tup [pt s.1, pt s.2]
def cross (u v : P2) : Int := u.1 * v.2 - u.2 * v.1
def lead (p q : P2) : P2 := (q.1 - p.1, q.2 - p.2)
def turn (p q r : P2) : Int := cross (lead p q) (lead p r)
def sideOf (p q : P2) : P2 × P2 := if TX.PLt p q then (p, q) else (q, p)
def pairsOf (cs : List P2) : List (P2 × P2) := (List.range cs.length).map fun k => (cs.getD k (0, 0), cs.getD ((k + 1) % cs.length) (0, 0))
def sidesOf (cs : List P2) : List (P2 × P2) := (pairsOf cs).map fun e => sideOf e.1 e.2
def turnsL (cs : List P2) : List Int := (pairsOf cs).flatMap fun e => cs.map fun r => turn e.1 e.2 r
def notConvex (cs : List P2) : Bool := (turnsL cs).any (fun t => decide (t < 0)) || !(turnsL cs).any (fun t => decide (0 < t))
/-- a coordinate of a point -/
def numOk : D → Bool
  | .int i => decide (-1000000 ≤ i) && decide (i ≤ 1000000)
  | _ => false
def ptOf : D → Option P2
  | .tup [.int a, .int b] => if numOk (.int a) && numOk (.int b) then some (a, b) else none
  | _ => none
def wdOf (d : D) : Option P2 := match ptOf d with
  | some p => if p = (0, 0) then none else some p
  | none => none
def itemsOf : D → Option (List D)
  | .lst ds => some ds
  | .tup ds => some ds
  | _ => none
def scan : Nat → List P2 → List D → Sum Nat (List P2)
  | _, seen, [] => .inr seen
  | i, seen, d :: r => if i = 8 then .inl i else match ptOf d with
    | none => .inl i
    | some p => if p ∈ seen then .inl i else scan (i + 1) (seen ++ [p]) r
inductive Err where
  | name (d : D) | corners (a : Nat) | convex | winds | split (s : P2 × P2)
def cornersRes (u : D) : Sum Err (List P2) := match itemsOf u with
  | none => .inl (.corners 0)
  | some ds => match scan 0 [] ds with
    | .inl i => .inl (.corners i)
    | .inr cs => if cs.length < 3 then .inl (.corners cs.length) else if notConvex cs then .inl .convex else .inr cs
def windsRes (u : D) : Option (P2 × P2) := match itemsOf u with
  | some [a, b] => match wdOf a, wdOf b with
    | some p, some q => if 0 < cross p q then some (p, q) else none
    | _, _ => none
  | _ => none
def goodSide (u v : P2) (e : P2 × P2) : Bool := (decide (0 < cross (lead e.1 e.2) u) && decide (0 < cross (lead e.1 e.2) v)) || (decide (cross (lead e.1 e.2) u < 0) && decide (cross (lead e.1 e.2) v < 0))
def badSide (cs : List P2) (u v : P2) : Option (P2 × P2) := (pairsOf cs).find? fun e => !goodSide u v e
/-- what a name is -/
def isLetter (c : Nat) : Bool := decide (c ∈ (Str.ofString "abcdefghijklmnopqrstuvwxyz").cps.toList)
def isName (u : D) : Bool := match u with
  | .str z => decide (1 ≤ (z.length : Int)) && (decide ((z.length : Int) ≤ 8) && z.cps.toList.all isLetter)
  | _ => false
/-- a tile's values -/
structure Tl where
  nm : Str
  cs : List P2
  u : P2
  v : P2
def tileRes (nm cs ws : D) : Sum Err Tl := match nm with
  | .str z => if isName (.str z) then match cornersRes cs with
      | .inl e => .inl e
      | .inr ps => match windsRes ws with
        | none => .inl .winds
        | some (u, v) => match badSide ps u v with
          | some e => .inl (.split (sideOf e.1 e.2))
          | none => .inr ⟨z, ps, u, v⟩
    else .inl (.name nm)
  | _ => .inl (.name nm)
def Bd (p : P2) : Prop := (-1000000 ≤ p.1 ∧ p.1 ≤ 1000000) ∧ -1000000 ≤ p.2 ∧ p.2 ≤ 1000000
theorem ptOf_some {d : D} {p : P2} (h : ptOf d = some p) : d = pt p ∧ Bd p := by
  unfold ptOf at h
  split at h
  · rename_i a b
    split at h
    · rename_i hb
      cases h
      simp only [numOk, Bool.and_eq_true, decide_eq_true_eq] at hb
      exact ⟨rfl, hb.1, hb.2⟩
    · cases h
  · cases h
theorem ptOf_pt {p : P2} (h : Bd p) : ptOf (pt p) = some p := by
  obtain ⟨⟨h1, h2⟩, h3, h4⟩ := h
  show (if (numOk (.int p.1) && numOk (.int p.2)) = true then some (p.1, p.2) else none) = some p
  rw [if_pos (by simp [numOk, h1, h2, h3, h4])]
theorem wdOf_some {d : D} {p : P2} (h : wdOf d = some p) : d = pt p ∧ Bd p ∧ p ≠ (0, 0) := by
  unfold wdOf at h
  split at h
  · rename_i p' hp
    split at h
    · cases h
    · rename_i hne
      cases h
      obtain ⟨h1, h2⟩ := ptOf_some hp
      exact ⟨h1, h2, hne⟩
  · cases h
def ptP (p : P2) : PyData := .tuple [.int p.1, .int p.2]
theorem toP_pt (p : P2) : toP (pt p) = some (ptP p) := rfl
theorem toPs_pt : ∀ cs : List P2, toPs (cs.map pt) = some (cs.map ptP)
  | [] => rfl
  | p :: cs => by simp only [List.map_cons, toPs, toP_pt, toPs_pt cs]
theorem eqv_pt (p q : P2) : PyData.eqv (ptP p) (ptP q) = decide (p = q) := by
  have e : PyData.eqv (ptP p) (ptP q) = ((p.1 == q.1) && ((p.2 == q.2) && true)) := rfl
  rw [e]
  by_cases h1 : p.1 = q.1
  · by_cases h2 : p.2 = q.2
    · have : p = q := Prod.ext h1 h2
      simp [this]
    · have : ¬ p = q := fun z => h2 (by rw [z])
      simp [this, h2]
  · have : ¬ p = q := fun z => h1 (by rw [z])
    simp [this, h1]
theorem any_pt (p : P2) : ∀ cs : List P2, ((cs.map ptP).any fun z => PyData.eqv z (ptP p)) = decide (p ∈ cs)
  | [] => rfl
  | q :: cs => by
    rw [List.map_cons, List.any_cons, eqv_pt, any_pt p cs]
    by_cases h : q = p
    · simp [h]
    · have : p ∈ q :: cs ↔ p ∈ cs := by simp [Ne.symm h]
      simp [h, this]
def sdP (s : P2 × P2) : PyData := .tuple [ptP s.1, ptP s.2]
theorem toP_sd (s : P2 × P2) : toP (sd s) = some (sdP s) := rfl
theorem toPs_sd : ∀ ss : List (P2 × P2), toPs (ss.map sd) = some (ss.map sdP)
  | [] => rfl
  | p :: cs => by simp only [List.map_cons, toPs, toP_sd, toPs_sd cs]
theorem eqv_sd (s t : P2 × P2) : PyData.eqv (sdP s) (sdP t) = decide (s = t) := by
  have e : PyData.eqv (sdP s) (sdP t) = (PyData.eqv (ptP s.1) (ptP t.1) && (PyData.eqv (ptP s.2) (ptP t.2) && true)) := rfl
  rw [e, eqv_pt, eqv_pt]
  by_cases h1 : s.1 = t.1
  · by_cases h2 : s.2 = t.2
    · have : s = t := Prod.ext h1 h2
      simp [this]
    · have : ¬ s = t := fun z => h2 (by rw [z])
      simp [this, h2]
  · have : ¬ s = t := fun z => h1 (by rw [z])
    simp [this, h1]
theorem any_sd (s : P2 × P2) : ∀ ss : List (P2 × P2), ((ss.map sdP).any fun z => PyData.eqv z (sdP s)) = decide (s ∈ ss)
  | [] => rfl
  | t :: ss => by
    rw [List.map_cons, List.any_cons, eqv_sd, any_sd s ss]
    by_cases h : t = s
    · simp [h]
    · have : s ∈ t :: ss ↔ s ∈ ss := by simp [Ne.symm h]
      simp [h, this]
theorem shaped_all : ∀ xs : List PyData, (∀ x ∈ xs, x.canLay0 = true ∧ x.depth ≤ 10) → PyData.canLayAll0 xs = true ∧ PyData.depthAll xs ≤ 10
  | [], _ => ⟨rfl, Nat.zero_le _⟩
  | x :: xs, h => by
    obtain ⟨h1, h2⟩ := h x List.mem_cons_self
    obtain ⟨h3, h4⟩ := shaped_all xs fun y hy => h y (List.mem_cons_of_mem _ hy)
    refine ⟨by simp only [PyData.canLayAll0, h1, h3, Bool.and_self], ?_⟩
    show max _ _ ≤ 10
    omega
theorem shaped_lst {xs : List PyData} (h : ∀ x ∈ xs, x.canLay0 = true ∧ x.depth ≤ 10) : SeqAt.shaped (.list xs) = true := by
  obtain ⟨h1, h2⟩ := shaped_all xs h
  have e : PyData.depth (.list xs) = PyData.depthAll xs + 1 := by first | rfl | (simp only [PyData.depth]; omega)
  unfold SeqAt.shaped
  rw [e, decide_eq_true (by omega : PyData.depthAll xs + 1 ≤ 64), Bool.and_true]
  exact h1
theorem shaped_tup {xs : List PyData} (h : ∀ x ∈ xs, x.canLay0 = true ∧ x.depth ≤ 10) : SeqAt.shaped (.tuple xs) = true := by
  obtain ⟨h1, h2⟩ := shaped_all xs h
  have e : PyData.depth (.tuple xs) = PyData.depthAll xs + 1 := by first | rfl | (simp only [PyData.depth]; omega)
  unfold SeqAt.shaped
  rw [e, decide_eq_true (by omega : PyData.depthAll xs + 1 ≤ 64), Bool.and_true]
  exact h1
theorem pts_small (cs : List P2) : ∀ x ∈ cs.map ptP, x.canLay0 = true ∧ x.depth ≤ 10 := by
  intro x hx
  obtain ⟨p, _, rfl⟩ := List.mem_map.mp hx
  exact ⟨rfl, Nat.le_of_ble_eq_true rfl⟩
theorem sds_small (ss : List (P2 × P2)) : ∀ x ∈ ss.map sdP, x.canLay0 = true ∧ x.depth ≤ 10 := by
  intro x hx
  obtain ⟨p, _, rfl⟩ := List.mem_map.mp hx
  exact ⟨rfl, Nat.le_of_ble_eq_true rfl⟩
theorem scan_ok : ∀ (ds : List D) (i : Nat) (seen cs : List P2), i ≤ 8 → seen.Nodup → (∀ p ∈ seen, Bd p) → scan i seen ds = .inr cs → ∃ new, cs = seen ++ new ∧ ds = new.map pt ∧ cs.Nodup ∧ (∀ p ∈ cs, Bd p) ∧ i + ds.length ≤ 8
  | [], i, seen, cs, hi, hn, hb, h => by
    cases h
    exact ⟨[], by simp, rfl, hn, hb, by simpa using hi⟩
  | d :: r, i, seen, cs, hi, hn, hb, h => by
    unfold scan at h
    by_cases h8 : i = 8
    · rw [if_pos h8] at h; cases h
    · rw [if_neg h8] at h
      cases hp : ptOf d with
      | none => rw [hp] at h; cases h
      | some p =>
        rw [hp] at h
        dsimp only at h
        by_cases hm : p ∈ seen
        · rw [if_pos hm] at h; cases h
        · rw [if_neg hm] at h
          obtain ⟨e1, e2⟩ := ptOf_some hp
          have n2 : (seen ++ [p]).Nodup := by
            rw [List.nodup_append]
            refine ⟨hn, by simp, fun x hx y hy => ?_⟩
            rw [List.mem_singleton.mp hy]
            exact fun z => hm (z ▸ hx)
          have b2 : ∀ q ∈ seen ++ [p], Bd q := fun q hq => by
            rcases List.mem_append.mp hq with z | z
            · exact hb q z
            · rw [List.mem_singleton.mp z]; exact e2
          obtain ⟨new, c1, c2, c3, c4, c5⟩ := scan_ok r (i + 1) (seen ++ [p]) cs (by omega) n2 b2 h
          refine ⟨p :: new, by rw [c1]; simp, by rw [e1, c2]; rfl, c3, c4, ?_⟩
          rw [List.length_cons]; omega
structure CsOk (cs : List P2) : Prop where
  nd : cs.Nodup
  lo : 3 ≤ cs.length
  hi : cs.length ≤ 8
  bd : ∀ p ∈ cs, Bd p
theorem cornersRes_ok {u : D} {cs : List P2} (h : cornersRes u = .inr cs) : CsOk cs ∧ itemsOf u = some (cs.map pt) ∧ notConvex cs = false := by
  unfold cornersRes at h
  split at h
  · cases h
  · rename_i ds hd
    cases hs : scan 0 [] ds with
    | inl i => rw [hs] at h; cases h
    | inr cs' =>
      rw [hs] at h
      dsimp only at h
      by_cases h3 : cs'.length < 3
      · rw [if_pos h3] at h; cases h
      · rw [if_neg h3] at h
        cases hc : notConvex cs' with
        | true => rw [hc, if_pos rfl] at h; cases h
        | false =>
          rw [hc, if_neg Bool.false_ne_true] at h
          cases h
          obtain ⟨new, c1, c2, c3, c4, c5⟩ := scan_ok ds 0 [] _ (Nat.zero_le _) List.nodup_nil (fun _ z => nomatch z) hs
          rw [List.nil_append] at c1
          subst c1
          refine ⟨⟨c3, by omega, ?_, c4⟩, ?_, hc⟩
          · rw [c2, List.length_map] at c5; omega
          · rw [hd, c2]
structure Tl.Ok (t : Tl) : Prop where
  nm : isName (.str t.nm) = true
  cs : CsOk t.cs
  cv : notConvex t.cs = false
  u : Bd t.u
  v : Bd t.v
  cr : 0 < cross t.u t.v
  gd : badSide t.cs t.u t.v = none
theorem windsRes_ok {w : D} {u v : P2} (h : windsRes w = some (u, v)) : Bd u ∧ Bd v ∧ 0 < cross u v ∧ itemsOf w = some [pt u, pt v] := by
  unfold windsRes at h
  split at h
  · rename_i a b hi
    split at h
    · rename_i p q ha hb
      split at h
      · rename_i hc
        cases h
        obtain ⟨e1, e2, _⟩ := wdOf_some ha
        obtain ⟨e3, e4, _⟩ := wdOf_some hb
        exact ⟨e2, e4, hc, by rw [hi, e1, e3]⟩
      · cases h
    · cases h
  · cases h
theorem tileRes_ok {nm cs ws : D} {t : Tl} (h : tileRes nm cs ws = .inr t) : t.Ok ∧ nm = .str t.nm ∧ itemsOf cs = some (t.cs.map pt) ∧ itemsOf ws = some [pt t.u, pt t.v] := by
  unfold tileRes at h
  split at h
  · rename_i z
    split at h
    · rename_i hn
      split at h
      · cases h
      · rename_i ps hc
        split at h
        · cases h
        · rename_i u v hw
          split at h
          · cases h
          · rename_i hb
            cases h
            obtain ⟨c1, c2, c3⟩ := cornersRes_ok hc
            obtain ⟨w1, w2, w3, w4⟩ := windsRes_ok hw
            exact ⟨⟨hn, c1, c3, w1, w2, w3, hb⟩, rfl, c2, w4⟩
    · cases h
  · cases h
theorem pairsOf_length (cs : List P2) : (pairsOf cs).length = cs.length := by unfold pairsOf; simp
theorem pairsOf_mem {cs : List P2} {e : P2 × P2} (h : e ∈ pairsOf cs) : e.1 ∈ cs ∧ e.2 ∈ cs := by
  unfold pairsOf at h
  obtain ⟨k, hk, rfl⟩ := List.mem_map.mp h
  have hk := List.mem_range.mp hk
  have h2 : (k + 1) % cs.length < cs.length := Nat.mod_lt _ (by omega)
  refine ⟨?_, ?_⟩
  · show cs.getD k (0, 0) ∈ cs
    rw [List.getD_eq_getElem?_getD, List.getElem?_eq_getElem hk]; exact List.getElem_mem hk
  · show cs.getD ((k + 1) % cs.length) (0, 0) ∈ cs
    rw [List.getD_eq_getElem?_getD, List.getElem?_eq_getElem h2]; exact List.getElem_mem h2
theorem plt_or {p q : P2} (h : p ≠ q) : TX.PLt p q ∨ TX.PLt q p := by
  unfold TX.PLt
  by_cases h1 : p.1 = q.1
  · have : p.2 ≠ q.2 := fun z => h (Prod.ext h1 z)
    omega
  · omega
theorem sideOf_eq {p q p' q' : P2} (h : sideOf p q = sideOf p' q') : (p = p' ∧ q = q') ∨ (p = q' ∧ q = p') := by
  unfold sideOf at h
  split at h <;> split at h <;> (injection h with h1 h2; first | exact .inl ⟨h1, h2⟩ | exact .inr ⟨h1, h2⟩ | exact .inr ⟨h2, h1⟩ | exact .inl ⟨h2, h1⟩)
theorem sideOf_lt {p q : P2} (h : p ≠ q) : TX.PLt (sideOf p q).1 (sideOf p q).2 := by
  unfold sideOf
  split
  · rename_i z; exact z
  · rename_i z
    rcases plt_or h with y | y
    · exact absurd y z
    · exact y
theorem get_inj {cs : List P2} (hn : cs.Nodup) {i j : Nat} (hi : i < cs.length) (hj : j < cs.length) (h : cs.getD i (0, 0) = cs.getD j (0, 0)) : i = j := by
  rw [List.getD_eq_getElem?_getD, List.getD_eq_getElem?_getD, List.getElem?_eq_getElem hi, List.getElem?_eq_getElem hj] at h
  exact (List.getElem_inj hn).mp h
theorem pairs_uniq {cs : List P2} (ok : CsOk cs) {e e' : P2 × P2} (h : e ∈ pairsOf cs) (h' : e' ∈ pairsOf cs) (es : sideOf e.1 e.2 = sideOf e'.1 e'.2) : e = e' := by
  unfold pairsOf at h h'
  obtain ⟨k, hk, rfl⟩ := List.mem_map.mp h
  obtain ⟨j, hj, rfl⟩ := List.mem_map.mp h'
  have hk := List.mem_range.mp hk
  have hj := List.mem_range.mp hj
  have l3 := ok.lo
  have mk : (k + 1) % cs.length < cs.length := Nat.mod_lt _ (by omega)
  have mj : (j + 1) % cs.length < cs.length := Nat.mod_lt _ (by omega)
  rcases sideOf_eq es with ⟨e1, _⟩ | ⟨e1, e2⟩
  · have := get_inj ok.nd hk hj e1
    rw [this]
  · exfalso
    have a1 := get_inj ok.nd hk mj e1
    have a2 := get_inj ok.nd mk hj e2
    by_cases z1 : j + 1 < cs.length
    · rw [Nat.mod_eq_of_lt z1] at a1
      by_cases z2 : k + 1 < cs.length
      · rw [Nat.mod_eq_of_lt z2] at a2; omega
      · have : k + 1 = cs.length := by omega
        rw [this, Nat.mod_self] at a2; omega
    · have : j + 1 = cs.length := by omega
      rw [this, Nat.mod_self] at a1
      by_cases z2 : k + 1 < cs.length
      · rw [Nat.mod_eq_of_lt z2] at a2; omega
      · have : k + 1 = cs.length := by omega
        omega
theorem pairs_ne {cs : List P2} (ok : CsOk cs) {e : P2 × P2} (h : e ∈ pairsOf cs) : e.1 ≠ e.2 := by
  unfold pairsOf at h
  obtain ⟨k, hk, rfl⟩ := List.mem_map.mp h
  have hk := List.mem_range.mp hk
  have l3 := ok.lo
  have mk : (k + 1) % cs.length < cs.length := Nat.mod_lt _ (by omega)
  intro z
  have a1 := get_inj ok.nd hk mk z
  by_cases z2 : k + 1 < cs.length
  · rw [Nat.mod_eq_of_lt z2] at a1; omega
  · have : k + 1 = cs.length := by omega
    rw [this, Nat.mod_self] at a1; omega
def sdKs (s : P2 × P2) : List NestedKey := [.tup [.num s.1.1, .num s.1.2], .tup [.num s.2.1, .num s.2.2]]
theorem kDs_sd (s : P2 × P2) : D.tup (kDs (sdKs s)) = sd s := rfl
theorem sdKs_depth (s : P2 × P2) : (NestedKey.tup (sdKs s)).depth ≤ 8 := Nat.le_of_ble_eq_true rfl
theorem sdKs_inj {s t : P2 × P2} (h : NestedKey.tup (sdKs s) = .tup (sdKs t)) : s = t := by
  unfold sdKs at h
  injection h with h
  injection h with h1 h
  injection h with h2 _
  injection h1 with h1
  injection h1 with a1 h1
  injection h1 with a2 _
  injection h2 with h2
  injection h2 with b1 h2
  injection h2 with b2 _
  injection a1 with a1
  injection a2 with a2
  injection b1 with b1
  injection b2 with b2
  exact Prod.ext (Prod.ext a1 a2) (Prod.ext b1 b2)
def inB (u : P2) (e : P2 × P2) : Bool := decide (0 < cross (lead e.1 e.2) u)
def inwF (u : P2) (l : List (P2 × P2)) : List (NestedKey × D) := l.foldl (fun es e => dPut es (.tup (sdKs (sideOf e.1 e.2))) (.bl (inB u e))) []
theorem dGet_map_ne {k j : NestedKey} {d : D} (h : j ≠ k) : ∀ es : List (NestedKey × D), dGet (es.map (fun x => if x.1 = k then (x.1, d) else x)) j = dGet es j
  | [] => rfl
  | (i, e) :: es => by
    rw [List.map_cons]
    by_cases hk : i = k
    · rw [if_pos (show (i, e).1 = k from hk), dGet_cons, dGet_cons, if_neg (fun z => h (z.symm.trans hk)), if_neg (fun z => h (z.symm.trans hk))]
      exact dGet_map_ne h es
    · rw [if_neg (show ¬ (i, e).1 = k from hk), dGet_cons, dGet_cons, dGet_map_ne h es]
theorem dGet_map_eq {k : NestedKey} {d : D} : ∀ es : List (NestedKey × D), (dGet es k).isSome = true → dGet (es.map (fun x => if x.1 = k then (x.1, d) else x)) k = some d
  | [], h => by simp [dGet] at h
  | (i, e) :: es, h => by
    rw [List.map_cons]
    by_cases hk : i = k
    · rw [if_pos (show (i, e).1 = k from hk), dGet_cons, if_pos hk]
    · rw [if_neg (show ¬ (i, e).1 = k from hk), dGet_cons, if_neg hk]
      rw [dGet_cons, if_neg hk] at h
      exact dGet_map_eq es h
theorem dGet_app {k j : NestedKey} {d : D} : ∀ es : List (NestedKey × D), dGet (es ++ [(k, d)]) j = match dGet es j with
    | some e => some e
    | none => if k = j then some d else none
  | [] => by rw [List.nil_append, dGet_cons]; rfl
  | (i, e) :: es => by
    rw [List.cons_append, dGet_cons, dGet_cons]
    by_cases hi : i = j
    · rw [if_pos hi, if_pos hi]
    · rw [if_neg hi, if_neg hi]
      exact dGet_app es
theorem dGet_put (es : List (NestedKey × D)) (k j : NestedKey) (d : D) : dGet (dPut es k d) j = if j = k then some d else dGet es j := by
  unfold dPut
  by_cases hs : (dGet es k).isSome = true
  · rw [if_pos hs]
    by_cases h : j = k
    · rw [if_pos h, h]; exact dGet_map_eq es hs
    · rw [if_neg h]; exact dGet_map_ne h es
  · rw [if_neg hs, dGet_app]
    have hn : dGet es k = none := by
      cases e : dGet es k with
      | none => rfl
      | some v => rw [e] at hs; exact absurd rfl hs
    by_cases h : j = k
    · rw [if_pos h, h, hn]; exact if_pos rfl
    · rw [if_neg h]
      cases e : dGet es j with
      | none => exact if_neg (Ne.symm h)
      | some v => rfl
theorem dPut_len (es : List (NestedKey × D)) (k : NestedKey) (d : D) : (dPut es k d).length ≤ es.length + 1 := by
  unfold dPut
  split
  · rw [List.length_map]; omega
  · rw [List.length_append]; exact Nat.le_refl _
theorem inwF_snoc (u : P2) (l : List (P2 × P2)) (e : P2 × P2) : inwF u (l ++ [e]) = dPut (inwF u l) (.tup (sdKs (sideOf e.1 e.2))) (.bl (inB u e)) := by
  unfold inwF
  rw [List.foldl_append]
  rfl
theorem snoc_ind {α : Type} {P : List α → Prop} (h0 : P []) (h1 : ∀ l e, P l → P (l ++ [e])) (l : List α) : P l := by
  have h : ∀ r : List α, P r.reverse := by
    intro r
    induction r with
    | nil => exact h0
    | cons a r ih => rw [List.reverse_cons]; exact h1 _ _ ih
  have := h l.reverse
  rwa [List.reverse_reverse] at this
theorem inwF_len (u : P2) : ∀ l : List (P2 × P2), (inwF u l).length ≤ l.length := by
  refine snoc_ind ?_ fun l e ih => ?_
  · exact Nat.le_refl _
  · rw [inwF_snoc, List.length_append]
    have := dPut_len (inwF u l) (.tup (sdKs (sideOf e.1 e.2))) (.bl (inB u e))
    show _ ≤ l.length + 1
    omega
/-- whether a side lets in -/
def letsB (cs : List P2) (u : P2) (s : P2 × P2) : Bool := match (pairsOf cs).find? fun e => decide (sideOf e.1 e.2 = s) with
  | some e => inB u e
  | none => false
theorem inwF_get (u : P2) (s : P2 × P2) (b : Bool) : ∀ l : List (P2 × P2), (∀ e ∈ l, sideOf e.1 e.2 = s → inB u e = b) → (∃ e ∈ l, sideOf e.1 e.2 = s) → dGet (inwF u l) (.tup (sdKs s)) = some (.bl b) := by
  refine snoc_ind ?_ fun l e ih => ?_
  · rintro _ ⟨e, h, _⟩; cases h
  · intro h1 h2
    rw [inwF_snoc, dGet_put]
    by_cases hs : sideOf e.1 e.2 = s
    · rw [if_pos (by rw [hs]), h1 e (by simp) hs]
    · rw [if_neg (fun z => hs (sdKs_inj z).symm)]
      refine ih (fun x hx => h1 x (by simp [hx])) ?_
      obtain ⟨x, hx, hxs⟩ := h2
      rcases List.mem_append.mp hx with z | z
      · exact ⟨x, z, hxs⟩
      · rw [List.mem_singleton.mp z] at hxs
        exact absurd hxs hs
theorem find_side {cs : List P2} {s : P2 × P2} (hs : s ∈ sidesOf cs) : ∃ e, (pairsOf cs).find? (fun e => decide (sideOf e.1 e.2 = s)) = some e ∧ e ∈ pairsOf cs ∧ sideOf e.1 e.2 = s := by
  unfold sidesOf at hs
  obtain ⟨e, he, hs⟩ := List.mem_map.mp hs
  cases h : (pairsOf cs).find? fun e => decide (sideOf e.1 e.2 = s) with
  | none => exact absurd (List.find?_eq_none.mp h e he) (by simp [hs])
  | some e' => exact ⟨e', rfl, List.mem_of_find?_eq_some h, by simpa using List.find?_some h⟩
theorem inw_get {cs : List P2} (ok : CsOk cs) (u : P2) {s : P2 × P2} (hs : s ∈ sidesOf cs) : dGet (inwF u (pairsOf cs)) (.tup (sdKs s)) = some (.bl (letsB cs u s)) := by
  obtain ⟨e, h1, h2, h3⟩ := find_side hs
  have hb : letsB cs u s = inB u e := by unfold letsB; rw [h1]
  rw [hb]
  refine inwF_get u s _ _ (fun e' he' hs' => ?_) ⟨e, h2, h3⟩
  rw [pairs_uniq ok he' h2 (hs'.trans h3.symm)]
theorem bd_lead {p q : P2} (h : Bd p) (h' : Bd q) : (-2000000 ≤ (lead p q).1 ∧ (lead p q).1 ≤ 2000000) ∧ -2000000 ≤ (lead p q).2 ∧ (lead p q).2 ≤ 2000000 := by
  obtain ⟨⟨h1, h2⟩, h3, h4⟩ := h
  obtain ⟨⟨g1, g2⟩, g3, g4⟩ := h'
  unfold lead
  dsimp only
  omega
theorem mul2 {i j : Int} (h : -4000000 ≤ i) (h' : i ≤ 4000000) : MulOk i j := .inl (.inl ⟨by omega, by omega⟩)
theorem turns_zero {cs : List P2} (ok : CsOk cs) : (0 : Int) ∈ turnsL cs := by
  have l3 := ok.lo
  have hk : 0 < cs.length := by omega
  unfold turnsL
  refine List.mem_flatMap.mpr ⟨(pairsOf cs)[0]'(by rw [pairsOf_length]; omega), List.getElem_mem _, ?_⟩
  have hm := (pairsOf_mem (List.getElem_mem (l := pairsOf cs) (n := 0) (by rw [pairsOf_length]; omega))).1
  refine List.mem_map.mpr ⟨_, hm, ?_⟩
  simp [turn, cross, lead]
theorem convex_min {cs : List P2} {m : Int} (h1 : m ∈ turnsL cs) (h2 : ∀ y ∈ turnsL cs, m ≤ y) : decide (m < 0) = (turnsL cs).any fun t => decide (t < 0) := by
  by_cases h : m < 0
  · rw [decide_eq_true h]
    exact (List.any_eq_true.mpr ⟨m, h1, by simpa using h⟩).symm
  · rw [decide_eq_false h]
    refine (Bool.eq_false_iff.mpr fun z => ?_).symm
    obtain ⟨t, ht, hlt⟩ := List.any_eq_true.mp z
    have := h2 t ht
    have hlt : t < 0 := by simpa using hlt
    omega
theorem convex_max {cs : List P2} (ok : CsOk cs) {m : Int} (h1 : m ∈ turnsL cs) (h2 : ∀ y ∈ turnsL cs, y ≤ m) : decide (m = 0) = !(turnsL cs).any fun t => decide (0 < t) := by
  have h0 := h2 0 (turns_zero ok)
  by_cases h : m = 0
  · rw [decide_eq_true h]
    have : ((turnsL cs).any fun t => decide (0 < t)) = false := Bool.eq_false_iff.mpr fun z => by
      obtain ⟨t, ht, hlt⟩ := List.any_eq_true.mp z
      have := h2 t ht
      have hlt : 0 < t := by simpa using hlt
      omega
    rw [this]; rfl
  · rw [decide_eq_false h]
    have : ((turnsL cs).any fun t => decide (0 < t)) = true := List.any_eq_true.mpr ⟨m, h1, by simp; omega⟩
    rw [this]; rfl
end TI
set_option Elab.async false
set_option linter.all false
set_option maxRecDepth 100000
set_option maxHeartbeats 2000000
namespace DL
open PySem PySem.Spec PyProof.Rows L2
theorem map_get {α : Type} {f : α → D} {S : List α} {j : Nat} {d : D} (h : (S.map f)[j]? = some d) : ∃ s, S[j]? = some s ∧ d = f s := by
  rw [List.getElem?_map] at h
  cases e : S[j]? with
  | none => rw [e] at h; cases h
  | some s => rw [e] at h; cases h; exact ⟨s, rfl, rfl⟩
theorem take_snoc {α : Type} {S : List α} {j : Nat} {s : α} (h : S[j]? = some s) : S.take (j + 1) = S.take j ++ [s] := by
  rw [List.take_succ, h]
  rfl
theorem gT2_mono {i j : Nat} {d : D} {ρ : DEnv} {M : Mm} (K K' : DEnv → Mm → Prop) (h : ∀ ρ M, K ρ M → K' ρ M) (q : gTupD 2 (gsCons (gN i) (gsCons (gN j) gsNil)) d ρ M K) : gTupD 2 (gsCons (gN i) (gsCons (gN j) gsNil)) d ρ M K' := by
  obtain ⟨ds, e, l, d1, r1, e1, d2, r2, e2, e3, q⟩ := q
  exact ⟨ds, e, l, d1, r1, e1, d2, r2, e2, e3, h _ _ q⟩
/-- a comprehension over a list of images -/
theorem lc_mapS {α : Type} {γ : DG} {ε : DE} {vs : List Nat} {ρ : DEnv} {M : Mm} {k : DK} {S : List α} {g : α → D} (f : α → D) (hl : (S.map g).length < sizeLine)
    (he : ∀ s ∈ S, ∀ K : DK, K (f s) M → γ (g s) (wipeD ρ vs) M fun ρ1 M2 => ε ρ1 M2 K (fun _ _ _ => False))
    (gm : ∀ d (K K' : DEnv → Mm → Prop), (∀ ρ M, K ρ M → K' ρ M) → γ d (wipeD ρ vs) M K → γ d (wipeD ρ vs) M K') (hk : k (.lst (S.map f)) M) : LcK γ dYes ε vs ρ (S.map g) M k := by
  refine .of hl (fun j acc M' => M' = M ∧ acc = (S.take j).map f) ⟨rfl, rfl⟩ (fun j d acc M' hd ⟨e1, e2⟩ => ?_) (fun acc M' ⟨e1, e2⟩ => ?_)
  · subst e1 e2
    obtain ⟨s, hs, rfl⟩ := map_get hd
    have hn : List.map f (List.take j S) ++ [f s] = List.map f (List.take (j + 1) S) := by
      rw [take_snoc hs]
      simp
    refine gm _ _ _ (fun ρ1 M2 hh => ?_) (he s (List.mem_of_getElem? hs) (fun y M4 => M4 = M' ∧ List.map f (List.take j S) ++ [y] = List.map f (List.take (j + 1) S)) ⟨rfl, hn⟩)
    unfold dYes
    dsimp only
    rw [if_pos rfl]
    exact hh
  · subst e1 e2
    rw [List.length_map, List.take_length]
    exact hk
/-- with a test -/
theorem lc_filtS {α : Type} {γ : DG} {θ : DT} {ε : DE} {vs : List Nat} {ρ : DEnv} {M : Mm} {k : DK} {S : List α} {g : α → D} (b : α → Bool) (f : α → D) (hl : (S.map g).length < sizeLine)
    (he : ∀ s ∈ S, ∀ (K : DK) (R : Mm → Prop), (b s = true → K (f s) M) → (b s = false → R M) → γ (g s) (wipeD ρ vs) M fun ρ1 M2 => θ ρ1 M2 (fun c M3 => if c = true then ε ρ1 M3 K (fun _ _ _ => False) else R M3) (fun _ _ _ => False))
    (hk : k (.lst ((S.filter b).map f)) M) : LcK γ θ ε vs ρ (S.map g) M k := by
  refine .of hl (fun j acc M' => M' = M ∧ acc = ((S.take j).filter b).map f) ⟨rfl, rfl⟩ (fun j d acc M' hd ⟨e1, e2⟩ => ?_) (fun acc M' ⟨e1, e2⟩ => ?_)
  · subst e1 e2
    obtain ⟨s, hs, rfl⟩ := map_get hd
    refine he s (List.mem_of_getElem? hs) _ _ (fun hb => ⟨rfl, ?_⟩) (fun hb => ⟨rfl, ?_⟩)
    · rw [take_snoc hs, List.filter_append, List.map_append]
      simp [List.filter, hb]
    · rw [take_snoc hs, List.filter_append, List.map_append]
      simp [List.filter, hb]
  · subst e1 e2
    rw [List.length_map, List.take_length]
    exact hk
theorem in_mapS {β : Type} {γ1 : DG} {ε : DE} {vs1 : List Nat} {ρ1 : DEnv} {M : Mm} {acc : List D} {Z : List D → Mm → Prop} {T : List β} {g1 : β → D} (f : β → D) (hl : acc.length + T.length < sizeLine)
    (he : ∀ b ∈ T, ∀ K : DK, K (f b) M → γ1 (g1 b) (wipeD ρ1 vs1) M fun ρ2 M3 => ε ρ2 M3 K (fun _ _ _ => False))
    (gm : ∀ d (K K' : DEnv → Mm → Prop), (∀ ρ M, K ρ M → K' ρ M) → γ1 d (wipeD ρ1 vs1) M K → γ1 d (wipeD ρ1 vs1) M K') (hk : Z (acc ++ T.map f) M) : InK γ1 dYes ε vs1 ρ1 (T.map g1) M acc Z := by
  refine ⟨fun j a M' => M' = M ∧ a = acc ++ (T.take j).map f, ⟨rfl, by simp⟩, fun j d a M' hd ⟨e1, e2⟩ => ?_, fun a M' ⟨e1, e2⟩ => ?_⟩
  · subst e1 e2
    obtain ⟨s, hs, rfl⟩ := map_get hd
    have hj : j < T.length := by
      obtain ⟨h, _⟩ := List.getElem?_eq_some_iff.mp hs
      exact h
    have hn : acc ++ List.map f (List.take j T) ++ [f s] = acc ++ List.map f (List.take (j + 1) T) := by
      rw [take_snoc hs]
      simp
    refine gm _ _ _ (fun ρ2 M2 hh => ?_) (he s (List.mem_of_getElem? hs) (fun y M4 => (acc ++ List.map f (List.take j T)).length < sizeLine ∧ M4 = M' ∧ acc ++ List.map f (List.take j T) ++ [y] = acc ++ List.map f (List.take (j + 1) T)) ⟨?_, rfl, hn⟩)
    · unfold dYes
      dsimp only
      rw [if_pos rfl]
      exact hh
    · rw [List.length_append, List.length_map, List.length_take]
      omega
  · subst e1 e2
    rw [List.length_map, List.take_length]
    exact hk
theorem lc2_mapS {α : Type} {γ : DG} {ι1 : DI} {γ1 : DG} {ε : DE} {vs vs1 : List Nat} {ρ : DEnv} {M : Mm} {k : DK} {S : List α} {g : α → D} (T : α → List D) (N : Nat)
    (hT : ∀ s ∈ S, (T s).length ≤ N) (hl : (S.length + 1) * N < sizeLine)
    (he : ∀ s ∈ S, ∀ (acc : List D) (Z : List D → Mm → Prop), acc.length + N < sizeLine → Z (acc ++ T s) M → γ (g s) (wipeD ρ vs) M fun ρ1 M2 => ι1 ρ1 M2 (fun ds1 M4 => InK γ1 dYes ε vs1 ρ1 ds1 M4 acc Z) (fun _ _ _ => False))
    (gm : ∀ d (K K' : DEnv → Mm → Prop), (∀ ρ M, K ρ M → K' ρ M) → γ d (wipeD ρ vs) M K → γ d (wipeD ρ vs) M K') (hk : k (.lst (S.flatMap T)) M) : Lc2K γ dYes ι1 γ1 dYes ε vs vs1 ρ (S.map g) M k := by
  have len : ∀ j, ((S.take j).flatMap T).length ≤ (S.take j).length * N := by
    intro j
    have h : ∀ l : List α, (∀ s ∈ l, (T s).length ≤ N) → (l.flatMap T).length ≤ l.length * N := by
      intro l
      induction l with
      | nil => intro _; simp
      | cons a l ih =>
        intro h
        have h1 := h a List.mem_cons_self
        have h2 := ih fun s hs => h s (List.mem_cons_of_mem _ hs)
        rw [List.flatMap_cons, List.length_append, List.length_cons, Nat.add_mul, Nat.one_mul]
        omega
    exact h _ fun s hs => hT s (List.mem_of_mem_take hs)
  refine .of (fun j acc M' => M' = M ∧ acc = (S.take j).flatMap T) ⟨rfl, by simp⟩ (fun j d acc M' hd ⟨e1, e2⟩ => ?_) (fun acc M' ⟨e1, e2⟩ => ?_)
  · subst e1 e2
    obtain ⟨s, hs, rfl⟩ := map_get hd
    have hn : (S.take j).flatMap T ++ T s = (S.take (j + 1)).flatMap T := by
      rw [take_snoc hs]
      simp
    refine gm _ _ _ (fun ρ1 M2 hh => ?_) (he s (List.mem_of_getElem? hs) _ (fun a M4 => M4 = M' ∧ a = (S.take (j + 1)).flatMap T) ?_ ⟨rfl, hn⟩)
    · unfold dYes
      dsimp only
      rw [if_pos rfl]
      exact hh
    · have h1 := len j
      have h2 : (S.take j).length ≤ S.length := by rw [List.length_take]; omega
      have h3 : (S.take j).length * N ≤ S.length * N := Nat.mul_le_mul_right N h2
      rw [Nat.add_mul, Nat.one_mul] at hl
      omega
  · subst e1 e2
    rw [List.length_map, List.take_length]
    exact hk
theorem isiLTk {CS : List Addr} {u : D} {v : Kd} {M : Mm} {k : DK} {x : DX} (h : kd u = some v) (q : k (.bl (decide (v = .lst) || decide (v = .tup))) M) : dIsiLT CS u M k x := by
  unfold dIsiLT
  rw [kdD_of h]
  exact q
end DL
namespace TI
open PySem L2 DL
def isPt : D → Bool
  | .tup [a, b] => numOk a && numOk b
  | _ => false
theorem numOk_int {d : D} (h : numOk d = true) : ∃ i, d = .int i := by
  cases d <;> first | exact ⟨_, rfl⟩ | cases h
theorem isPt_eq (u : D) : isPt u = (ptOf u).isSome := by
  unfold isPt
  split
  · rename_i a b
    by_cases ha : numOk a = true
    · by_cases hb : numOk b = true
      · obtain ⟨i, rfl⟩ := numOk_int ha
        obtain ⟨j, rfl⟩ := numOk_int hb
        show _ = (if (numOk (.int i) && numOk (.int j)) = true then some (i, j) else none).isSome
        rw [ha, hb]; rfl
      · have hb' : numOk b = false := by simpa using hb
        rw [hb', Bool.and_false]
        cases h : ptOf (.tup [a, b]) with
        | none => rfl
        | some p =>
          obtain ⟨e, h1⟩ := ptOf_some h
          injection e with e
          injection e with _ e
          injection e with e _
          rw [e] at hb'
          obtain ⟨_, h3, h4⟩ := h1
          simp [numOk, h3, h4] at hb'
    · have ha' : numOk a = false := by simpa using ha
      rw [ha', Bool.false_and]
      cases h : ptOf (.tup [a, b]) with
      | none => rfl
      | some p =>
        obtain ⟨e, h1⟩ := ptOf_some h
        injection e with e
        injection e with e _
        rw [e] at ha'
        obtain ⟨⟨h3, h4⟩, _⟩ := h1
        simp [numOk, h3, h4] at ha'
  · rename_i hne
    cases h : ptOf u with
    | none => rfl
    | some p =>
      obtain ⟨e, _⟩ := ptOf_some h
      exact absurd e (hne _ _)
theorem kd_items {u : D} {v : Kd} (h : kd u = some v) : (decide (v = .lst) || decide (v = .tup)) = (itemsOf u).isSome := by
  cases u <;> cases h <;> rfl
end TI
set_option Elab.async false
set_option linter.all false
set_option maxRecDepth 100000
set_option maxHeartbeats 2000000
namespace TI
open PySem L2 DL
def neg (p : P2) : P2 := (0 - p.1, 0 - p.2)
def Tl.turned (t : Tl) : Tl := ⟨t.nm, t.cs, neg t.u, neg t.v⟩
def windsSum (cs : List P2) (ws : D) : Sum Err (P2 × P2) := match windsRes ws with
  | none => .inl .winds
  | some (u, v) => match badSide cs u v with
    | some e => .inl (.split (sideOf e.1 e.2))
    | none => .inr (u, v)
def dueD : Err → D
  | .name d => .tup [.str "InvalidName", d]
  | .corners a => .tup [.str "InvalidCorners", .int a]
  | .convex => .tup [.str "NotConvex"]
  | .winds => .tup [.str "InvalidWinds"]
  | .split s => .tup [.str "SplitSide", sd s]
def dueS {α : Type} : Sum Err α → D
  | .inl e => dueD e
  | .inr _ => .tup []
/-- a tile's values as the law holds them -/
def rowD (t : Tl) : D := .tup [.str t.nm, .tup (t.cs.map pt), .tup [pt t.u, pt t.v]]
/-- small winds of one quadrant -/
def Quad (sx sy : Int) (p : P2) : Prop := (p.1 = sx ∨ p.1 = 2 * sx ∨ p.1 = 3 * sx) ∧ (p.2 = sy ∨ p.2 = 2 * sy ∨ p.2 = 3 * sy)
def ways : List P2 := [(3, 1), (2, 1), (3, 2), (1, 1), (2, 3), (1, 2), (1, 3)]
def wayB (sx sy : Int) (k j : Nat) : Bool :=
  let u : P2 := (sx * (ways.getD k (0, 0)).1, sy * (ways.getD k (0, 0)).2)
  let v : P2 := (sx * (ways.getD j (0, 0)).1, sy * (ways.getD j (0, 0)).2)
  decide ((u.1 = sx ∨ u.1 = 2 * sx ∨ u.1 = 3 * sx) ∧ (u.2 = sy ∨ u.2 = 2 * sy ∨ u.2 = 3 * sy)) && (decide ((v.1 = sx ∨ v.1 = 2 * sx ∨ v.1 = 3 * sx) ∧ (v.2 = sy ∨ v.2 = 2 * sy ∨ v.2 = 3 * sy)) && decide (0 < cross u v ∨ 0 < cross v u))
def wayA (sx sy : Int) : Bool := (List.range 7).all fun j => (List.range j).all fun k => wayB sx sy k j
theorem wayA_all : wayA 1 1 = true ∧ wayA 1 (-1) = true ∧ wayA (-1) 1 = true ∧ wayA (-1) (-1) = true := by decide +kernel
theorem ways_ok {k j : Nat} {sx sy : Int} (h : k < j) (h7 : j < 7) (hx : sx = 1 ∨ sx = -1) (hy : sy = 1 ∨ sy = -1) :
    Quad sx sy (sx * (ways.getD k (0, 0)).1, sy * (ways.getD k (0, 0)).2) ∧ Quad sx sy (sx * (ways.getD j (0, 0)).1, sy * (ways.getD j (0, 0)).2) ∧
      (0 < cross (sx * (ways.getD k (0, 0)).1, sy * (ways.getD k (0, 0)).2) (sx * (ways.getD j (0, 0)).1, sy * (ways.getD j (0, 0)).2) ∨ 0 < cross (sx * (ways.getD j (0, 0)).1, sy * (ways.getD j (0, 0)).2) (sx * (ways.getD k (0, 0)).1, sy * (ways.getD k (0, 0)).2)) := by
  obtain ⟨a1, a2, a3, a4⟩ := wayA_all
  have ha : wayA sx sy = true := by
    rcases hx with rfl | rfl <;> rcases hy with rfl | rfl
    · exact a1
    · exact a2
    · exact a3
    · exact a4
  have hb := List.all_eq_true.mp (List.all_eq_true.mp ha j (List.mem_range.mpr h7)) k (List.mem_range.mpr h)
  unfold wayB at hb
  simp only [Bool.and_eq_true, decide_eq_true_eq] at hb
  exact hb
theorem quad_bd {sx sy : Int} {p : P2} (hx : sx = 1 ∨ sx = -1) (hy : sy = 1 ∨ sy = -1) (h : Quad sx sy p) : Bd p := by
  obtain ⟨h1, h2⟩ := h
  unfold Bd
  omega
end TI
set_option Elab.async false
set_option linter.all false
set_option maxRecDepth 100000
set_option maxHeartbeats 2000000
namespace DL
open PySem PySem.Spec PyProof.Rows L2
section
variable {X : Cx} {CX : CXT} {E : XK} {k : Nat} {f C : Addr} {mc : Value} {fd : FuncData} {ps : List Str} {φ : Ct} {x m : Str} {e tg : Expr} {pos apos : Pos} {τ : DE}
/-- len(x) by the class's own __len__ -/
def dLenO (C : Addr) (φ : Ct) : D1 := fun u M k _ => (∃ fs, insOf u M = some (C, fs)) ∧ φ [u] M (fun r M2 => ∃ n : Int, r = .int n ∧ (0 ≤ n ∧ n < 2 ^ 63) ∧ k (.int n) M2) (fun _ _ _ => False)
theorem c_lenO (hs : PySem.W.findIn X.K (.ref C) "__len__" = some (some (.ref f))) (hf : PySem.W.isFn X.K (.ref f) = true) (F : FnOk X.prog X.w X.K X.mg X.base (L2.CX X.prog X.w) k f fd ps (spD X.K 1 φ)) (hb : KBd X.K fd ps 1 [] (fun us _ => us)) (hr : Room (k + 1) X.A) :
    CallR X (.builtin "len") (rA X.K E (dOneN (dLenO C φ))) := by
  intro pins s σ H xs us Q I r h
  obtain ⟨s0, ds, kk, xx, rfl, ok, hx, ⟨u, rfl, ⟨fs, hi⟩, q⟩, p, px⟩ := h
  obtain ⟨v, rfl, rv⟩ := hx.one
  obtain ⟨a, da, fvs, rfl, ha, rf⟩ := ins_of ok rv hi
  obtain ⟨u', rfl, ru⟩ := vals1 r
  obtain rfl : u' = Value.ref a := ru
  obtain ⟨_, O, _⟩ := ins_get I.hok ha
  obtain ⟨_, J, _⟩ := O.look
  obtain ⟨m, hF⟩ := I.fr
  refine PySem.W.len_K hF I.ok.mod.kin J hs hf (wpAny_mono (run_At (Q := fun v H' => ∃ n : Int, v = .int n ∧ (0 ≤ n ∧ n < 2 ^ 63) ∧ Q (.int n) H') F (Room.in1 hr) I.env0.in1 hb I (vs := [.ref a]) (.cons rfl .nil) ⟨s0, [u], _, rfl, ok, .cons rv .nil, rfl, q, ?_⟩) (fun w s' z => ?_) fun _ _ x => x)
  · rintro r t ⟨y, rfl, hy, qy⟩ st okt v hv
    cases hv
    exact ⟨y, rfl, hy, p _ t qy st okt _ .int⟩
  · obtain ⟨z', H', I', rz, y, rfl, hy, qz⟩ := z
    obtain ⟨tk, rfl⟩ := rz
    exact ⟨hy, .int y, H', I'.tok _, ⟨_, rfl⟩, qz⟩
end
end DL
set_option Elab.async false
set_option linter.all false
set_option maxRecDepth 100000
set_option maxHeartbeats 2000000
namespace DL
open PySem PySem.Spec PyProof.Rows L2
end DL
set_option Elab.async false
set_option linter.all false
set_option maxRecDepth 100000
set_option maxHeartbeats 2000000
namespace DL
open PySem PySem.Spec PyProof.Rows L2
def dFrz (i : Nat) (t1 t2 t3 : DS) : DS := fun k x ρ M => t1 { k with nx := fun ρ1 M1 => t2 { k with nx := fun ρ2 M2 => ∃ a ds, M a = none ∧ M2 a = some (.lst ds) ∧ ρ2[i]? = some (some (.cel a)) ∧ t3 k x (ρ2.set i (some (.lst ds))) (mdel M2 a) } x ρ1 M1 } x ρ M
theorem b_frz {X : Cx} {E : XK} {s1 s2 : Stmt} {rest : List Stmt} {t1 t2 t3 : DS} (i : Nat) (h1 : DPS X E s1 t1) (h2 : DPS X E s2 t2) (h3 : DPB X E rest t3) : DPB X E (s1 :: s2 :: rest) (dFrz i t1 t2 t3) := pss_mono (pss_cons h1 (pss_cons h2 h3)) fun D σ H h => by
  obtain ⟨ρ, s, k, x, rfl, er, q, p, px⟩ := h
  refine ⟨ρ, s, _, x, rfl, er, q, ⟨fun ρ1 s1 q1 st1 σ1 er1 => ?_, p.rt, p.bk, p.ct⟩, px⟩
  refine ⟨ρ1, s1, _, x, rfl, er1, q1, ⟨fun ρ2 s2 q2 st2 σ2 er2 => ?_, (p.step st1).rt, (p.step st1).bk, (p.step st1).ct⟩, px.step st1⟩
  obtain ⟨a, ds, ha, hm, hi, q3⟩ := q2
  have st := st1.trans st2
  have ok2 := er2.ok
  obtain ⟨vs, hH, rv⟩ := ok2.cells _ _ hm
  obtain ⟨k2, st3, sm⟩ := ok2.freeze st (was_free st ok2 ha (by rw [hm]; rfl)) ha (by rw [hm]; rfl) hH
  refine ⟨ρ2.set i (some (.lst ds)), (⟨s2.H, upd s2.G a (.lst vs), mdel s2.M a⟩ : Sta), k, x, rfl, ⟨k2, by rw [List.length_set]; exact er2.len, fun j d hj => ?_⟩, q3, p.step st3, px.step st3⟩
  by_cases hji : i = j
  · subst hji
    obtain ⟨v, hv, rv1⟩ := er2.at_ i _ hi
    rw [List.getElem?_set_self (List.getElem?_eq_some_iff.mp hi).1] at hj
    cases hj
    rw [rv1.cel_of] at hv
    exact ⟨_, hv, .lst upd_same (rv.same sm)⟩
  · rw [List.getElem?_set_ne hji] at hj
    obtain ⟨v, hv, rv1⟩ := er2.at_ j d hj
    exact ⟨v, hv, rv1.same sm⟩
end DL
set_option Elab.async false
set_option linter.all false
set_option maxRecDepth 100000
set_option maxHeartbeats 2000000
namespace DL
open PySem PySem.Spec PyProof.Rows L2
def dAddM : D2 := fun x y M k _ => ∃ a xs ys, x = .cel a ∧ M a = some (.lst xs) ∧ y = .lst ys ∧ xs.length + ys.length ≤ sizeLine ∧ ∀ p, M p = none → k (.cel p) (mup M p (.lst (xs ++ ys)))
theorem o_addM {X : Cx} {E : XK} : OpR X (binaryOp .Add) (r2 X.K E dAddM) := by
  intro pins s σ H x y u v Q I rx ry h
  obtain ⟨s0, dx, dy, k, xx, rfl, ok, hx, hy, q, p, px⟩ := h
  obtain ⟨a, xs, ys, rfl, hm, rfl, hl, q⟩ := q
  have ex := hx.cel_of
  subst ex
  obtain ⟨vs, ha, r1⟩ := ok.cells _ _ hm
  obtain ⟨m, us, rfl, hm2, r2⟩ := hy.lst_of
  exact op_cat pins s σ _ _ _ u v Q I rx ry ⟨a, m, vs, us, rfl, rfl, ha, ok.sub _ _ hm2, by rw [r1.length, r2.length]; exact hl, fun t ht => p.lstM q ok (r1.append r2) ht⟩
end DL
set_option Elab.async false
set_option linter.all false
set_option maxRecDepth 100000
set_option maxHeartbeats 4000000
set_option pp.deepTerms false
set_option pp.deepTerms.threshold 12
set_option pp.maxSteps 4000
namespace W12
open PySem PySem.Spec PyProof.Rows L2 DL
def topS (i : Nat) : Stmt := PySem.Challenge.pw_gustfloor_k12_tiles_refused.main.body.getD i (.Pass ⟨0, 0, 0, 0⟩)
abbrev st_is_number : Stmt := topS 12
theorem sc_is_number : FnScope ["value"] ["value"] (defScope st_is_number) := ⟨rfl, rfl, rfl, by decide +kernel, rfl, by decide +kernel, by decide +kernel⟩
abbrev st_is_name : Stmt := topS 17
theorem sc_is_name : FnScope ["value", "letter"] ["value"] (defScope st_is_name) := ⟨rfl, rfl, rfl, by decide +kernel, rfl, by decide +kernel, by decide +kernel⟩
abbrev st_is_point : Stmt := topS 18
theorem sc_is_point : FnScope ["value", "part"] ["value"] (defScope st_is_point) := ⟨rfl, rfl, rfl, by decide +kernel, rfl, by decide +kernel, by decide +kernel⟩
abbrev st_is_wind : Stmt := topS 19
theorem sc_is_wind : FnScope ["value"] ["value"] (defScope st_is_wind) := ⟨rfl, rfl, rfl, by decide +kernel, rfl, by decide +kernel, by decide +kernel⟩
abbrev st_is_listed : Stmt := topS 20
theorem sc_is_listed : FnScope ["value"] ["value"] (defScope st_is_listed) := ⟨rfl, rfl, rfl, by decide +kernel, rfl, by decide +kernel, by decide +kernel⟩
abbrev st_cross : Stmt := topS 21
theorem sc_cross : FnScope ["one", "other"] ["one", "other"] (defScope st_cross) := ⟨rfl, rfl, rfl, by decide +kernel, rfl, by decide +kernel, by decide +kernel⟩
abbrev st_towards : Stmt := topS 22
theorem sc_towards : FnScope ["one", "other"] ["one", "other"] (defScope st_towards) := ⟨rfl, rfl, rfl, by decide +kernel, rfl, by decide +kernel, by decide +kernel⟩
abbrev st_turning : Stmt := topS 23
theorem sc_turning : FnScope ["one", "other", "third"] ["one", "other", "third"] (defScope st_turning) := ⟨rfl, rfl, rfl, by decide +kernel, rfl, by decide +kernel, by decide +kernel⟩
abbrev st_side_of : Stmt := topS 24
theorem sc_side_of : FnScope ["one", "other"] ["one", "other"] (defScope st_side_of) := ⟨rfl, rfl, rfl, by decide +kernel, rfl, by decide +kernel, by decide +kernel⟩
abbrev st_is_side : Stmt := topS 25
theorem sc_is_side : FnScope ["value"] ["value"] (defScope st_is_side) := ⟨rfl, rfl, rfl, by decide +kernel, rfl, by decide +kernel, by decide +kernel⟩
abbrev st_corner_pairs : Stmt := topS 31
theorem sc_corner_pairs : FnScope ["corners", "at"] ["corners"] (defScope st_corner_pairs) := ⟨rfl, rfl, rfl, by decide +kernel, rfl, by decide +kernel, by decide +kernel⟩
abbrev st_check_corners : Stmt := topS 29
theorem sc_check_corners : FnScope ["corners", "at", "corner", "found", "turns", "one", "other", "third"] ["corners"] (defScope st_check_corners) := ⟨rfl, rfl, rfl, by decide +kernel, rfl, by decide +kernel, by decide +kernel⟩
abbrev st_check_winds : Stmt := topS 30
theorem sc_check_winds : FnScope ["winds", "wind"] ["winds"] (defScope st_check_winds) := ⟨rfl, rfl, rfl, by decide +kernel, rfl, by decide +kernel, by decide +kernel⟩
abbrev st_Tile___init__ : Stmt := inClass (topS 32) 1
theorem sc_Tile___init__ : FnScope ["self", "name", "corners", "winds", "one", "other", "signs", "wind"] ["self", "name", "corners", "winds"] (defScope st_Tile___init__) := ⟨rfl, rfl, rfl, by decide +kernel, rfl, by decide +kernel, by decide +kernel⟩
abbrev st_Tile_label : Stmt := inClass (topS 32) 3
theorem sc_Tile_label : FnScope ["self"] ["self"] (defScope st_Tile_label) := ⟨rfl, rfl, rfl, by decide +kernel, rfl, by decide +kernel, by decide +kernel⟩
abbrev st_Tile_corners : Stmt := inClass (topS 32) 4
theorem sc_Tile_corners : FnScope ["self"] ["self"] (defScope st_Tile_corners) := ⟨rfl, rfl, rfl, by decide +kernel, rfl, by decide +kernel, by decide +kernel⟩
abbrev st_Tile_winds : Stmt := inClass (topS 32) 5
theorem sc_Tile_winds : FnScope ["self"] ["self"] (defScope st_Tile_winds) := ⟨rfl, rfl, rfl, by decide +kernel, rfl, by decide +kernel, by decide +kernel⟩
abbrev st_Tile_sides : Stmt := inClass (topS 32) 6
theorem sc_Tile_sides : FnScope ["self", "one", "other"] ["self"] (defScope st_Tile_sides) := ⟨rfl, rfl, rfl, by decide +kernel, rfl, by decide +kernel, by decide +kernel⟩
abbrev st_Tile_has_side : Stmt := inClass (topS 32) 7
theorem sc_Tile_has_side : FnScope ["self", "side"] ["self", "side"] (defScope st_Tile_has_side) := ⟨rfl, rfl, rfl, by decide +kernel, rfl, by decide +kernel, by decide +kernel⟩
abbrev st_Tile_lets_in : Stmt := inClass (topS 32) 8
theorem sc_Tile_lets_in : FnScope ["self", "side"] ["self", "side"] (defScope st_Tile_lets_in) := ⟨rfl, rfl, rfl, by decide +kernel, rfl, by decide +kernel, by decide +kernel⟩
abbrev st_Tile___len__ : Stmt := inClass (topS 32) 13
theorem sc_Tile___len__ : FnScope ["self"] ["self"] (defScope st_Tile___len__) := ⟨rfl, rfl, rfl, by decide +kernel, rfl, by decide +kernel, by decide +kernel⟩
abbrev st_Tile___repr__ : Stmt := inClass (topS 32) 14
theorem sc_Tile___repr__ : FnScope ["self"] ["self"] (defScope st_Tile___repr__) := ⟨rfl, rfl, rfl, by decide +kernel, rfl, by decide +kernel, by decide +kernel⟩
abbrev st__law_is_name : Stmt := topS 52
theorem sc__law_is_name : FnScope ["_law_word", "_law_good", "_law_sign"] ["_law_word"] (defScope st__law_is_name) := ⟨rfl, rfl, rfl, by decide +kernel, rfl, by decide +kernel, by decide +kernel⟩
abbrev st__law_is_dot : Stmt := topS 36
theorem sc__law_is_dot : FnScope ["_law_dot", "_law_n"] ["_law_dot"] (defScope st__law_is_dot) := ⟨rfl, rfl, rfl, by decide +kernel, rfl, by decide +kernel, by decide +kernel⟩
abbrev st__law_border : Stmt := topS 53
theorem sc__law_border : FnScope ["_law_tile", "_law_dots", "_law_k"] ["_law_tile"] (defScope st__law_border) := ⟨rfl, rfl, rfl, by decide +kernel, rfl, by decide +kernel, by decide +kernel⟩
abbrev st__law_cross : Stmt := topS 48
theorem sc__law_cross : FnScope ["_law_u", "_law_v"] ["_law_u", "_law_v"] (defScope st__law_cross) := ⟨rfl, rfl, rfl, by decide +kernel, rfl, by decide +kernel, by decide +kernel⟩
abbrev st__law_lead : Stmt := topS 37
theorem sc__law_lead : FnScope ["_law_p", "_law_q"] ["_law_p", "_law_q"] (defScope st__law_lead) := ⟨rfl, rfl, rfl, by decide +kernel, rfl, by decide +kernel, by decide +kernel⟩
abbrev st__law_turn : Stmt := topS 54
theorem sc__law_turn : FnScope ["_law_p", "_law_q", "_law_r"] ["_law_p", "_law_q", "_law_r"] (defScope st__law_turn) := ⟨rfl, rfl, rfl, by decide +kernel, rfl, by decide +kernel, by decide +kernel⟩
abbrev st__law_dots_due : Stmt := topS 55
theorem sc__law_dots_due : FnScope ["_law_dots", "_law_at", "_law_turns", "_law_p", "_law_q", "_law_r"] ["_law_dots"] (defScope st__law_dots_due) := ⟨rfl, rfl, rfl, by decide +kernel, rfl, by decide +kernel, by decide +kernel⟩
abbrev st__law_is_wind : Stmt := topS 38
theorem sc__law_is_wind : FnScope ["_law_wind"] ["_law_wind"] (defScope st__law_is_wind) := ⟨rfl, rfl, rfl, by decide +kernel, rfl, by decide +kernel, by decide +kernel⟩
abbrev st__law_key : Stmt := topS 46
theorem sc__law_key : FnScope ["_law_p", "_law_q"] ["_law_p", "_law_q"] (defScope st__law_key) := ⟨rfl, rfl, rfl, by decide +kernel, rfl, by decide +kernel, by decide +kernel⟩
abbrev st__law_winds_due : Stmt := topS 56
theorem sc__law_winds_due : FnScope ["_law_dots", "_law_gusts", "_law_p", "_law_q", "_law_a", "_law_b", "_law_wind"] ["_law_dots", "_law_gusts"] (defScope st__law_winds_due) := ⟨rfl, rfl, rfl, by decide +kernel, rfl, by decide +kernel, by decide +kernel⟩
abbrev st__law_tile_due : Stmt := topS 57
theorem sc__law_tile_due : FnScope ["_law_name_z", "_law_dots", "_law_gusts", "_law_due"] ["_law_name_z", "_law_dots", "_law_gusts"] (defScope st__law_tile_due) := ⟨rfl, rfl, rfl, by decide +kernel, rfl, by decide +kernel, by decide +kernel⟩
abbrev st__law_start : Stmt := topS 39
theorem sc__law_start : FnScope ["_law_script"] ["_law_script"] (defScope st__law_start) := ⟨rfl, rfl, rfl, by decide +kernel, rfl, by decide +kernel, by decide +kernel⟩
abbrev st__law_pull : Stmt := topS 34
theorem sc__law_pull : FnScope ["_law_bag", "_law_many", "_law_cell", "_law_digit", "_law_seed"] ["_law_bag", "_law_many"] (defScope st__law_pull) := ⟨rfl, rfl, rfl, by decide +kernel, rfl, by decide +kernel, by decide +kernel⟩
abbrev st__law_pick : Stmt := topS 35
theorem sc__law_pick : FnScope ["_law_bag", "_law_some"] ["_law_bag", "_law_some"] (defScope st__law_pick) := ⟨rfl, rfl, rfl, by decide +kernel, rfl, by decide +kernel, by decide +kernel⟩
abbrev st__law_winds : Stmt := topS 49
theorem sc__law_winds : FnScope ["_law_bag", "_law_sx", "_law_sy", "_law_ways", "_law_k", "_law_j", "_law_u", "_law_v"] ["_law_bag", "_law_sx", "_law_sy"] (defScope st__law_winds) := ⟨rfl, rfl, rfl, by decide +kernel, rfl, by decide +kernel, by decide +kernel⟩
abbrev st__law_keys : Stmt := topS 60
theorem sc__law_keys : FnScope ["_law_tile", "_law_p", "_law_q"] ["_law_tile"] (defScope st__law_keys) := ⟨rfl, rfl, rfl, by decide +kernel, rfl, by decide +kernel, by decide +kernel⟩
abbrev st__law_sort : Stmt := topS 61
theorem sc__law_sort : FnScope ["_law_thing", "_law_marks"] ["_law_thing"] (defScope st__law_sort) := ⟨rfl, rfl, rfl, by decide +kernel, rfl, by decide +kernel, by decide +kernel⟩
abbrev st__law_same : Stmt := topS 62
theorem sc__law_same : FnScope ["_law_found", "_law_due", "_law_a", "_law_b"] ["_law_found", "_law_due"] (defScope st__law_same) := ⟨rfl, rfl, rfl, by decide +kernel, rfl, by decide +kernel, by decide +kernel⟩
abbrev st__law_lets : Stmt := topS 63
theorem sc__law_lets : FnScope ["_law_tile", "_law_edge", "_law_found", "_law_p", "_law_q"] ["_law_tile", "_law_edge"] (defScope st__law_lets) := ⟨rfl, rfl, rfl, by decide +kernel, rfl, by decide +kernel, by decide +kernel⟩
abbrev st__law_tile_so : Stmt := topS 64
theorem sc__law_tile_so : FnScope ["_law_made", "_law_tile", "_law_found", "_law_due", "_law_truths", "_law_edge"] ["_law_made", "_law_tile"] (defScope st__law_tile_so) := ⟨rfl, rfl, rfl, by decide +kernel, rfl, by decide +kernel, by decide +kernel⟩
abbrev st__law_fields : Stmt := topS 58
theorem sc__law_fields : FnScope ["_law_e"] ["_law_e"] (defScope st__law_fields) := ⟨rfl, rfl, rfl, by decide +kernel, rfl, by decide +kernel, by decide +kernel⟩
abbrev st__law_shapes : Stmt := topS 40
theorem sc__law_shapes : FnScope [] [] (defScope st__law_shapes) := ⟨rfl, rfl, rfl, by decide +kernel, rfl, by decide +kernel, by decide +kernel⟩
abbrev st__law_new_names : Stmt := topS 41
theorem sc__law_new_names : FnScope ["_law_bag", "_law_many", "_law_letters", "_law_stem", "_law_k", "_law_at", "_law_first_k"] ["_law_bag", "_law_many"] (defScope st__law_new_names) := ⟨rfl, rfl, rfl, by decide +kernel, rfl, by decide +kernel, by decide +kernel⟩
abbrev st__law_moved : Stmt := topS 42
theorem sc__law_moved : FnScope ["_law_shape", "_law_dot"] ["_law_shape", "_law_dot"] (defScope st__law_moved) := ⟨rfl, rfl, rfl, by decide +kernel, rfl, by decide +kernel, by decide +kernel⟩
abbrev st__law_shuffled : Stmt := topS 43
theorem sc__law_shuffled : FnScope ["_law_bag", "_law_things", "_law_found", "_law_thing"] ["_law_bag", "_law_things"] (defScope st__law_shuffled) := ⟨rfl, rfl, rfl, by decide +kernel, rfl, by decide +kernel, by decide +kernel⟩
abbrev st__law_finished : Stmt := topS 44
theorem sc__law_finished : FnScope ["_law_bag", "_law_rows", "_law_shape", "_law_size", "_law_gust", "_law_off", "_law_names", "_law_found", "_law_k", "_law_dots", "_law_dot", "_law_by", "_law_gusts", "_law_wind"] ["_law_bag", "_law_rows"] (defScope st__law_finished) := ⟨rfl, rfl, rfl, by decide +kernel, rfl, by decide +kernel, by decide +kernel⟩
abbrev st__law_quarter : Stmt := topS 45
theorem sc__law_quarter : FnScope ["_law_bag", "_law_mode", "_law_i", "_law_j", "_law_sx", "_law_sy"] ["_law_bag", "_law_mode", "_law_i", "_law_j"] (defScope st__law_quarter) := ⟨rfl, rfl, rfl, by decide +kernel, rfl, by decide +kernel, by decide +kernel⟩
abbrev st__law_bordered : Stmt := topS 47
theorem sc__law_bordered : FnScope ["_law_extra", "_law_dots", "_law_found", "_law_k", "_law_edge"] ["_law_extra", "_law_dots"] (defScope st__law_bordered) := ⟨rfl, rfl, rfl, by decide +kernel, rfl, by decide +kernel, by decide +kernel⟩
abbrev st__law_grid : Stmt := topS 50
theorem sc__law_grid : FnScope ["_law_bag", "_law_wide", "_law_tall", "_law_mode", "_law_xs", "_law_ys", "_law_extra", "_law_found", "_law_k", "_law_i", "_law_j", "_law_dot", "_law_a", "_law_b", "_law_c", "_law_d", "_law_sx", "_law_sy", "_law_parts", "_law_part"] ["_law_bag", "_law_wide", "_law_tall", "_law_mode"] (defScope st__law_grid) := ⟨rfl, rfl, rfl, by decide +kernel, rfl, by decide +kernel, by decide +kernel⟩
abbrev st__law_drawn : Stmt := topS 51
theorem sc__law_drawn : FnScope ["_law_bag", "_law_wide", "_law_tall", "_law_mode"] ["_law_bag", "_law_wide", "_law_tall"] (defScope st__law_drawn) := ⟨rfl, rfl, rfl, by decide +kernel, rfl, by decide +kernel, by decide +kernel⟩
abbrev st__law_bent_dots : Stmt := topS 65
theorem sc__law_bent_dots : FnScope ["_law_bag", "_law_dots", "_law_at", "_law_way", "_law_p", "_law_q", "_law_k"] ["_law_bag", "_law_dots"] (defScope st__law_bent_dots) := ⟨rfl, rfl, rfl, by decide +kernel, rfl, by decide +kernel, by decide +kernel⟩
abbrev st__law_bent_winds : Stmt := topS 66
theorem sc__law_bent_winds : FnScope ["_law_bag", "_law_gusts", "_law_dots", "_law_u", "_law_v", "_law_way", "_law_lead_here"] ["_law_bag", "_law_gusts", "_law_dots"] (defScope st__law_bent_winds) := ⟨rfl, rfl, rfl, by decide +kernel, rfl, by decide +kernel, by decide +kernel⟩
abbrev st_law : Stmt := topS 67
theorem sc_law : FnScope ["_law_script", "_law_bag", "_law_spec", "_law_turn_k", "_law_tile", "_law_name_z", "_law_dots", "_law_winds_z", "_law_due", "_law_told"] ["_law_script"] (defScope st_law) := ⟨rfl, rfl, rfl, by decide +kernel, rfl, by decide +kernel, by decide +kernel⟩
abbrev st__law_try : Stmt := topS 59
theorem sc__law_try : FnScope ["_law_ask", "_law_e"] ["_law_ask"] (defScope st__law_try) := ⟨rfl, rfl, rfl, by decide +kernel, rfl, by decide +kernel, by decide +kernel⟩
abbrev st_InvalidName___init__ : Stmt := inClass (topS 4) 0
theorem ss_InvalidName : XI.SupS ["self", "name"] (defArgs st_InvalidName___init__) (defScope st_InvalidName___init__) := ⟨rfl, rfl, rfl, by decide +kernel, by decide +kernel, by decide +kernel, by decide +kernel, rfl, rfl, rfl, ⟨_, rfl, rfl⟩⟩
abbrev st_InvalidCorners___init__ : Stmt := inClass (topS 5) 0
theorem ss_InvalidCorners : XI.SupS ["self", "at"] (defArgs st_InvalidCorners___init__) (defScope st_InvalidCorners___init__) := ⟨rfl, rfl, rfl, by decide +kernel, by decide +kernel, by decide +kernel, by decide +kernel, rfl, rfl, rfl, ⟨_, rfl, rfl⟩⟩
abbrev st_NotConvex___init__ : Stmt := inClass (topS 6) 0
theorem ss_NotConvex : XI.SupS ["self"] (defArgs st_NotConvex___init__) (defScope st_NotConvex___init__) := ⟨rfl, rfl, rfl, by decide +kernel, by decide +kernel, by decide +kernel, by decide +kernel, rfl, rfl, rfl, ⟨_, rfl, rfl⟩⟩
abbrev st_InvalidWinds___init__ : Stmt := inClass (topS 7) 0
theorem ss_InvalidWinds : XI.SupS ["self"] (defArgs st_InvalidWinds___init__) (defScope st_InvalidWinds___init__) := ⟨rfl, rfl, rfl, by decide +kernel, by decide +kernel, by decide +kernel, by decide +kernel, rfl, rfl, rfl, ⟨_, rfl, rfl⟩⟩
abbrev st_SplitSide___init__ : Stmt := inClass (topS 8) 0
theorem ss_SplitSide : XI.SupS ["self", "side"] (defArgs st_SplitSide___init__) (defScope st_SplitSide___init__) := ⟨rfl, rfl, rfl, by decide +kernel, by decide +kernel, by decide +kernel, by decide +kernel, rfl, rfl, rfl, ⟨_, rfl, rfl⟩⟩
abbrev st_UnknownSide___init__ : Stmt := inClass (topS 9) 0
theorem ss_UnknownSide : XI.SupS ["self", "side"] (defArgs st_UnknownSide___init__) (defScope st_UnknownSide___init__) := ⟨rfl, rfl, rfl, by decide +kernel, by decide +kernel, by decide +kernel, by decide +kernel, rfl, rfl, rfl, ⟨_, rfl, rfl⟩⟩
abbrev CS (cl : Nat → Addr) : List Addr := [cl 0]
structure Txt (K : PySem.W.Frag) (mg : Str → Option Value) (ad : Nat → Addr) (fd : Nat → FuncData) (cl : Nat → Addr) : Prop where
  m_Tile : mg "Tile" = some (.ref (cl 0))
  ci_Tile : ClsI K (cl 0)
  sf_Tile : PySem.W.selfFirst K (cl 0) = true
  isiC_Tile : ∀ C ∈ CS cl, ClsI K C ∧ PySem.W.kitOne K (.ref C) (.ref (cl 0)) = some (decide (C = cl 0))
  isiB_Tile : ∀ u : Kd, PySem.W.kitOne K (.type u.nm) (.ref (cl 0)) = some false
  isi_bool : ∀ C ∈ CS cl, ClsI K C ∧ PySem.W.kitOne K (.ref C) (.type (Kd.nm .bl)) = some false
  isi_int : ∀ C ∈ CS cl, ClsI K C ∧ PySem.W.kitOne K (.ref C) (.type (Kd.nm .int)) = some false
  isi_list : ∀ C ∈ CS cl, ClsI K C ∧ PySem.W.kitOne K (.ref C) (.type (Kd.nm .lst)) = some false
  isi_str : ∀ C ∈ CS cl, ClsI K C ∧ PySem.W.kitOne K (.ref C) (.type (Kd.nm .str)) = some false
  isi_tuple : ∀ C ∈ CS cl, ClsI K C ∧ PySem.W.kitOne K (.ref C) (.type (Kd.nm .tup)) = some false
  na_Tile_inward : NoAttr K (cl 0) "inward"
  na_Tile_own_corners : NoAttr K (cl 0) "own_corners"
  na_Tile_own_name : NoAttr K (cl 0) "own_name"
  na_Tile_own_winds : NoAttr K (cl 0) "own_winds"
  m_is_number : mg "is_number" = some (.ref (ad 0))
  k_is_number : PySem.W.keepIn K (.ref (ad 0)) = true
  F_is_number : FunD K "is_number" "is_number" (defArgs st_is_number) (defBody st_is_number) (defScope st_is_number) [] [] (ad 0) (fd 0)
  kb_is_number_1 : KBd K (fd 0) ["value"] 1 [] (fun us _ => us)
  m_is_name : mg "is_name" = some (.ref (ad 1))
  k_is_name : PySem.W.keepIn K (.ref (ad 1)) = true
  F_is_name : FunD K "is_name" "is_name" (defArgs st_is_name) (defBody st_is_name) (defScope st_is_name) [] [] (ad 1) (fd 1)
  kb_is_name_1 : KBd K (fd 1) ["value"] 1 [] (fun us _ => us)
  m_is_point : mg "is_point" = some (.ref (ad 2))
  k_is_point : PySem.W.keepIn K (.ref (ad 2)) = true
  F_is_point : FunD K "is_point" "is_point" (defArgs st_is_point) (defBody st_is_point) (defScope st_is_point) [] [] (ad 2) (fd 2)
  kb_is_point_1 : KBd K (fd 2) ["value"] 1 [] (fun us _ => us)
  m_is_wind : mg "is_wind" = some (.ref (ad 3))
  k_is_wind : PySem.W.keepIn K (.ref (ad 3)) = true
  F_is_wind : FunD K "is_wind" "is_wind" (defArgs st_is_wind) (defBody st_is_wind) (defScope st_is_wind) [] [] (ad 3) (fd 3)
  kb_is_wind_1 : KBd K (fd 3) ["value"] 1 [] (fun us _ => us)
  m_is_listed : mg "is_listed" = some (.ref (ad 4))
  k_is_listed : PySem.W.keepIn K (.ref (ad 4)) = true
  F_is_listed : FunD K "is_listed" "is_listed" (defArgs st_is_listed) (defBody st_is_listed) (defScope st_is_listed) [] [] (ad 4) (fd 4)
  kb_is_listed_1 : KBd K (fd 4) ["value"] 1 [] (fun us _ => us)
  m_cross : mg "cross" = some (.ref (ad 5))
  k_cross : PySem.W.keepIn K (.ref (ad 5)) = true
  F_cross : FunD K "cross" "cross" (defArgs st_cross) (defBody st_cross) (defScope st_cross) [] [] (ad 5) (fd 5)
  kb_cross_2 : KBd K (fd 5) ["one", "other"] 2 [] (fun us _ => us)
  m_towards : mg "towards" = some (.ref (ad 6))
  k_towards : PySem.W.keepIn K (.ref (ad 6)) = true
  F_towards : FunD K "towards" "towards" (defArgs st_towards) (defBody st_towards) (defScope st_towards) [] [] (ad 6) (fd 6)
  kb_towards_2 : KBd K (fd 6) ["one", "other"] 2 [] (fun us _ => us)
  m_turning : mg "turning" = some (.ref (ad 7))
  k_turning : PySem.W.keepIn K (.ref (ad 7)) = true
  F_turning : FunD K "turning" "turning" (defArgs st_turning) (defBody st_turning) (defScope st_turning) [] [] (ad 7) (fd 7)
  kb_turning_3 : KBd K (fd 7) ["one", "other", "third"] 3 [] (fun us _ => us)
  m_side_of : mg "side_of" = some (.ref (ad 8))
  k_side_of : PySem.W.keepIn K (.ref (ad 8)) = true
  F_side_of : FunD K "side_of" "side_of" (defArgs st_side_of) (defBody st_side_of) (defScope st_side_of) [] [] (ad 8) (fd 8)
  kb_side_of_2 : KBd K (fd 8) ["one", "other"] 2 [] (fun us _ => us)
  m_is_side : mg "is_side" = some (.ref (ad 9))
  k_is_side : PySem.W.keepIn K (.ref (ad 9)) = true
  F_is_side : FunD K "is_side" "is_side" (defArgs st_is_side) (defBody st_is_side) (defScope st_is_side) [] [] (ad 9) (fd 9)
  kb_is_side_1 : KBd K (fd 9) ["value"] 1 [] (fun us _ => us)
  m_corner_pairs : mg "corner_pairs" = some (.ref (ad 10))
  k_corner_pairs : PySem.W.keepIn K (.ref (ad 10)) = true
  F_corner_pairs : FunD K "corner_pairs" "corner_pairs" (defArgs st_corner_pairs) (defBody st_corner_pairs) (defScope st_corner_pairs) [] [] (ad 10) (fd 10)
  kb_corner_pairs_1 : KBd K (fd 10) ["corners"] 1 [] (fun us _ => us)
  m_check_corners : mg "check_corners" = some (.ref (ad 11))
  k_check_corners : PySem.W.keepIn K (.ref (ad 11)) = true
  F_check_corners : FunD K "check_corners" "check_corners" (defArgs st_check_corners) (defBody st_check_corners) (defScope st_check_corners) [] [] (ad 11) (fd 11)
  kb_check_corners_1 : KBd K (fd 11) ["corners"] 1 [] (fun us _ => us)
  m_check_winds : mg "check_winds" = some (.ref (ad 12))
  k_check_winds : PySem.W.keepIn K (.ref (ad 12)) = true
  F_check_winds : FunD K "check_winds" "check_winds" (defArgs st_check_winds) (defBody st_check_winds) (defScope st_check_winds) [] [] (ad 12) (fd 12)
  kb_check_winds_1 : KBd K (fd 12) ["winds"] 1 [] (fun us _ => us)
  F_Tile___init__ : FunD K "__init__" "Tile.__init__" (defArgs st_Tile___init__) (defBody st_Tile___init__) (defScope st_Tile___init__) [] [] (ad 13) (fd 13)
  mk_Tile : Mk K (cl 0) (ad 13)
  kb_Tile___init___4 : KBd K (fd 13) ["self", "name", "corners", "winds"] 4 [] (fun us _ => us)
  F_Tile_label : FunD K "label" "Tile.label" (defArgs st_Tile_label) (defBody st_Tile_label) (defScope st_Tile_label) [] [] (ad 14) (fd 14)
  pp_Tile_label : ∃ pa, PropOf K (cl 0) "label" pa (ad 14)
  bb_Tile_label : Binds K (fd 14) ["self"] []
  F_Tile_corners : FunD K "corners" "Tile.corners" (defArgs st_Tile_corners) (defBody st_Tile_corners) (defScope st_Tile_corners) [] [] (ad 15) (fd 15)
  pp_Tile_corners : ∃ pa, PropOf K (cl 0) "corners" pa (ad 15)
  bb_Tile_corners : Binds K (fd 15) ["self"] []
  F_Tile_winds : FunD K "winds" "Tile.winds" (defArgs st_Tile_winds) (defBody st_Tile_winds) (defScope st_Tile_winds) [] [] (ad 16) (fd 16)
  pp_Tile_winds : ∃ pa, PropOf K (cl 0) "winds" pa (ad 16)
  bb_Tile_winds : Binds K (fd 16) ["self"] []
  F_Tile_sides : FunD K "sides" "Tile.sides" (defArgs st_Tile_sides) (defBody st_Tile_sides) (defScope st_Tile_sides) [] [] (ad 17) (fd 17)
  mt_Tile_sides : Meth K (cl 0) "sides" (ad 17)
  kb_Tile_sides_1 : KBd K (fd 17) ["self"] 1 [] (fun us _ => us)
  F_Tile_has_side : FunD K "has_side" "Tile.has_side" (defArgs st_Tile_has_side) (defBody st_Tile_has_side) (defScope st_Tile_has_side) [] [] (ad 18) (fd 18)
  mt_Tile_has_side : Meth K (cl 0) "has_side" (ad 18)
  kb_Tile_has_side_2 : KBd K (fd 18) ["self", "side"] 2 [] (fun us _ => us)
  F_Tile_lets_in : FunD K "lets_in" "Tile.lets_in" (defArgs st_Tile_lets_in) (defBody st_Tile_lets_in) (defScope st_Tile_lets_in) [] [] (ad 19) (fd 19)
  mt_Tile_lets_in : Meth K (cl 0) "lets_in" (ad 19)
  kb_Tile_lets_in_2 : KBd K (fd 19) ["self", "side"] 2 [] (fun us _ => us)
  F_Tile___len__ : FunD K "__len__" "Tile.__len__" (defArgs st_Tile___len__) (defBody st_Tile___len__) (defScope st_Tile___len__) [] [] (ad 20) (fd 20)
  sp_Tile___len__ : PySem.W.findIn K (.ref (cl 0)) "__len__" = some (some (.ref (ad 20)))
  fn_Tile___len__ : PySem.W.isFn K (.ref (ad 20)) = true
  kb_Tile___len___1 : KBd K (fd 20) ["self"] 1 [] (fun us _ => us)
  F_Tile___repr__ : FunD K "__repr__" "Tile.__repr__" (defArgs st_Tile___repr__) (defBody st_Tile___repr__) (defScope st_Tile___repr__) [] [] (ad 21) (fd 21)
  sp_Tile___repr__ : PySem.W.findIn K (.ref (cl 0)) "__repr__" = some (some (.ref (ad 21)))
  fn_Tile___repr__ : PySem.W.isFn K (.ref (ad 21)) = true
  kb_Tile___repr___1 : KBd K (fd 21) ["self"] 1 [] (fun us _ => us)
  m__law_is_name : mg "_law_is_name" = some (.ref (ad 22))
  k__law_is_name : PySem.W.keepIn K (.ref (ad 22)) = true
  F__law_is_name : FunD K "_law_is_name" "_law_is_name" (defArgs st__law_is_name) (defBody st__law_is_name) (defScope st__law_is_name) [] [] (ad 22) (fd 22)
  kb__law_is_name_1 : KBd K (fd 22) ["_law_word"] 1 [] (fun us _ => us)
  m__law_is_dot : mg "_law_is_dot" = some (.ref (ad 23))
  k__law_is_dot : PySem.W.keepIn K (.ref (ad 23)) = true
  F__law_is_dot : FunD K "_law_is_dot" "_law_is_dot" (defArgs st__law_is_dot) (defBody st__law_is_dot) (defScope st__law_is_dot) [] [] (ad 23) (fd 23)
  kb__law_is_dot_1 : KBd K (fd 23) ["_law_dot"] 1 [] (fun us _ => us)
  m__law_border : mg "_law_border" = some (.ref (ad 24))
  k__law_border : PySem.W.keepIn K (.ref (ad 24)) = true
  F__law_border : FunD K "_law_border" "_law_border" (defArgs st__law_border) (defBody st__law_border) (defScope st__law_border) [] [] (ad 24) (fd 24)
  kb__law_border_1 : KBd K (fd 24) ["_law_tile"] 1 [] (fun us _ => us)
  m__law_cross : mg "_law_cross" = some (.ref (ad 25))
  k__law_cross : PySem.W.keepIn K (.ref (ad 25)) = true
  F__law_cross : FunD K "_law_cross" "_law_cross" (defArgs st__law_cross) (defBody st__law_cross) (defScope st__law_cross) [] [] (ad 25) (fd 25)
  kb__law_cross_2 : KBd K (fd 25) ["_law_u", "_law_v"] 2 [] (fun us _ => us)
  m__law_lead : mg "_law_lead" = some (.ref (ad 26))
  k__law_lead : PySem.W.keepIn K (.ref (ad 26)) = true
  F__law_lead : FunD K "_law_lead" "_law_lead" (defArgs st__law_lead) (defBody st__law_lead) (defScope st__law_lead) [] [] (ad 26) (fd 26)
  kb__law_lead_2 : KBd K (fd 26) ["_law_p", "_law_q"] 2 [] (fun us _ => us)
  m__law_turn : mg "_law_turn" = some (.ref (ad 27))
  k__law_turn : PySem.W.keepIn K (.ref (ad 27)) = true
  F__law_turn : FunD K "_law_turn" "_law_turn" (defArgs st__law_turn) (defBody st__law_turn) (defScope st__law_turn) [] [] (ad 27) (fd 27)
  kb__law_turn_3 : KBd K (fd 27) ["_law_p", "_law_q", "_law_r"] 3 [] (fun us _ => us)
  m__law_dots_due : mg "_law_dots_due" = some (.ref (ad 28))
  k__law_dots_due : PySem.W.keepIn K (.ref (ad 28)) = true
  F__law_dots_due : FunD K "_law_dots_due" "_law_dots_due" (defArgs st__law_dots_due) (defBody st__law_dots_due) (defScope st__law_dots_due) [] [] (ad 28) (fd 28)
  kb__law_dots_due_1 : KBd K (fd 28) ["_law_dots"] 1 [] (fun us _ => us)
  m__law_is_wind : mg "_law_is_wind" = some (.ref (ad 29))
  k__law_is_wind : PySem.W.keepIn K (.ref (ad 29)) = true
  F__law_is_wind : FunD K "_law_is_wind" "_law_is_wind" (defArgs st__law_is_wind) (defBody st__law_is_wind) (defScope st__law_is_wind) [] [] (ad 29) (fd 29)
  kb__law_is_wind_1 : KBd K (fd 29) ["_law_wind"] 1 [] (fun us _ => us)
  m__law_key : mg "_law_key" = some (.ref (ad 30))
  k__law_key : PySem.W.keepIn K (.ref (ad 30)) = true
  F__law_key : FunD K "_law_key" "_law_key" (defArgs st__law_key) (defBody st__law_key) (defScope st__law_key) [] [] (ad 30) (fd 30)
  kb__law_key_2 : KBd K (fd 30) ["_law_p", "_law_q"] 2 [] (fun us _ => us)
  m__law_winds_due : mg "_law_winds_due" = some (.ref (ad 31))
  k__law_winds_due : PySem.W.keepIn K (.ref (ad 31)) = true
  F__law_winds_due : FunD K "_law_winds_due" "_law_winds_due" (defArgs st__law_winds_due) (defBody st__law_winds_due) (defScope st__law_winds_due) [] [] (ad 31) (fd 31)
  kb__law_winds_due_2 : KBd K (fd 31) ["_law_dots", "_law_gusts"] 2 [] (fun us _ => us)
  m__law_tile_due : mg "_law_tile_due" = some (.ref (ad 32))
  k__law_tile_due : PySem.W.keepIn K (.ref (ad 32)) = true
  F__law_tile_due : FunD K "_law_tile_due" "_law_tile_due" (defArgs st__law_tile_due) (defBody st__law_tile_due) (defScope st__law_tile_due) [] [] (ad 32) (fd 32)
  kb__law_tile_due_3 : KBd K (fd 32) ["_law_name_z", "_law_dots", "_law_gusts"] 3 [] (fun us _ => us)
  m__law_start : mg "_law_start" = some (.ref (ad 33))
  k__law_start : PySem.W.keepIn K (.ref (ad 33)) = true
  F__law_start : FunD K "_law_start" "_law_start" (defArgs st__law_start) (defBody st__law_start) (defScope st__law_start) [] [] (ad 33) (fd 33)
  kb__law_start_1 : KBd K (fd 33) ["_law_script"] 1 [] (fun us _ => us)
  m__law_pull : mg "_law_pull" = some (.ref (ad 34))
  k__law_pull : PySem.W.keepIn K (.ref (ad 34)) = true
  F__law_pull : FunD K "_law_pull" "_law_pull" (defArgs st__law_pull) (defBody st__law_pull) (defScope st__law_pull) [] [] (ad 34) (fd 34)
  kb__law_pull_2 : KBd K (fd 34) ["_law_bag", "_law_many"] 2 [] (fun us _ => us)
  m__law_pick : mg "_law_pick" = some (.ref (ad 35))
  k__law_pick : PySem.W.keepIn K (.ref (ad 35)) = true
  F__law_pick : FunD K "_law_pick" "_law_pick" (defArgs st__law_pick) (defBody st__law_pick) (defScope st__law_pick) [] [] (ad 35) (fd 35)
  kb__law_pick_2 : KBd K (fd 35) ["_law_bag", "_law_some"] 2 [] (fun us _ => us)
  m__law_winds : mg "_law_winds" = some (.ref (ad 36))
  k__law_winds : PySem.W.keepIn K (.ref (ad 36)) = true
  F__law_winds : FunD K "_law_winds" "_law_winds" (defArgs st__law_winds) (defBody st__law_winds) (defScope st__law_winds) [] [] (ad 36) (fd 36)
  kb__law_winds_3 : KBd K (fd 36) ["_law_bag", "_law_sx", "_law_sy"] 3 [] (fun us _ => us)
  m__law_keys : mg "_law_keys" = some (.ref (ad 37))
  k__law_keys : PySem.W.keepIn K (.ref (ad 37)) = true
  F__law_keys : FunD K "_law_keys" "_law_keys" (defArgs st__law_keys) (defBody st__law_keys) (defScope st__law_keys) [] [] (ad 37) (fd 37)
  kb__law_keys_1 : KBd K (fd 37) ["_law_tile"] 1 [] (fun us _ => us)
  m__law_sort : mg "_law_sort" = some (.ref (ad 38))
  k__law_sort : PySem.W.keepIn K (.ref (ad 38)) = true
  F__law_sort : FunD K "_law_sort" "_law_sort" (defArgs st__law_sort) (defBody st__law_sort) (defScope st__law_sort) [] [] (ad 38) (fd 38)
  kb__law_sort_1 : KBd K (fd 38) ["_law_thing"] 1 [] (fun us _ => us)
  m__law_same : mg "_law_same" = some (.ref (ad 39))
  k__law_same : PySem.W.keepIn K (.ref (ad 39)) = true
  F__law_same : FunD K "_law_same" "_law_same" (defArgs st__law_same) (defBody st__law_same) (defScope st__law_same) [] [] (ad 39) (fd 39)
  kb__law_same_2 : KBd K (fd 39) ["_law_found", "_law_due"] 2 [] (fun us _ => us)
  m__law_lets : mg "_law_lets" = some (.ref (ad 40))
  k__law_lets : PySem.W.keepIn K (.ref (ad 40)) = true
  F__law_lets : FunD K "_law_lets" "_law_lets" (defArgs st__law_lets) (defBody st__law_lets) (defScope st__law_lets) [] [] (ad 40) (fd 40)
  kb__law_lets_2 : KBd K (fd 40) ["_law_tile", "_law_edge"] 2 [] (fun us _ => us)
  m__law_tile_so : mg "_law_tile_so" = some (.ref (ad 41))
  k__law_tile_so : PySem.W.keepIn K (.ref (ad 41)) = true
  F__law_tile_so : FunD K "_law_tile_so" "_law_tile_so" (defArgs st__law_tile_so) (defBody st__law_tile_so) (defScope st__law_tile_so) [] [] (ad 41) (fd 41)
  kb__law_tile_so_2 : KBd K (fd 41) ["_law_made", "_law_tile"] 2 [] (fun us _ => us)
  m__law_fields : mg "_law_fields" = some (.ref (ad 42))
  k__law_fields : PySem.W.keepIn K (.ref (ad 42)) = true
  F__law_fields : FunD K "_law_fields" "_law_fields" (defArgs st__law_fields) (defBody st__law_fields) (defScope st__law_fields) [] [] (ad 42) (fd 42)
  bb__law_fields : Binds K (fd 42) ["_law_e"] []
  m__law_shapes : mg "_law_shapes" = some (.ref (ad 43))
  k__law_shapes : PySem.W.keepIn K (.ref (ad 43)) = true
  F__law_shapes : FunD K "_law_shapes" "_law_shapes" (defArgs st__law_shapes) (defBody st__law_shapes) (defScope st__law_shapes) [] [] (ad 43) (fd 43)
  kb__law_shapes_0 : KBd K (fd 43) [] 0 [] (fun us _ => us)
  m__law_new_names : mg "_law_new_names" = some (.ref (ad 44))
  k__law_new_names : PySem.W.keepIn K (.ref (ad 44)) = true
  F__law_new_names : FunD K "_law_new_names" "_law_new_names" (defArgs st__law_new_names) (defBody st__law_new_names) (defScope st__law_new_names) [] [] (ad 44) (fd 44)
  kb__law_new_names_2 : KBd K (fd 44) ["_law_bag", "_law_many"] 2 [] (fun us _ => us)
  m__law_moved : mg "_law_moved" = some (.ref (ad 45))
  k__law_moved : PySem.W.keepIn K (.ref (ad 45)) = true
  F__law_moved : FunD K "_law_moved" "_law_moved" (defArgs st__law_moved) (defBody st__law_moved) (defScope st__law_moved) [] [] (ad 45) (fd 45)
  kb__law_moved_2 : KBd K (fd 45) ["_law_shape", "_law_dot"] 2 [] (fun us _ => us)
  m__law_shuffled : mg "_law_shuffled" = some (.ref (ad 46))
  k__law_shuffled : PySem.W.keepIn K (.ref (ad 46)) = true
  F__law_shuffled : FunD K "_law_shuffled" "_law_shuffled" (defArgs st__law_shuffled) (defBody st__law_shuffled) (defScope st__law_shuffled) [] [] (ad 46) (fd 46)
  kb__law_shuffled_2 : KBd K (fd 46) ["_law_bag", "_law_things"] 2 [] (fun us _ => us)
  m__law_finished : mg "_law_finished" = some (.ref (ad 47))
  k__law_finished : PySem.W.keepIn K (.ref (ad 47)) = true
  F__law_finished : FunD K "_law_finished" "_law_finished" (defArgs st__law_finished) (defBody st__law_finished) (defScope st__law_finished) [] [] (ad 47) (fd 47)
  kb__law_finished_2 : KBd K (fd 47) ["_law_bag", "_law_rows"] 2 [] (fun us _ => us)
  m__law_quarter : mg "_law_quarter" = some (.ref (ad 48))
  k__law_quarter : PySem.W.keepIn K (.ref (ad 48)) = true
  F__law_quarter : FunD K "_law_quarter" "_law_quarter" (defArgs st__law_quarter) (defBody st__law_quarter) (defScope st__law_quarter) [] [] (ad 48) (fd 48)
  kb__law_quarter_4 : KBd K (fd 48) ["_law_bag", "_law_mode", "_law_i", "_law_j"] 4 [] (fun us _ => us)
  m__law_bordered : mg "_law_bordered" = some (.ref (ad 49))
  k__law_bordered : PySem.W.keepIn K (.ref (ad 49)) = true
  F__law_bordered : FunD K "_law_bordered" "_law_bordered" (defArgs st__law_bordered) (defBody st__law_bordered) (defScope st__law_bordered) [] [] (ad 49) (fd 49)
  kb__law_bordered_2 : KBd K (fd 49) ["_law_extra", "_law_dots"] 2 [] (fun us _ => us)
  m__law_grid : mg "_law_grid" = some (.ref (ad 50))
  k__law_grid : PySem.W.keepIn K (.ref (ad 50)) = true
  F__law_grid : FunD K "_law_grid" "_law_grid" (defArgs st__law_grid) (defBody st__law_grid) (defScope st__law_grid) [] [] (ad 50) (fd 50)
  kb__law_grid_4 : KBd K (fd 50) ["_law_bag", "_law_wide", "_law_tall", "_law_mode"] 4 [] (fun us _ => us)
  m__law_drawn : mg "_law_drawn" = some (.ref (ad 51))
  k__law_drawn : PySem.W.keepIn K (.ref (ad 51)) = true
  F__law_drawn : FunD K "_law_drawn" "_law_drawn" (defArgs st__law_drawn) (defBody st__law_drawn) (defScope st__law_drawn) [] [] (ad 51) (fd 51)
  kb__law_drawn_3 : KBd K (fd 51) ["_law_bag", "_law_wide", "_law_tall"] 3 [] (fun us _ => us)
  m__law_bent_dots : mg "_law_bent_dots" = some (.ref (ad 52))
  k__law_bent_dots : PySem.W.keepIn K (.ref (ad 52)) = true
  F__law_bent_dots : FunD K "_law_bent_dots" "_law_bent_dots" (defArgs st__law_bent_dots) (defBody st__law_bent_dots) (defScope st__law_bent_dots) [] [] (ad 52) (fd 52)
  kb__law_bent_dots_2 : KBd K (fd 52) ["_law_bag", "_law_dots"] 2 [] (fun us _ => us)
  m__law_bent_winds : mg "_law_bent_winds" = some (.ref (ad 53))
  k__law_bent_winds : PySem.W.keepIn K (.ref (ad 53)) = true
  F__law_bent_winds : FunD K "_law_bent_winds" "_law_bent_winds" (defArgs st__law_bent_winds) (defBody st__law_bent_winds) (defScope st__law_bent_winds) [] [] (ad 53) (fd 53)
  kb__law_bent_winds_3 : KBd K (fd 53) ["_law_bag", "_law_gusts", "_law_dots"] 3 [] (fun us _ => us)
  m_law : mg "law" = some (.ref (ad 54))
  k_law : PySem.W.keepIn K (.ref (ad 54)) = true
  F_law : FunD K "law" "law" (defArgs st_law) (defBody st_law) (defScope st_law) [] [] (ad 54) (fd 54)
  b_abs : mg "abs" = none
  b_all : mg "all" = none
  b_bool : mg "bool" = none
  b_enumerate : mg "enumerate" = none
  b_int : mg "int" = none
  b_isinstance : mg "isinstance" = none
  b_len : mg "len" = none
  b_list : mg "list" = none
  b_max : mg "max" = none
  b_min : mg "min" = none
  b_range : mg "range" = none
  b_repr : mg "repr" = none
  b_str : mg "str" = none
  b_tuple : mg "tuple" = none
  b_zip : mg "zip" = none
  c_FARTHEST : ∃ u, mg "FARTHEST" = some u ∧ KC (.int 1000000) u
  c_FEWEST : ∃ u, mg "FEWEST" = some u ∧ KC (.int 3) u
  c_LETTERS : ∃ u, mg "LETTERS" = some u ∧ KC (.str "abcdefghijklmnopqrstuvwxyz") u
  c_LONGEST_NAME : ∃ u, mg "LONGEST_NAME" = some u ∧ KC (.int 8) u
  c_MOST_CORNERS : ∃ u, mg "MOST_CORNERS" = some u ∧ KC (.int 8) u
/-- what is known of the errors' classes -/
structure ErT (P : Program) (w : World) (K : PySem.W.Frag) (mg : Str → Option Value) (base : Heap) (er : Nat → Addr) (cs : List Value) : Prop where
  e_InvalidName : ErrF P w K mg base "InvalidName" (er 0) 1 [] (XI.fl1 "InvalidName" "name")
  e_InvalidCorners : ErrF P w K mg base "InvalidCorners" (er 1) 1 [] (XI.fl1 "InvalidCorners" "at")
  e_NotConvex : ErrF P w K mg base "NotConvex" (er 2) 0 [] (XI.fl0 "NotConvex")
  e_InvalidWinds : ErrF P w K mg base "InvalidWinds" (er 3) 0 [] (XI.fl0 "InvalidWinds")
  e_SplitSide : ErrF P w K mg base "SplitSide" (er 4) 1 [] (XI.fl1 "SplitSide" "side")
  e_UnknownSide : ErrF P w K mg base "UnknownSide" (er 5) 1 [] (XI.fl1 "UnknownSide" "side")
  gd : ∀ i, i < 6 → GoodX K cs (er i)
end W12
set_option Elab.async false
set_option linter.all false
set_option maxRecDepth 100000
set_option maxHeartbeats 4000000
set_option pp.deepTerms false
set_option pp.deepTerms.threshold 12
set_option pp.maxSteps 4000
namespace W12
open PySem PySem.Spec PyProof.Rows L2 DL
local macro_rules | `(tactic| walk_at "sc") => `(tactic| first | assumption | rfl | exact Nat.le_of_ble_eq_true rfl | decide | omega | exact mul_small (by omega) (by omega) | exact mul_smallR (by omega) (by omega) | exact ⟨by decide, by decide, by decide⟩ | exact ⟨by omega, by assumption⟩ | exact ⟨by decide, log2_small (by decide) (by decide)⟩)
local macro_rules | `(tactic| walk_at "go1") => `(tactic| first | refine ⟨_, rfl, ?_⟩ | refine ⟨rfl, ?_⟩ | refine ⟨_, by assumption, ?_⟩ | refine ⟨_, mup_same, ?_⟩ | refine eqI ?_ | refine neI ?_ | refine iteT ?_ | refine iteF ?_ | refine ⟨(by walk_at "sc"), ?_⟩)
local macro_rules | `(tactic| walk_at "go") => `(tactic| repeat walk_at "go1")
open TI in
/-- an error as it is raised -/
def errK (er : Nat → Addr) : Err → DX → Mm → Prop
  | .name d, x, M => x (er 0) [("code", .str "InvalidName"), ("name", d)] M
  | .corners a, x, M => x (er 1) [("code", .str "InvalidCorners"), ("at", .int a)] M
  | .convex, x, M => x (er 2) [("code", .str "NotConvex")] M
  | .winds, x, M => x (er 3) [("code", .str "InvalidWinds")] M
  | .split s, x, M => x (er 4) [("code", .str "SplitSide"), ("side", sd s)] M
def Ext (M M' : Mm) : Prop := ∀ a mo, M a = some mo → M' a = some mo
theorem Ext.refl (M : Mm) : Ext M M := fun _ _ h => h
theorem Ext.trans {A B C : Mm} (h : Ext A B) (h' : Ext B C) : Ext A C := fun a mo e => h' a mo (h a mo e)
open TI in
/-- a tile as data -/
def tileF (w : World) (t : Tl) : List (Str × D) := [("own_name", .str t.nm), ("own_corners", .tup (t.cs.map pt)), ("own_winds", .tup [pt t.u, pt t.v]), ("inward", .dic w (inwF t.u (pairsOf t.cs)))]
def tileD (cl : Nat → Addr) (w : World) (t : TI.Tl) : D := .obj (cl 0) (tileF w t)
/-- a value that may be asked to be a point -/
def PtV (u : D) : Prop := (kd u).isSome = true ∧ ∀ es, u = .tup es → es.length ≤ 100 ∧ ∀ e ∈ es, (kd e).isSome = true
def LsV (u : D) : Prop := (kd u).isSome = true ∧ ∀ es, TI.itemsOf u = some es → es.length ≤ 100 ∧ ∀ e ∈ es, PtV e
def NmV (u : D) : Prop := (kd u).isSome = true ∧ ∀ z, u = .str z → z.length ≤ 100
def ph_is_number : Ct := fun ds M k _ => ∃ u v, ds = [u] ∧ kd u = some v ∧ k (.bl (decide (v = .int))) M
theorem ok_is_number {K : PySem.W.Frag} {mg : Str → Option Value} {ad : Nat → Addr} {fd : Nat → FuncData} {cl : Nat → Addr} {P : Program} {w : World} {base : Heap} (T : Txt K mg ad fd cl) : FnOk P w K mg base (L2.CX P w) 1 (ad 0) (fd 0) ["value"] (spD K 1 ph_is_number) := by
  refine fn_D T.F_is_number sc_is_number rfl fun cdv A outer s H E hr hp ho => ⟨_, (b_one (s_ret (d_and (d_isi .int (CS cl) (by decide) T.isi_int rfl T.b_isinstance rfl T.b_int (by decide +kernel) (dv 0)) (d_one (d_not (d_isi .bl (CS cl) (by decide) T.isi_bool rfl T.b_isinstance rfl T.b_bool (by decide +kernel) (dv 0))))))), ?_⟩
  clear hp ho hr
  rintro ds M k x hl ⟨u, v, rfl, hv, q⟩
  cases u <;> cases hv <;> (walk_at "go"; exact q)
def letD : D → D
  | .str z => .bl (TI.isLetter (z.cps.toList.headD 0))
  | _ => .non
def ph_is_name : Ct := fun ds M k _ => ∃ u, ds = [u] ∧ NmV u ∧ k (.bl (TI.isName u)) M
theorem ok_is_name {K : PySem.W.Frag} {mg : Str → Option Value} {ad : Nat → Addr} {fd : Nat → FuncData} {cl : Nat → Addr} {P : Program} {w : World} {base : Heap} (T : Txt K mg ad fd cl) : FnOk P w K mg base (L2.CX P w) 1 (ad 1) (fd 1) ["value"] (spD K 1 ph_is_name) := by
  refine fn_D T.F_is_name sc_is_name rfl fun cdv A outer s H E hr hp ho => ⟨_, (b_cons (s_if (DPW.t (w_or (t_not (t_val (d_isi .str (CS cl) (by decide) T.isi_str rfl T.b_isinstance rfl T.b_str (by decide +kernel) (dv 0)))) (w_or1 (t_not (t_chain o_le o_le d_int (d_callB c_len rfl T.b_len boot_len' (a_cons (dv 0) a_nil)) (d_globE rfl T.c_LONGEST_NAME)))))) (b_one (s_ret d_bl)) b_nil)
  (b_one (s_ret (d_callB (c_all rfl) rfl T.b_all boot_all' (a_cons (d_lc (own := [("letter", 1)]) rfl sc_is_name.nd (i_seq (dv 0)) (blkOk_by (own := [("letter", 1)]) (N := ["value", "letter"]) (sc := (defScope st_is_name)) (by decide +kernel)) (gp_name (by decide)) (fun _ _ _ _ _ => (pg_name (i := 1) sc_is_name.nd rfl (Or.inl rfl))) (fun _ _ _ _ _ => ts_nil) (fun _ _ _ _ _ => (d_cmp o_in (dv 1) (d_globE rfl T.c_LETTERS) rfl))) a_nil))))), ?_⟩
  clear hp ho hr
  rintro ds M k x hl ⟨u, rfl, ⟨hv, hz⟩, q⟩
  obtain ⟨v, hv⟩ := Option.isSome_iff_exists.mp hv
  cases u with
  | str z =>
    have hz := hz z rfl
    have hz2 : z.length ≤ sizeLine := Nat.le_trans hz (by decide)
    refine ⟨_, rfl, ⟨_, rfl, iteF ⟨_, rfl, hz2, ⟨_, rfl, ?_⟩⟩⟩⟩
    have out : ∀ r : Bool, TI.isName (.str z) = r → k (.bl r) M := fun r e => by rw [← e]; exact q
    refine ite_b (fun e1 => ?_) (fun e1 => ?_)
    · refine ⟨_, rfl, ?_⟩
      refine ite_b (fun e2 => ?_) (fun e2 => ?_)
      · refine out false ?_
        have e2 : decide ((z.length : Int) ≤ 8) = false := by simpa using e2
        show (decide (1 ≤ (z.length : Int)) && (decide ((z.length : Int) ≤ 8) && _)) = false
        rw [e2, Bool.false_and, Bool.and_false]
      · have e2 : decide ((z.length : Int) ≤ 8) = true := by simpa using e2
        refine ⟨_, rfl, ?_⟩
        have hs : (DL.signs z).length < sizeLine := by
          unfold DL.signs
          rw [List.length_map]
          exact Nat.lt_of_le_of_lt (Nat.le_trans (by simp [Str.length]) hz) (by decide)
        refine lc_map letD hs (fun d hd K hK => ?_) (fun d K K' => gN_mono K K') ?_
        · unfold DL.signs at hd
          obtain ⟨c, _, rfl⟩ := List.mem_map.mp hd
          exact ⟨_, rfl, c, rfl, hK⟩
        · refine ⟨z.cps.toList.map TI.isLetter, ?_, out _ ?_⟩
          · unfold DL.signs
            rw [List.map_map, List.map_map]
            rfl
          · show (decide (1 ≤ (z.length : Int)) && (decide ((z.length : Int) ≤ 8) && _)) = _
            rw [e1, e2, Bool.true_and, Bool.true_and, List.all_map]
            rfl
    · refine ⟨_, rfl, iteT (out false ?_)⟩
      show (decide (1 ≤ (z.length : Int)) && _) = false
      rw [e1, Bool.false_and]
  | _ => cases hv <;> (walk_at "go"; exact q)
def ph_is_point : Ct := fun ds M k _ => ∃ u, ds = [u] ∧ PtV u ∧ k (.bl (TI.isPt u)) M
theorem ok_is_point {K : PySem.W.Frag} {mg : Str → Option Value} {ad : Nat → Addr} {fd : Nat → FuncData} {cl : Nat → Addr} {P : Program} {w : World} {base : Heap} (T : Txt K mg ad fd cl) : FnOk P w K mg base (L2.CX P w) 3 (ad 2) (fd 2) ["value"] (spD K 1 ph_is_point) := by
  have G_is_number := ok_is_number (P := P) (w := w) (base := base) T
  refine fn_D T.F_is_point sc_is_point rfl fun cdv A outer s H E hr hp ho => ⟨_, (b_cons (s_if (DPW.t (w_or (t_not (t_val (d_isi .tup (CS cl) (by decide) T.isi_tuple rfl T.b_isinstance rfl T.b_tuple (by decide +kernel) (dv 0)))) (w_or1 (t_cmp (o_ne hr.units) (d_callB c_len rfl T.b_len boot_len' (a_cons (dv 0) a_nil)) d_int (nomark _))))) (b_one (s_ret d_bl)) b_nil)
  (b_one (s_ret (d_callB (c_all rfl) rfl T.b_all boot_all' (a_cons (d_lc (own := [("part", 1)]) rfl sc_is_point.nd (i_seq (dv 0)) (blkOk_by (own := [("part", 1)]) (N := ["value", "part"]) (sc := (defScope st_is_point)) (by decide +kernel)) (gp_name (by decide)) (fun _ _ _ _ _ => (pg_name (i := 1) sc_is_point.nd rfl (Or.inl rfl))) (fun _ _ _ _ _ => ts_nil) (fun _ _ _ _ _ => (d_and (d_call G_is_number (hr.mono (by decide)) rfl T.m_is_number T.k_is_number T.kb_is_number_1 (by intro _ _ h _; exact h) passL (a_cons (dv 1) a_nil)) (d_one (d_chain o_le o_le (d_un o_neg (d_globE rfl T.c_FARTHEST)) (dv 1) (d_globE rfl T.c_FARTHEST)))))) a_nil))))), ?_⟩
  clear hp ho hr G_is_number
  rintro ds M k x hl ⟨u, rfl, ⟨hv, hz⟩, q⟩
  obtain ⟨v, hv⟩ := Option.isSome_iff_exists.mp hv
  cases u with
  | tup es =>
    obtain ⟨hz, hk⟩ := hz es rfl
    refine ⟨_, rfl, ⟨_, rfl, iteF ⟨_, rfl, neI ⟨_, rfl, ?_⟩⟩⟩⟩
    refine ite_b (fun e1 => ?_) (fun e1 => ?_)
    · have e1 : ¬ es.length = 2 := by
        have e1 : ¬ (es.length : Int) = 2 := by simpa using e1
        omega
      have e : TI.isPt (.tup es) = false := by
        match es, e1 with
        | [], _ => rfl
        | [_], _ => rfl
        | [_, _], h => exact absurd rfl h
        | _ :: _ :: _ :: _, _ => rfl
      rw [e] at q
      exact q
    · have e1 : es.length = 2 := by
        have e1 : (es.length : Int) = 2 := by simpa using e1
        omega
      refine ⟨_, rfl, ?_⟩
      refine lc_map (fun d => .bl (TI.numOk d)) (Nat.lt_of_le_of_lt hz (by decide)) (fun d hd K hK => ?_) (fun d K K' => gN_mono K K') ?_
      · have hd2 := hk d hd
        obtain ⟨v2, hv2⟩ := Option.isSome_iff_exists.mp hd2
        refine ⟨_, rfl, rfl, d, v2, rfl, hv2, ⟨_, rfl, ?_⟩⟩
        cases d with
        | int i =>
          cases hv2
          refine iteT ⟨_, rfl, ⟨_, rfl, ?_⟩⟩
          have hK : K (.bl (decide (-1000000 ≤ i) && decide (i ≤ 1000000))) M := hK
          refine ite_b (fun e2 => ?_) (fun e2 => ?_)
          · have e2 : decide (-1000000 ≤ i) = true := e2
            rw [e2, Bool.true_and] at hK
            exact hK
          · have e2 : decide (-1000000 ≤ i) = false := e2
            rw [e2, Bool.false_and] at hK
            exact hK
        | _ => cases hv2 <;> exact iteF hK
      · match es, e1 with
        | [a, b], _ =>
          refine ⟨[TI.numOk a, TI.numOk b], rfl, ?_⟩
          have e : ([TI.numOk a, TI.numOk b].all id) = TI.isPt (.tup [a, b]) := by simp [TI.isPt]
          rw [e]
          exact q
  | _ => cases hv <;> (walk_at "go"; exact q)
theorem wd_pt {p : TI.P2} (h : TI.Bd p) : (TI.wdOf (TI.pt p)).isSome = !(p.1 == 0 && (p.2 == 0 && true)) := by
  unfold TI.wdOf
  rw [TI.ptOf_pt h]
  by_cases e : p = (0, 0)
  · subst e
    rfl
  · dsimp only
    rw [if_neg e]
    have : ¬ (p.1 = 0 ∧ p.2 = 0) := fun z => e (Prod.ext z.1 z.2)
    by_cases h1 : p.1 = 0
    · have h2 : ¬ p.2 = 0 := fun z => this ⟨h1, z⟩
      simp [h1, h2]
    · simp [h1]
theorem wd_no {u : D} (h : TI.isPt u = false) : (TI.wdOf u).isSome = false := by
  rw [TI.isPt_eq] at h
  unfold TI.wdOf
  cases e : TI.ptOf u with
  | none => rfl
  | some p => rw [e] at h; cases h
theorem pt_of {u : D} (h : TI.isPt u = true) : ∃ p, u = TI.pt p ∧ TI.Bd p := by
  rw [TI.isPt_eq] at h
  obtain ⟨p, hp⟩ := Option.isSome_iff_exists.mp h
  exact ⟨p, TI.ptOf_some hp⟩
def ph_is_wind : Ct := fun ds M k _ => ∃ u, ds = [u] ∧ PtV u ∧ k (.bl (TI.wdOf u).isSome) M
theorem ok_is_wind {K : PySem.W.Frag} {mg : Str → Option Value} {ad : Nat → Addr} {fd : Nat → FuncData} {cl : Nat → Addr} {P : Program} {w : World} {base : Heap} (T : Txt K mg ad fd cl) : FnOk P w K mg base (L2.CX P w) 5 (ad 3) (fd 3) ["value"] (spD K 1 ph_is_wind) := by
  have G_is_point := ok_is_point (P := P) (w := w) (base := base) T
  refine fn_D T.F_is_wind sc_is_wind rfl fun cdv A outer s H E hr hp ho => ⟨_, (b_one (s_ret (d_and (d_call G_is_point (hr.mono (by decide)) rfl T.m_is_point T.k_is_point T.kb_is_point_1 (by intro _ _ h _; exact h) hp (a_cons (dv 0) a_nil)) (d_one (d_cmp (o_ne hr.units) (dv 0) (d_tup (a_cons d_int (a_cons d_int a_nil))) (nomark _)))))), ?_⟩
  clear hp ho hr G_is_point
  rintro ds M k x hl ⟨u, rfl, hu, q⟩
  refine ⟨_, rfl, rfl, u, rfl, hu, ⟨_, rfl, ?_⟩⟩
  refine ite_b (fun e1 => ?_) (fun e1 => ?_)
  · obtain ⟨p, rfl, bp⟩ := pt_of e1
    refine ⟨_, rfl, Nat.le_of_ble_eq_true rfl, neP rfl rfl rfl rfl ?_⟩
    rw [wd_pt bp] at q
    exact q
  · rw [wd_no e1] at q
    exact q
def ph_is_listed : Ct := fun ds M k _ => ∃ u v, ds = [u] ∧ kd u = some v ∧ k (.bl (TI.itemsOf u).isSome) M
theorem ok_is_listed {K : PySem.W.Frag} {mg : Str → Option Value} {ad : Nat → Addr} {fd : Nat → FuncData} {cl : Nat → Addr} {P : Program} {w : World} {base : Heap} (T : Txt K mg ad fd cl) : FnOk P w K mg base (L2.CX P w) 1 (ad 4) (fd 4) ["value"] (spD K 1 ph_is_listed) := by
  refine fn_D T.F_is_listed sc_is_listed rfl fun cdv A outer s H E hr hp ho => ⟨_, (b_one (s_ret (d_isiLT (CS cl) T.isi_list T.isi_tuple rfl T.b_isinstance rfl T.b_list rfl T.b_tuple (dv 0)))), ?_⟩
  clear hp ho hr
  rintro ds M k x hl ⟨u, v, rfl, hv, q⟩
  refine ⟨_, rfl, isiLTk hv ?_⟩
  rw [TI.kd_items hv]
  exact q
def ph_cross : Ct := fun ds M k _ => ∃ p q : TI.P2, ds = [TI.pt p, TI.pt q] ∧ DL.MulOk p.1 q.2 ∧ DL.MulOk p.2 q.1 ∧ k (.int (TI.cross p q)) M
theorem ok_cross {K : PySem.W.Frag} {mg : Str → Option Value} {ad : Nat → Addr} {fd : Nat → FuncData} {cl : Nat → Addr} {P : Program} {w : World} {base : Heap} (T : Txt K mg ad fd cl) : FnOk P w K mg base (L2.CX P w) 1 (ad 5) (fd 5) ["one", "other"] (spD K 2 ph_cross) := by
  refine fn_D T.F_cross sc_cross rfl fun cdv A outer s H E hr hp ho => ⟨_, (b_one (s_ret (d_op o_sub (d_op o_mul (d_ix x_ix (dv 0) d_int (fun _ _ => rfl)) (d_ix x_ix (dv 1) d_int (fun _ _ => rfl))) (d_op o_mul (d_ix x_ix (dv 0) d_int (fun _ _ => rfl)) (d_ix x_ix (dv 1) d_int (fun _ _ => rfl)))))), ?_⟩
  clear hp ho hr
  rintro ds M k x hl ⟨p, q', rfl, h1, h2, q⟩
  walk_at "go"
  exact q
def ph_towards : Ct := fun ds M k _ => ∃ p q : TI.P2, ds = [TI.pt p, TI.pt q] ∧ k (TI.pt (TI.lead p q)) M
theorem ok_towards {K : PySem.W.Frag} {mg : Str → Option Value} {ad : Nat → Addr} {fd : Nat → FuncData} {cl : Nat → Addr} {P : Program} {w : World} {base : Heap} (T : Txt K mg ad fd cl) : FnOk P w K mg base (L2.CX P w) 1 (ad 6) (fd 6) ["one", "other"] (spD K 2 ph_towards) := by
  refine fn_D T.F_towards sc_towards rfl fun cdv A outer s H E hr hp ho => ⟨_, (b_one (s_ret (d_tup (a_cons (d_op o_sub (d_ix x_ix (dv 1) d_int (fun _ _ => rfl)) (d_ix x_ix (dv 0) d_int (fun _ _ => rfl))) (a_cons (d_op o_sub (d_ix x_ix (dv 1) d_int (fun _ _ => rfl)) (d_ix x_ix (dv 0) d_int (fun _ _ => rfl))) a_nil))))), ?_⟩
  clear hp ho hr
  rintro ds M k x hl ⟨p, q', rfl, q⟩
  walk_at "go"
  exact q
def ph_turning : Ct := fun ds M k _ => ∃ p q r : TI.P2, ds = [TI.pt p, TI.pt q, TI.pt r] ∧ TI.Bd p ∧ TI.Bd q ∧ TI.Bd r ∧ k (.int (TI.turn p q r)) M
theorem ok_turning {K : PySem.W.Frag} {mg : Str → Option Value} {ad : Nat → Addr} {fd : Nat → FuncData} {cl : Nat → Addr} {P : Program} {w : World} {base : Heap} (T : Txt K mg ad fd cl) : FnOk P w K mg base (L2.CX P w) 3 (ad 7) (fd 7) ["one", "other", "third"] (spD K 3 ph_turning) := by
  have G_cross := ok_cross (P := P) (w := w) (base := base) T
  have G_towards := ok_towards (P := P) (w := w) (base := base) T
  refine fn_D T.F_turning sc_turning rfl fun cdv A outer s H E hr hp ho => ⟨_, (b_one (s_ret (d_call G_cross (hr.mono (by decide)) rfl T.m_cross T.k_cross T.kb_cross_2 (by intro _ _ h _; exact h) hp (a_cons (d_call G_towards (hr.mono (by decide)) rfl T.m_towards T.k_towards T.kb_towards_2 (by intro _ _ h _; exact h) hp (a_cons (dv 0) (a_cons (dv 1) a_nil))) (a_cons (d_call G_towards (hr.mono (by decide)) rfl T.m_towards T.k_towards T.kb_towards_2 (by intro _ _ h _; exact h) hp (a_cons (dv 0) (a_cons (dv 2) a_nil))) a_nil))))), ?_⟩
  clear hp ho hr G_cross G_towards
  rintro ds M k x hl ⟨p, q', r, rfl, b1, b2, b3, q⟩
  have l1 := TI.bd_lead b1 b2
  have l2 := TI.bd_lead b1 b3
  refine ⟨_, rfl, _, rfl, rfl, p, q', rfl, _, rfl, _, rfl, rfl, p, r, rfl, rfl, TI.lead p q', TI.lead p r, rfl, TI.mul2 (by omega) (by omega), TI.mul2 (by omega) (by omega), q⟩
def ph_side_of : Ct := fun ds M k _ => ∃ p q : TI.P2, ds = [TI.pt p, TI.pt q] ∧ k (TI.sd (TI.sideOf p q)) M
theorem ok_side_of {K : PySem.W.Frag} {mg : Str → Option Value} {ad : Nat → Addr} {fd : Nat → FuncData} {cl : Nat → Addr} {P : Program} {w : World} {base : Heap} (T : Txt K mg ad fd cl) : FnOk P w K mg base (L2.CX P w) 1 (ad 8) (fd 8) ["one", "other"] (spD K 2 ph_side_of) := by
  refine fn_D T.F_side_of sc_side_of rfl fun cdv A outer s H E hr hp ho => ⟨_, (b_one (s_ret (d_if (t_cmp (o_ltD hr.units) (dv 0) (dv 1) (nomark _)) (d_tup (a_cons (dv 0) (a_cons (dv 1) a_nil))) (d_tup (a_cons (dv 1) (a_cons (dv 0) a_nil)))))), ?_⟩
  clear hp ho hr
  rintro ds M k x hl ⟨p, p', rfl, q⟩
  unfold TI.sideOf at q
  refine ⟨_, rfl, _, rfl, TX.prP p, TX.prP p', ⟨rfl, rfl, rfl, rfl, rfl, fun w => by cases w⟩, _, rfl, ?_⟩
  rw [TX.lt_pr]
  by_cases h : TX.PLt p p'
  · rw [if_pos h] at q
    rw [decide_eq_true h]
    exact iteT ⟨_, rfl, _, rfl, Nat.le_of_ble_eq_true rfl, q⟩
  · rw [if_neg h] at q
    rw [decide_eq_false h]
    exact iteF ⟨_, rfl, _, rfl, Nat.le_of_ble_eq_true rfl, q⟩
theorem ptV_pt (p : TI.P2) : PtV (TI.pt p) := ⟨rfl, fun es h => by cases h; exact ⟨Nat.le_of_ble_eq_true rfl, by simp [kd]⟩⟩
theorem isPt_pt {p : TI.P2} (h : TI.Bd p) : TI.isPt (TI.pt p) = true := by
  rw [TI.isPt_eq, TI.ptOf_pt h]
  rfl
theorem pairs_at {cs : List TI.P2} {j : Nat} (h : j < cs.length) : atI (cs.map TI.pt) (j : Int) = some (TI.pt (cs.getD j (0, 0))) := by
  refine atI_nat ?_
  rw [List.getElem?_map, List.getD_eq_getElem?_getD, List.getElem?_eq_getElem h]
  rfl
def ph_is_side : Ct := fun ds M k _ => ∃ s : TI.P2 × TI.P2, ds = [TI.sd s] ∧ TI.Bd s.1 ∧ TI.Bd s.2 ∧ k (.bl (decide (TX.PLt s.1 s.2))) M
theorem ok_is_side {K : PySem.W.Frag} {mg : Str → Option Value} {ad : Nat → Addr} {fd : Nat → FuncData} {cl : Nat → Addr} {P : Program} {w : World} {base : Heap} (T : Txt K mg ad fd cl) : FnOk P w K mg base (L2.CX P w) 5 (ad 9) (fd 9) ["value"] (spD K 1 ph_is_side) := by
  have G_is_point := ok_is_point (P := P) (w := w) (base := base) T
  refine fn_D T.F_is_side sc_is_side rfl fun cdv A outer s H E hr hp ho => ⟨_, (b_cons (s_if (DPW.t (w_or (t_not (t_val (d_isi .tup (CS cl) (by decide) T.isi_tuple rfl T.b_isinstance rfl T.b_tuple (by decide +kernel) (dv 0)))) (w_or1 (t_cmp (o_ne hr.units) (d_callB c_len rfl T.b_len boot_len' (a_cons (dv 0) a_nil)) d_int (nomark _))))) (b_one (s_ret d_bl)) b_nil)
  (b_one (s_ret (d_and (d_call G_is_point (hr.mono (by decide)) rfl T.m_is_point T.k_is_point T.kb_is_point_1 (by intro _ _ h _; exact h) hp (a_cons (d_ix x_ix (dv 0) d_int (fun _ _ => rfl)) a_nil)) (d_and (d_call G_is_point (hr.mono (by decide)) rfl T.m_is_point T.k_is_point T.kb_is_point_1 (by intro _ _ h _; exact h) hp (a_cons (d_ix x_ix (dv 0) d_int (fun _ _ => rfl)) a_nil)) (d_one (d_cmp (o_ltD hr.units) (d_ix x_ix (dv 0) d_int (fun _ _ => rfl)) (d_ix x_ix (dv 0) d_int (fun _ _ => rfl)) (nomark _)))))))), ?_⟩
  clear hp ho hr G_is_point
  rintro ds M k x hl ⟨s, rfl, b1, b2, q⟩
  obtain ⟨p, p'⟩ := s
  refine ⟨_, rfl, ⟨_, rfl, iteF ⟨_, rfl, neI ⟨_, rfl, iteF ?_⟩⟩⟩⟩
  refine ⟨_, rfl, _, rfl, rfl, _, rfl, ptV_pt p, ?_⟩
  rw [isPt_pt b1]
  refine ⟨_, rfl, iteT ?_⟩
  refine ⟨_, rfl, _, rfl, rfl, _, rfl, ptV_pt p', ?_⟩
  rw [isPt_pt b2]
  refine ⟨_, rfl, iteT ?_⟩
  refine ⟨_, rfl, _, rfl, _, rfl, _, rfl, TX.prP p, TX.prP p', ⟨rfl, rfl, rfl, rfl, rfl, fun w => by cases w⟩, ?_⟩
  rw [TX.lt_pr]
  exact q
theorem upto0 (n : Nat) : upto 0 n = (List.range n).map fun j : Nat => D.int (j : Int) := by
  unfold upto
  simp
theorem fmod_nat (j n : Nat) : ((j : Int) + 1).fmod (n : Int) = (((j + 1) % n : Nat) : Int) := by
  rw [Int.fmod_eq_emod_of_nonneg _ (Int.natCast_nonneg n)]
  exact_mod_cast rfl
theorem pairs_nx {cs : List TI.P2} {j : Nat} (h : j < cs.length) : atI (cs.map TI.pt) (((j : Int) + 1).fmod ((cs.map TI.pt).length : Int)) = some (TI.pt (cs.getD ((j + 1) % cs.length) (0, 0))) := by
  rw [List.length_map, fmod_nat]
  exact pairs_at (Nat.mod_lt _ (by omega))
def ph_corner_pairs : Ct := fun ds M k _ => ∃ cs : List TI.P2, ds = [.tup (cs.map TI.pt)] ∧ cs.length ≤ 8 ∧ k (.lst ((TI.pairsOf cs).map TI.sd)) M
theorem ok_corner_pairs {K : PySem.W.Frag} {mg : Str → Option Value} {ad : Nat → Addr} {fd : Nat → FuncData} {cl : Nat → Addr} {P : Program} {w : World} {base : Heap} (T : Txt K mg ad fd cl) : FnOk P w K mg base (L2.CX P w) 1 (ad 10) (fd 10) ["corners"] (spD K 1 ph_corner_pairs) := by
  refine fn_D T.F_corner_pairs sc_corner_pairs rfl fun cdv A outer s H E hr hp ho => ⟨_, (b_one (s_ret (d_lc (own := [("at", 1)]) rfl sc_corner_pairs.nd (i_range1 rfl T.b_range (a_cons (d_callB c_len rfl T.b_len boot_len' (a_cons (dv 0) a_nil)) a_nil)) (blkOk_by (own := [("at", 1)]) (N := ["corners", "at"]) (sc := (defScope st_corner_pairs)) (by decide +kernel)) (gp_name (by decide)) (fun _ _ _ _ _ => (pg_name (i := 1) sc_corner_pairs.nd rfl (Or.inl rfl))) (fun _ _ _ _ _ => ts_nil) (fun _ _ _ _ _ => (d_tup (a_cons (d_ix x_ix (dv 0) (dv 1) (fun _ _ => rfl)) (a_cons (d_ix x_ix (dv 0) (d_op o_mod (d_op o_add (dv 1) d_int) (d_callB c_len rfl T.b_len boot_len' (a_cons (dv 0) a_nil))) (fun _ _ => rfl)) a_nil))))))), ?_⟩
  clear hp ho hr
  rintro ds M k x hl ⟨cs, rfl, hz, q⟩
  have hz' : (cs.map TI.pt).length = cs.length := List.length_map ..
  refine ⟨_, rfl, _, rfl, by omega, by omega, ?_⟩
  dsimp only
  rw [hz', Int.toNat_natCast, upto0]
  refine lc_mapS (fun j => TI.sd (cs.getD j (0, 0), cs.getD ((j + 1) % cs.length) (0, 0))) (by simp; exact Nat.lt_of_le_of_lt hz (by decide)) (fun j hj K hK => ?_) (fun d K K' => gN_mono K K') ?_
  · have hj := List.mem_range.mp hj
    have hj2 : (j + 1) % cs.length < cs.length := Nat.mod_lt _ (by omega)
    exact ⟨_, rfl, _, rfl, _, pairs_at hj, _, rfl, _, rfl, _, rfl, by show ((cs.map TI.pt).length : Int) ≠ 0; omega, _, pairs_nx hj, Nat.le_of_ble_eq_true rfl, hK⟩
  · unfold TI.pairsOf at q
    rw [List.map_map] at q
    exact q
end W12
set_option Elab.async false
set_option linter.all false
set_option maxRecDepth 100000
set_option maxHeartbeats 4000000
set_option pp.deepTerms false
set_option pp.deepTerms.threshold 12
set_option pp.maxSteps 4000
namespace W12
open PySem PySem.Spec PyProof.Rows L2 DL
local macro_rules | `(tactic| walk_at "sc") => `(tactic| first | assumption | rfl | exact Nat.le_of_ble_eq_true rfl | decide | omega | exact mul_small (by omega) (by omega) | exact mul_smallR (by omega) (by omega) | exact ⟨by decide, by decide, by decide⟩ | exact ⟨by omega, by assumption⟩ | exact ⟨by decide, log2_small (by decide) (by decide)⟩)
local macro_rules | `(tactic| walk_at "go1") => `(tactic| first | refine ⟨_, rfl, ?_⟩ | refine ⟨rfl, ?_⟩ | refine ⟨_, by assumption, ?_⟩ | refine ⟨_, mup_same, ?_⟩ | refine eqI ?_ | refine neI ?_ | refine iteT ?_ | refine iteF ?_ | refine ⟨(by walk_at "sc"), ?_⟩)
local macro_rules | `(tactic| walk_at "go") => `(tactic| repeat walk_at "go1")
theorem cut_take {α : Type} (xs : List α) {j : Nat} (h : j ≤ xs.length) : DL.cutD xs none (some (j : Int)) = xs.take j := by
  unfold DL.cutD
  rw [HT.sIx_none, HT.sIx_nat, Nat.min_eq_left h]
  simp
theorem scan_cons (i : Nat) (seen : List TI.P2) (d : D) (r : List D) : TI.scan i seen (d :: r) = if i = 8 then .inl i else match TI.ptOf d with
    | none => .inl i
    | some p => if p ∈ seen then .inl i else TI.scan (i + 1) (seen ++ [p]) r := rfl
open TI in
def ph_check_corners (er : Nat → Addr) : Ct := fun ds M k x => ∃ u, ds = [u] ∧ LsV u ∧ match cornersRes u with
  | .inl e => errK er e x M
  | .inr cs => k (.tup (cs.map pt)) M
theorem ok_check_corners {K : PySem.W.Frag} {mg : Str → Option Value} {ad : Nat → Addr} {fd : Nat → FuncData} {cl : Nat → Addr} {P : Program} {w : World} {base : Heap} (T : Txt K mg ad fd cl) {er : Nat → Addr} {xcs : List Value} (ER : ErT P w K mg base er xcs) : FnOk P w K mg base (L2.CX P w) 5 (ad 11) (fd 11) ["corners"] (spD K 1 (ph_check_corners er)) := by
  have G_is_listed := ok_is_listed (P := P) (w := w) (base := base) T
  have G_is_point := ok_is_point (P := P) (w := w) (base := base) T
  have G_corner_pairs := ok_corner_pairs (P := P) (w := w) (base := base) T
  have G_turning := ok_turning (P := P) (w := w) (base := base) T
  refine fn_D T.F_check_corners sc_check_corners rfl fun cdv A outer s H E hr hp ho => ⟨_, (b_cons (s_if (t_not (t_val (d_call G_is_listed (hr.mono (by decide)) rfl T.m_is_listed T.k_is_listed T.kb_is_listed_1 (by intro _ _ h _; exact h) hp (a_cons (dv 0) a_nil)))) (b_one (s_raiseE (flD := (fd1 "InvalidCorners" "at")) ER.e_InvalidCorners (fun r h => fr1 r h) rfl (takes_of rfl rfl rfl rfl) (hr.mono (by decide)) (by decide) rfl (a_cons d_int a_nil))) b_nil)
  (b_cons (s_for ho rfl (i_enumA rfl T.b_enumerate (a_cons (dv 0) a_nil)) (g_tup (n := 2) rfl (gs_cons (g_name (i := 1) sc_check_corners.nd rfl (Or.inl rfl)) (gs_cons (g_name (i := 2) sc_check_corners.nd rfl (Or.inl rfl)) gs_nil)))
  (b_one (s_if (DPW.t (w_or (t_cmp (o_eq hr.units) (dv 1) (d_globE rfl T.c_MOST_CORNERS) (nomark _)) (w_or (t_not (t_val (d_call G_is_point (hr.mono (by decide)) rfl T.m_is_point T.k_is_point T.kb_is_point_1 (by intro _ _ h _; exact h) hp (a_cons (dv 2) a_nil)))) (w_or1 (t_cmp (o_inD (units65 hr)) (dv 2) (d_callTy c_list rfl T.b_list boot_list' (a_cons (d_slice sl_D (dv 0) o_none (o_some (dv 1))) a_nil)) rfl))))) (b_one (s_raiseE (flD := (fd1 "InvalidCorners" "at")) ER.e_InvalidCorners (fun r h => fr1 r h) rfl (takes_of rfl rfl rfl rfl) (hr.mono (by decide)) (by decide) rfl (a_cons (dv 1) a_nil))) b_nil)))
  (b_cons (s_if (t_cmp o_lt (d_callB c_len rfl T.b_len boot_len' (a_cons (dv 0) a_nil)) (d_globE rfl T.c_FEWEST) (nomark _)) (b_one (s_raiseE (flD := (fd1 "InvalidCorners" "at")) ER.e_InvalidCorners (fun r h => fr1 r h) rfl (takes_of rfl rfl rfl rfl) (hr.mono (by decide)) (by decide) rfl (a_cons (d_callB c_len rfl T.b_len boot_len' (a_cons (dv 0) a_nil)) a_nil))) b_nil)
  (b_cons (s_set (i := 3) sc_check_corners.nd rfl (Or.inr rfl) (d_callTy c_tuple rfl T.b_tuple boot_tuple' (a_cons (dv 0) a_nil)))
  (b_cons (s_setLc2 (i := 4) (own := [("one", 5), ("other", 6), ("third", 7)]) (vs1 := [7]) rfl sc_check_corners.nd rfl rfl (sw_true rfl rfl rfl (by decide +kernel)) (i_seq (d_call G_corner_pairs (hr.mono (by decide)) rfl T.m_corner_pairs T.k_corner_pairs T.kb_corner_pairs_1 (by intro _ _ h _; exact h) hp (a_cons (dv 3) a_nil))) (blkOk_by (own := [("one", 5), ("other", 6), ("third", 7)]) (N := ["corners", "at", "corner", "found", "turns", "one", "other", "third"]) (sc := (defScope st_check_corners)) (by decide +kernel)) (by decide) (gp_tup (n := 2) (gps_cons (gp_name (by decide)) (gps_cons (gp_name (by decide)) gps_nil))) (gp_name (by decide)) (fun _ _ _ _ _ => (pg_tup (n := 2) rfl (pgs_cons (pg_name (i := 5) sc_check_corners.nd rfl (Or.inl rfl)) (pgs_cons (pg_name (i := 6) sc_check_corners.nd rfl (Or.inl rfl)) pgs_nil)))) (fun _ _ _ _ _ => ts_nil) (fun _ _ _ _ _ => (i_seqG (dv 3))) (fun _ _ _ _ _ => (pg_name (i := 7) sc_check_corners.nd rfl (Or.inl rfl))) (fun _ _ _ _ _ => ts_nil) (fun _ _ _ _ _ => (d_call G_turning (hr.mono (by decide)) rfl T.m_turning T.k_turning T.kb_turning_3 (by intro _ _ h _; exact h) passL (a_cons (dv 5) (a_cons (dv 6) (a_cons (dv 7) a_nil))))))
  (b_cons (s_if (DPW.t (w_or (t_cmp o_lt (d_callB (c_minL rfl) rfl T.b_min boot_min' (a_cons (dv 4) a_nil)) d_int (nomark _)) (w_or1 (t_cmp (o_eq hr.units) (d_callB (c_maxL rfl) rfl T.b_max boot_max' (a_cons (dv 4) a_nil)) d_int (nomark _))))) (b_one (s_raiseE0 (flD := (fd0 "NotConvex")) ER.e_NotConvex (fun r h => fr0 r h) rfl (takes_of rfl rfl rfl rfl) (hr.mono (by decide)) rfl)) b_nil)
  (b_one (s_ret (dv 3))))))))), ?_⟩
  clear hp ho hr G_is_listed G_is_point G_corner_pairs G_turning
  rintro ds M k x hl ⟨u, rfl, ⟨hk, hz⟩, q⟩
  obtain ⟨v, hv⟩ := Option.isSome_iff_exists.mp hk
  refine ⟨_, rfl, rfl, u, v, rfl, hv, ?_⟩
  cases hi : TI.itemsOf u with
  | none =>
    have e : TI.cornersRes u = .inl (.corners 0) := by unfold TI.cornersRes; rw [hi]
    rw [e] at q
    exact ⟨_, rfl, iteT ⟨rfl, q⟩⟩
  | some ds =>
    obtain ⟨hl2, hpv⟩ := hz ds hi
    refine ⟨_, rfl, iteF ?_⟩
    have hu : u = .lst ds ∨ u = .tup ds := by
      unfold TI.itemsOf at hi
      split at hi <;> cases hi
      · exact .inl rfl
      · exact .inr rfl
    rcases hu with rfl | rfl
    · have hres : ∀ i, TI.scan 0 [] ds = .inl i → TI.cornersRes (.lst ds) = .inl (.corners i) := fun i h => by unfold TI.cornersRes TI.itemsOf; dsimp only; rw [h]
      refine ⟨_, rfl, ?_⟩
      refine ForK.of (fun j ρ M' => M = M' ∧ ∃ (r1 r2 : Option D) (seen : List TI.P2), ρ = [some (.lst ds), r1, r2, none, none, none, none, none] ∧ ds.take j = seen.map TI.pt ∧ TI.scan 0 [] ds = TI.scan j seen (ds.drop j) ∧ j ≤ 8 ∧ (∀ p ∈ seen, TI.Bd p)) ⟨rfl, none, none, [], rfl, rfl, rfl, by omega, nofun⟩ ?_ ?_
      · rintro j d ρ M' hd ⟨rfl, r1, r2, seen, rfl, h1, h2, h3, h5⟩
        obtain ⟨c, hc, rfl⟩ := enums_get hd
        have hj : j < ds.length := by
          obtain ⟨h, _⟩ := List.getElem?_eq_some_iff.mp hc
          exact h
        have hdrop : ds.drop j = c :: ds.drop (j + 1) := by
          rw [List.drop_eq_getElem_cons hj]
          congr 1
          rw [List.getElem?_eq_getElem hj] at hc
          exact Option.some.inj hc
        rw [hdrop] at h2
        rw [scan_cons] at h2
        refine ⟨_, rfl, rfl, _, _, rfl, _, _, rfl, rfl, ?_⟩
        refine ⟨_, rfl, eqI ⟨_, rfl, ?_⟩⟩
        refine ite_b (fun e1 => ?_) (fun e1 => ?_)
        · have e1 : (j : Int) = 8 := of_decide_eq_true e1
          have e1 : j = 8 := by omega
          rw [if_pos e1] at h2
          rw [hres _ h2] at q
          exact iteT ⟨_, rfl, rfl, q⟩
        · have e1 : ¬ (j : Int) = 8 := of_decide_eq_false e1
          have e1 : ¬ j = 8 := by omega
          rw [if_neg e1] at h2
          refine ⟨_, rfl, rfl, c, rfl, hpv c (List.mem_of_getElem? hc), ?_⟩
          rw [TI.isPt_eq]
          cases hp : TI.ptOf c with
          | none =>
            rw [hp] at h2
            rw [hres _ h2] at q
            exact ⟨_, rfl, iteT (iteT ⟨_, rfl, rfl, q⟩)⟩
          | some p =>
            rw [hp] at h2
            dsimp only at h2
            obtain ⟨rfl, bp⟩ := TI.ptOf_some hp
            refine ⟨_, rfl, iteF ?_⟩
            refine ⟨_, rfl, _, rfl, _, rfl, _, rfl, ?_⟩
            refine ⟨TI.ptP p, seen.map TI.ptP, TI.toP_pt p, ?_, rfl, TI.shaped_lst (TI.pts_small seen), ?_⟩
            · show (toPs (DL.cutD ds none (some (j : Int)))).map PyData.list = _
              rw [cut_take ds (Nat.le_of_lt hj), h1, TI.toPs_pt]
              rfl
            rw [if_neg Bool.false_ne_true, TI.any_pt]
            refine ⟨_, rfl, ?_⟩
            by_cases hm : p ∈ seen
            · rw [if_pos hm] at h2
              rw [hres _ h2] at q
              rw [decide_eq_true hm]
              exact iteT ⟨_, rfl, rfl, q⟩
            · rw [if_neg hm] at h2
              rw [decide_eq_false hm]
              refine iteF ⟨rfl, _, _, seen ++ [p], rfl, ?_, h2, by omega, fun p' hp' => ?_⟩
              · rw [take_snoc hc, h1]
                simp
              · rcases List.mem_append.mp hp' with z | z
                · exact h5 _ z
                · rw [List.mem_singleton.mp z]; exact bp
      · rintro ρ M' ⟨rfl, r1, r2, seen, rfl, h1, h2, h3, h5⟩
        rw [enums_length] at h1 h2 h3
        have h2 : TI.scan 0 [] ds = .inr seen := by
          rw [h2, List.drop_length]
          rfl
        rw [List.take_length] at h1
        subst h1
        have hs8 : seen.length ≤ 8 := by rw [List.length_map] at h3; exact h3
        have hlen : ((seen.map TI.pt).length : Int) = seen.length := by rw [List.length_map]
        have hcr : TI.cornersRes (.lst (seen.map TI.pt)) = if seen.length < 3 then .inl (.corners seen.length) else if TI.notConvex seen then .inl .convex else .inr seen := by unfold TI.cornersRes TI.itemsOf; dsimp only; rw [h2]
        rw [hcr] at q
        refine ⟨_, rfl, ⟨_, rfl, ?_⟩⟩
        refine ite_b (fun e1 => ?_) (fun e1 => ?_)
        · have e1 : ((seen.map TI.pt).length : Int) < 3 := of_decide_eq_true e1
          rw [if_pos (by omega)] at q
          refine ⟨_, rfl, rfl, ?_⟩
          have q : errK er (.corners seen.length) x M := q
          show x (er 1) (fd1 "InvalidCorners" "at" [.int ((seen.map TI.pt).length : Int)]) M
          rw [hlen]
          exact q
        · have e1 : ¬ ((seen.map TI.pt).length : Int) < 3 := of_decide_eq_false e1
          rw [if_neg (by omega)] at q
          have ok : TI.CsOk seen := (TI.scan_ok _ 0 [] seen (by omega) List.nodup_nil nofun h2).elim fun new z => ⟨z.2.2.1, by omega, hs8, h5⟩
          refine ⟨_, rfl, ?_⟩
          refine ⟨_, rfl, rfl, seen, rfl, hs8, ?_⟩
          refine lc2_mapS (fun e => seen.map fun r => D.int (TI.turn e.1 e.2 r)) 8 (fun s _ => by rw [List.length_map]; exact hs8) (by rw [TI.pairsOf_length]; exact Nat.lt_of_le_of_lt (Nat.mul_le_mul_right 8 (Nat.add_le_add_right hs8 1)) (by decide)) (fun e he acc Z hacc hZ => ?_) (fun d K K' => gT2_mono K K') ?_
          · obtain ⟨b1, b2⟩ := TI.pairsOf_mem he
            refine ⟨_, rfl, rfl, _, _, rfl, _, _, rfl, rfl, ?_⟩
            refine ⟨_, rfl, ?_⟩
            refine in_mapS (fun r => D.int (TI.turn e.1 e.2 r)) (by omega) (fun r hr K hK => ?_) (fun d K K' => gN_mono K K') hZ
            exact ⟨_, rfl, _, rfl, _, rfl, rfl, e.1, e.2, r, rfl, h5 _ b1, h5 _ b2, h5 _ hr, hK⟩
          · have hT : (TI.pairsOf seen).flatMap (fun e => seen.map fun r => D.int (TI.turn e.1 e.2 r)) = (TI.turnsL seen).map D.int := by
              unfold TI.turnsL
              rw [List.map_flatMap]
              simp [List.map_map, Function.comp_def]
            rw [hT]
            have hne : 0 < (TI.turnsL seen).length := List.length_pos_of_mem (TI.turns_zero ok)
            refine ⟨_, rfl, TI.turnsL seen, rfl, hne, fun m m1 m2 => ⟨_, rfl, ?_⟩⟩
            rw [TI.convex_min m1 m2]
            have hnc : TI.notConvex seen = ((TI.turnsL seen).any (fun t => decide (t < 0)) || !(TI.turnsL seen).any (fun t => decide (0 < t))) := rfl
            refine ite_b (fun e2 => ?_) (fun e2 => ?_)
            · rw [hnc, e2, Bool.true_or, if_pos rfl] at q
              exact iteT ⟨rfl, q⟩
            · refine ⟨_, rfl, TI.turnsL seen, rfl, hne, fun m' m3 m4 => ?_⟩
              refine eqI ⟨_, rfl, ?_⟩
              rw [TI.convex_max ok m3 m4]
              rw [hnc, e2, Bool.false_or] at q
              refine ite_b (fun e3 => ?_) (fun e3 => ?_)
              · rw [e3, if_pos rfl] at q
                exact ⟨rfl, q⟩
              · rw [e3, if_neg Bool.false_ne_true] at q
                exact ⟨_, rfl, q⟩
    · have hres : ∀ i, TI.scan 0 [] ds = .inl i → TI.cornersRes (.tup ds) = .inl (.corners i) := fun i h => by unfold TI.cornersRes TI.itemsOf; dsimp only; rw [h]
      refine ⟨_, rfl, ?_⟩
      refine ForK.of (fun j ρ M' => M = M' ∧ ∃ (r1 r2 : Option D) (seen : List TI.P2), ρ = [some (.tup ds), r1, r2, none, none, none, none, none] ∧ ds.take j = seen.map TI.pt ∧ TI.scan 0 [] ds = TI.scan j seen (ds.drop j) ∧ j ≤ 8 ∧ (∀ p ∈ seen, TI.Bd p)) ⟨rfl, none, none, [], rfl, rfl, rfl, by omega, nofun⟩ ?_ ?_
      · rintro j d ρ M' hd ⟨rfl, r1, r2, seen, rfl, h1, h2, h3, h5⟩
        obtain ⟨c, hc, rfl⟩ := enums_get hd
        have hj : j < ds.length := by
          obtain ⟨h, _⟩ := List.getElem?_eq_some_iff.mp hc
          exact h
        have hdrop : ds.drop j = c :: ds.drop (j + 1) := by
          rw [List.drop_eq_getElem_cons hj]
          congr 1
          rw [List.getElem?_eq_getElem hj] at hc
          exact Option.some.inj hc
        rw [hdrop] at h2
        rw [scan_cons] at h2
        refine ⟨_, rfl, rfl, _, _, rfl, _, _, rfl, rfl, ?_⟩
        refine ⟨_, rfl, eqI ⟨_, rfl, ?_⟩⟩
        refine ite_b (fun e1 => ?_) (fun e1 => ?_)
        · have e1 : (j : Int) = 8 := of_decide_eq_true e1
          have e1 : j = 8 := by omega
          rw [if_pos e1] at h2
          rw [hres _ h2] at q
          exact iteT ⟨_, rfl, rfl, q⟩
        · have e1 : ¬ (j : Int) = 8 := of_decide_eq_false e1
          have e1 : ¬ j = 8 := by omega
          rw [if_neg e1] at h2
          refine ⟨_, rfl, rfl, c, rfl, hpv c (List.mem_of_getElem? hc), ?_⟩
          rw [TI.isPt_eq]
          cases hp : TI.ptOf c with
          | none =>
            rw [hp] at h2
            rw [hres _ h2] at q
            exact ⟨_, rfl, iteT (iteT ⟨_, rfl, rfl, q⟩)⟩
          | some p =>
            rw [hp] at h2
            dsimp only at h2
            obtain ⟨rfl, bp⟩ := TI.ptOf_some hp
            refine ⟨_, rfl, iteF ?_⟩
            refine ⟨_, rfl, _, rfl, _, rfl, _, rfl, ?_⟩
            refine ⟨TI.ptP p, seen.map TI.ptP, TI.toP_pt p, ?_, rfl, TI.shaped_lst (TI.pts_small seen), ?_⟩
            · show (toPs (DL.cutD ds none (some (j : Int)))).map PyData.list = _
              rw [cut_take ds (Nat.le_of_lt hj), h1, TI.toPs_pt]
              rfl
            rw [if_neg Bool.false_ne_true, TI.any_pt]
            refine ⟨_, rfl, ?_⟩
            by_cases hm : p ∈ seen
            · rw [if_pos hm] at h2
              rw [hres _ h2] at q
              rw [decide_eq_true hm]
              exact iteT ⟨_, rfl, rfl, q⟩
            · rw [if_neg hm] at h2
              rw [decide_eq_false hm]
              refine iteF ⟨rfl, _, _, seen ++ [p], rfl, ?_, h2, by omega, fun p' hp' => ?_⟩
              · rw [take_snoc hc, h1]
                simp
              · rcases List.mem_append.mp hp' with z | z
                · exact h5 _ z
                · rw [List.mem_singleton.mp z]; exact bp
      · rintro ρ M' ⟨rfl, r1, r2, seen, rfl, h1, h2, h3, h5⟩
        rw [enums_length] at h1 h2 h3
        have h2 : TI.scan 0 [] ds = .inr seen := by
          rw [h2, List.drop_length]
          rfl
        rw [List.take_length] at h1
        subst h1
        have hs8 : seen.length ≤ 8 := by rw [List.length_map] at h3; exact h3
        have hlen : ((seen.map TI.pt).length : Int) = seen.length := by rw [List.length_map]
        have hcr : TI.cornersRes (.tup (seen.map TI.pt)) = if seen.length < 3 then .inl (.corners seen.length) else if TI.notConvex seen then .inl .convex else .inr seen := by unfold TI.cornersRes TI.itemsOf; dsimp only; rw [h2]
        rw [hcr] at q
        refine ⟨_, rfl, ⟨_, rfl, ?_⟩⟩
        refine ite_b (fun e1 => ?_) (fun e1 => ?_)
        · have e1 : ((seen.map TI.pt).length : Int) < 3 := of_decide_eq_true e1
          rw [if_pos (by omega)] at q
          refine ⟨_, rfl, rfl, ?_⟩
          have q : errK er (.corners seen.length) x M := q
          show x (er 1) (fd1 "InvalidCorners" "at" [.int ((seen.map TI.pt).length : Int)]) M
          rw [hlen]
          exact q
        · have e1 : ¬ ((seen.map TI.pt).length : Int) < 3 := of_decide_eq_false e1
          rw [if_neg (by omega)] at q
          have ok : TI.CsOk seen := (TI.scan_ok _ 0 [] seen (by omega) List.nodup_nil nofun h2).elim fun new z => ⟨z.2.2.1, by omega, hs8, h5⟩
          refine ⟨_, rfl, ?_⟩
          refine ⟨_, rfl, rfl, seen, rfl, hs8, ?_⟩
          refine lc2_mapS (fun e => seen.map fun r => D.int (TI.turn e.1 e.2 r)) 8 (fun s _ => by rw [List.length_map]; exact hs8) (by rw [TI.pairsOf_length]; exact Nat.lt_of_le_of_lt (Nat.mul_le_mul_right 8 (Nat.add_le_add_right hs8 1)) (by decide)) (fun e he acc Z hacc hZ => ?_) (fun d K K' => gT2_mono K K') ?_
          · obtain ⟨b1, b2⟩ := TI.pairsOf_mem he
            refine ⟨_, rfl, rfl, _, _, rfl, _, _, rfl, rfl, ?_⟩
            refine ⟨_, rfl, ?_⟩
            refine in_mapS (fun r => D.int (TI.turn e.1 e.2 r)) (by omega) (fun r hr K hK => ?_) (fun d K K' => gN_mono K K') hZ
            exact ⟨_, rfl, _, rfl, _, rfl, rfl, e.1, e.2, r, rfl, h5 _ b1, h5 _ b2, h5 _ hr, hK⟩
          · have hT : (TI.pairsOf seen).flatMap (fun e => seen.map fun r => D.int (TI.turn e.1 e.2 r)) = (TI.turnsL seen).map D.int := by
              unfold TI.turnsL
              rw [List.map_flatMap]
              simp [List.map_map, Function.comp_def]
            rw [hT]
            have hne : 0 < (TI.turnsL seen).length := List.length_pos_of_mem (TI.turns_zero ok)
            refine ⟨_, rfl, TI.turnsL seen, rfl, hne, fun m m1 m2 => ⟨_, rfl, ?_⟩⟩
            rw [TI.convex_min m1 m2]
            have hnc : TI.notConvex seen = ((TI.turnsL seen).any (fun t => decide (t < 0)) || !(TI.turnsL seen).any (fun t => decide (0 < t))) := rfl
            refine ite_b (fun e2 => ?_) (fun e2 => ?_)
            · rw [hnc, e2, Bool.true_or, if_pos rfl] at q
              exact iteT ⟨rfl, q⟩
            · refine ⟨_, rfl, TI.turnsL seen, rfl, hne, fun m' m3 m4 => ?_⟩
              refine eqI ⟨_, rfl, ?_⟩
              rw [TI.convex_max ok m3 m4]
              rw [hnc, e2, Bool.false_or] at q
              refine ite_b (fun e3 => ?_) (fun e3 => ?_)
              · rw [e3, if_pos rfl] at q
                exact ⟨rfl, q⟩
              · rw [e3, if_neg Bool.false_ne_true] at q
                exact ⟨_, rfl, q⟩
theorem winds_len {u : D} {ds : List D} (h : TI.itemsOf u = some ds) (hl : ds.length ≠ 2) : TI.windsRes u = none := by
  unfold TI.windsRes
  rw [h]
  split
  · rename_i e
    cases e
    exact absurd rfl hl
  · rfl
theorem winds_two {u a b : D} (h : TI.itemsOf u = some [a, b]) : TI.windsRes u = match TI.wdOf a, TI.wdOf b with
    | some p, some q => if 0 < TI.cross p q then some (p, q) else none
    | _, _ => none := by
  unfold TI.windsRes
  rw [h]
  all_goals rfl
open TI in
def ph_check_winds (er : Nat → Addr) : Ct := fun ds M k x => ∃ u, ds = [u] ∧ LsV u ∧ match windsRes u with
  | none => errK er .winds x M
  | some (a, b) => k (.tup [pt a, pt b]) M
theorem ok_check_winds {K : PySem.W.Frag} {mg : Str → Option Value} {ad : Nat → Addr} {fd : Nat → FuncData} {cl : Nat → Addr} {P : Program} {w : World} {base : Heap} (T : Txt K mg ad fd cl) {er : Nat → Addr} {xcs : List Value} (ER : ErT P w K mg base er xcs) : FnOk P w K mg base (L2.CX P w) 7 (ad 12) (fd 12) ["winds"] (spD K 1 (ph_check_winds er)) := by
  have G_is_listed := ok_is_listed (P := P) (w := w) (base := base) T
  have G_is_wind := ok_is_wind (P := P) (w := w) (base := base) T
  have G_cross := ok_cross (P := P) (w := w) (base := base) T
  refine fn_D T.F_check_winds sc_check_winds rfl fun cdv A outer s H E hr hp ho => ⟨_, (b_cons (s_if (DPW.t (w_or (t_not (t_val (d_call G_is_listed (hr.mono (by decide)) rfl T.m_is_listed T.k_is_listed T.kb_is_listed_1 (by intro _ _ h _; exact h) hp (a_cons (dv 0) a_nil)))) (w_or (t_cmp (o_ne hr.units) (d_callB c_len rfl T.b_len boot_len' (a_cons (dv 0) a_nil)) d_int (nomark _)) (w_or1 (t_not (t_val (d_callB (c_all rfl) rfl T.b_all boot_all' (a_cons (d_lc (own := [("wind", 1)]) rfl sc_check_winds.nd (i_seq (dv 0)) (blkOk_by (own := [("wind", 1)]) (N := ["winds", "wind"]) (sc := (defScope st_check_winds)) (by decide +kernel)) (gp_name (by decide)) (fun _ _ _ _ _ => (pg_name (i := 1) sc_check_winds.nd rfl (Or.inl rfl))) (fun _ _ _ _ _ => ts_nil) (fun _ _ _ _ _ => (d_call G_is_wind (hr.mono (by decide)) rfl T.m_is_wind T.k_is_wind T.kb_is_wind_1 (by intro _ _ h _; exact h) passL (a_cons (dv 1) a_nil)))) a_nil)))))))) (b_one (s_raiseE0 (flD := (fd0 "InvalidWinds")) ER.e_InvalidWinds (fun r h => fr0 r h) rfl (takes_of rfl rfl rfl rfl) (hr.mono (by decide)) rfl)) b_nil)
  (b_cons (s_if (t_cmp o_le (d_call G_cross (hr.mono (by decide)) rfl T.m_cross T.k_cross T.kb_cross_2 (by intro _ _ h _; exact h) hp (a_cons (d_ix x_ix (dv 0) d_int (fun _ _ => rfl)) (a_cons (d_ix x_ix (dv 0) d_int (fun _ _ => rfl)) a_nil))) d_int (nomark _)) (b_one (s_raiseE0 (flD := (fd0 "InvalidWinds")) ER.e_InvalidWinds (fun r h => fr0 r h) rfl (takes_of rfl rfl rfl rfl) (hr.mono (by decide)) rfl)) b_nil)
  (b_one (s_ret (d_callTy c_tuple rfl T.b_tuple boot_tuple' (a_cons (dv 0) a_nil)))))), ?_⟩
  clear hp ho hr G_is_listed G_is_wind G_cross
  rintro ds M k x hl ⟨u, rfl, ⟨hk, hz⟩, q⟩
  obtain ⟨v, hv⟩ := Option.isSome_iff_exists.mp hk
  refine ⟨_, rfl, rfl, u, v, rfl, hv, ?_⟩
  cases hi : TI.itemsOf u with
  | none =>
    have e : TI.windsRes u = none := by unfold TI.windsRes; rw [hi]
    rw [e] at q
    exact ⟨_, rfl, iteT (iteT ⟨rfl, q⟩)⟩
  | some ds =>
    obtain ⟨hl2, hpv⟩ := hz ds hi
    refine ⟨_, rfl, iteF ?_⟩
    have hu : u = .lst ds ∨ u = .tup ds := by
      unfold TI.itemsOf at hi
      split at hi <;> cases hi
      · exact .inl rfl
      · exact .inr rfl
    rcases hu with rfl | rfl
    · refine ⟨_, rfl, neI ⟨_, rfl, ?_⟩⟩
      refine ite_b (fun e1 => ?_) (fun e1 => ?_)
      · have e1 : ¬ ds.length = 2 := by
          have e1 : ¬ (ds.length : Int) = 2 := by simpa using e1
          omega
        rw [winds_len hi e1] at q
        exact iteT ⟨rfl, q⟩
      · have e1 : ds.length = 2 := by
          have e1 : (ds.length : Int) = 2 := by simpa using e1
          omega
        match ds, e1, hpv with
        | [a, b], _, hpv =>
          rw [winds_two hi] at q
          refine ⟨_, rfl, ?_⟩
          refine lc_map (fun d => .bl (TI.wdOf d).isSome) (Nat.lt_of_le_of_lt (by exact Nat.le_of_ble_eq_true rfl : 2 ≤ 100) (by decide)) (fun d hd K hK => ⟨_, rfl, rfl, d, rfl, hpv d hd, hK⟩) (fun d K K' => gN_mono K K') ?_
          refine ⟨[(TI.wdOf a).isSome, (TI.wdOf b).isSome], rfl, ⟨_, rfl, ?_⟩⟩
          cases ha : TI.wdOf a with
          | none =>
            rw [ha] at q
            exact iteT ⟨rfl, q⟩
          | some p1 =>
            cases hb : TI.wdOf b with
            | none =>
              rw [ha, hb] at q
              exact iteT ⟨rfl, q⟩
            | some p2 =>
              rw [ha, hb] at q
              dsimp only at q
              obtain ⟨rfl, b1, _⟩ := TI.wdOf_some ha
              obtain ⟨rfl, b2, _⟩ := TI.wdOf_some hb
              obtain ⟨⟨c1, c2⟩, c3, c4⟩ := b1
              refine iteF ?_
              refine ⟨_, rfl, _, rfl, _, rfl, _, rfl, rfl, p1, p2, rfl, TI.mul2 (by omega) (by omega), TI.mul2 (by omega) (by omega), ⟨_, rfl, ?_⟩⟩
              by_cases hc : 0 < TI.cross p1 p2
              · rw [if_pos hc] at q
                rw [decide_eq_false (by omega)]
                exact iteF ⟨_, rfl, q⟩
              · rw [if_neg hc] at q
                rw [decide_eq_true (by omega)]
                exact iteT ⟨rfl, q⟩
    · refine ⟨_, rfl, neI ⟨_, rfl, ?_⟩⟩
      refine ite_b (fun e1 => ?_) (fun e1 => ?_)
      · have e1 : ¬ ds.length = 2 := by
          have e1 : ¬ (ds.length : Int) = 2 := by simpa using e1
          omega
        rw [winds_len hi e1] at q
        exact iteT ⟨rfl, q⟩
      · have e1 : ds.length = 2 := by
          have e1 : (ds.length : Int) = 2 := by simpa using e1
          omega
        match ds, e1, hpv with
        | [a, b], _, hpv =>
          rw [winds_two hi] at q
          refine ⟨_, rfl, ?_⟩
          refine lc_map (fun d => .bl (TI.wdOf d).isSome) (Nat.lt_of_le_of_lt (by exact Nat.le_of_ble_eq_true rfl : 2 ≤ 100) (by decide)) (fun d hd K hK => ⟨_, rfl, rfl, d, rfl, hpv d hd, hK⟩) (fun d K K' => gN_mono K K') ?_
          refine ⟨[(TI.wdOf a).isSome, (TI.wdOf b).isSome], rfl, ⟨_, rfl, ?_⟩⟩
          cases ha : TI.wdOf a with
          | none =>
            rw [ha] at q
            exact iteT ⟨rfl, q⟩
          | some p1 =>
            cases hb : TI.wdOf b with
            | none =>
              rw [ha, hb] at q
              exact iteT ⟨rfl, q⟩
            | some p2 =>
              rw [ha, hb] at q
              dsimp only at q
              obtain ⟨rfl, b1, _⟩ := TI.wdOf_some ha
              obtain ⟨rfl, b2, _⟩ := TI.wdOf_some hb
              obtain ⟨⟨c1, c2⟩, c3, c4⟩ := b1
              refine iteF ?_
              refine ⟨_, rfl, _, rfl, _, rfl, _, rfl, rfl, p1, p2, rfl, TI.mul2 (by omega) (by omega), TI.mul2 (by omega) (by omega), ⟨_, rfl, ?_⟩⟩
              by_cases hc : 0 < TI.cross p1 p2
              · rw [if_pos hc] at q
                rw [decide_eq_false (by omega)]
                exact iteF ⟨_, rfl, q⟩
              · rw [if_neg hc] at q
                rw [decide_eq_true (by omega)]
                exact iteT ⟨rfl, q⟩
theorem find_first {α : Type} {p : α → Bool} {e : α} : ∀ {l : List α} {j : Nat}, (∀ x ∈ l.take j, (!p x) = false) → l[j]? = some e → (!p e) = true → l.find? (fun x => !p x) = some e
  | [], _, _, h, _ => by simp at h
  | y :: l, 0, _, h, hp => by
    simp at h
    subst h
    rw [List.find?_cons, hp]
  | y :: l, j + 1, h1, h, hp => by
    rw [List.find?_cons, h1 y (by simp)]
    exact find_first (j := j) (fun x hx => h1 x (by simp [hx])) (by simpa using h) hp
open TI in
def ph_Tile___init__ (cl er : Nat → Addr) (w : World) : Ct := fun ds M k x => ∃ (p : Addr) (nm cs ws : D), ds = [.cel p, nm, cs, ws] ∧ M p = some (.ins (cl 0) []) ∧ NmV nm ∧ LsV cs ∧ LsV ws ∧ match tileRes nm cs ws with
  | .inl e => ∀ M', (∀ a mo, a ≠ p → M a = some mo → M' a = some mo) → errK er e x M'
  | .inr t => ∀ q M', M q = none → M' p = some (.ins (cl 0) [("own_name", .str t.nm), ("own_corners", .tup (t.cs.map pt)), ("own_winds", .tup [pt t.u, pt t.v]), ("inward", .cel q)]) → M' q = some (.dic q w (inwF t.u (pairsOf t.cs))) → (∀ a, a ≠ p → a ≠ q → M' a = M a) → k .non M'
theorem ok_Tile___init__ {K : PySem.W.Frag} {mg : Str → Option Value} {ad : Nat → Addr} {fd : Nat → FuncData} {cl : Nat → Addr} {P : Program} {w : World} {base : Heap} (T : Txt K mg ad fd cl) {er : Nat → Addr} {xcs : List Value} (ER : ErT P w K mg base er xcs) : FnOk P w K mg base (L2.CX P w) 9 (ad 13) (fd 13) ["self", "name", "corners", "winds"] (spD K 4 (ph_Tile___init__ cl er w)) := by
  have G_is_name := ok_is_name (P := P) (w := w) (base := base) T
  have G_check_corners := ok_check_corners (P := P) (w := w) (base := base) T ER
  have G_check_winds := ok_check_winds (P := P) (w := w) (base := base) T ER
  have G_corner_pairs := ok_corner_pairs (P := P) (w := w) (base := base) T
  have G_cross := ok_cross (P := P) (w := w) (base := base) T
  have G_towards := ok_towards (P := P) (w := w) (base := base) T
  have G_side_of := ok_side_of (P := P) (w := w) (base := base) T
  refine fn_D T.F_Tile___init__ sc_Tile___init__ rfl fun cdv A outer s H E hr hp ho => ⟨_, (b_cons (s_if (t_not (t_val (d_call G_is_name (hr.mono (by decide)) rfl T.m_is_name T.k_is_name T.kb_is_name_1 (by intro _ _ h _; exact h) hp (a_cons (dv 1) a_nil)))) (b_one (s_raiseE (flD := (fd1 "InvalidName" "name")) ER.e_InvalidName (fun r h => fr1 r h) rfl (takes_of rfl rfl rfl rfl) (hr.mono (by decide)) (by decide) rfl (a_cons (dv 1) a_nil))) b_nil)
  (b_cons (s_fld [cl 0] (one_cls T.ci_Tile.cl T.na_Tile_own_name) (dv 1) (dv 0) rfl)
  (b_cons (s_fld [cl 0] (one_cls T.ci_Tile.cl T.na_Tile_own_corners) (d_call G_check_corners (hr.mono (by decide)) rfl T.m_check_corners T.k_check_corners T.kb_check_corners_1 (by intro _ _ h _; exact h) hp (a_cons (dv 2) a_nil)) (dv 0) rfl)
  (b_cons (s_fld [cl 0] (one_cls T.ci_Tile.cl T.na_Tile_own_winds) (d_call G_check_winds (hr.mono (by decide)) rfl T.m_check_winds T.k_check_winds T.kb_check_winds_1 (by intro _ _ h _; exact h) hp (a_cons (dv 3) a_nil)) (dv 0) rfl)
  (b_cons (s_fld [cl 0] (one_cls T.ci_Tile.cl T.na_Tile_inward) d_newD (dv 0) rfl)
  (b_one (s_for ho rfl (i_seq (d_call G_corner_pairs (hr.mono (by decide)) rfl T.m_corner_pairs T.k_corner_pairs T.kb_corner_pairs_1 (by intro _ _ h _; exact h) hp (a_cons (d_fld [cl 0] (one_cls T.ci_Tile.cl T.na_Tile_own_corners) (dv 0)) a_nil))) (g_tup (n := 2) rfl (gs_cons (g_name (i := 4) sc_Tile___init__.nd rfl (Or.inr rfl)) (gs_cons (g_name (i := 5) sc_Tile___init__.nd rfl (Or.inr rfl)) gs_nil)))
  (b_cons (s_setLc (i := 6) (own := [("wind", 7)]) rfl sc_Tile___init__.nd rfl rfl (sw_true rfl rfl rfl (by decide +kernel)) (i_seq (d_fld [cl 0] (one_cls T.ci_Tile.cl T.na_Tile_own_winds) (dv 0))) (blkOk_by (own := [("wind", 7)]) (N := ["self", "name", "corners", "winds", "one", "other", "signs", "wind"]) (sc := (defScope st_Tile___init__)) (by decide +kernel)) (gp_name (by decide)) (fun _ _ _ _ _ => (pg_name (i := 7) sc_Tile___init__.nd rfl (Or.inl rfl))) (fun _ _ _ _ _ => ts_nil) (fun _ _ _ _ _ => (d_call G_cross (hr.mono (by decide)) rfl T.m_cross T.k_cross T.kb_cross_2 (by intro _ _ h _; exact h) passL (a_cons (d_call G_towards (hr.mono (by decide)) rfl T.m_towards T.k_towards T.kb_towards_2 (by intro _ _ h _; exact h) passL (a_cons (dv 4) (a_cons (dv 5) a_nil))) (a_cons (dv 7) a_nil)))))
  (b_cons (s_if (t_not (DPW.t (w_or (DPW.t (w_and (t_cmp o_gt (d_ix x_ix (dv 6) d_int (fun _ _ => rfl)) d_int (nomark _)) (w_and1 (t_cmp o_gt (d_ix x_ix (dv 6) d_int (fun _ _ => rfl)) d_int (nomark _))))) (w_or1 (DPW.t (w_and (t_cmp o_lt (d_ix x_ix (dv 6) d_int (fun _ _ => rfl)) d_int (nomark _)) (w_and1 (t_cmp o_lt (d_ix x_ix (dv 6) d_int (fun _ _ => rfl)) d_int (nomark _))))))))) (b_one (s_raiseE (flD := (fd1 "SplitSide" "side")) ER.e_SplitSide (fun r h => fr1 r h) rfl (takes_of rfl rfl rfl rfl) (hr.mono (by decide)) (by decide) rfl (a_cons (d_call G_side_of (hr.mono (by decide)) rfl T.m_side_of T.k_side_of T.kb_side_of_2 (by intro _ _ h _; exact h) hp (a_cons (dv 4) (a_cons (dv 5) a_nil))) a_nil))) b_nil)
  (b_one (s_setN hr.units (d_cmp o_gt (d_ix x_ix (dv 6) d_int (fun _ _ => rfl)) d_int (nomark _)) (d_fld [cl 0] (one_cls T.ci_Tile.cl T.na_Tile_inward) (dv 0)) (d_call G_side_of (hr.mono (by decide)) rfl T.m_side_of T.k_side_of T.kb_side_of_2 (by intro _ _ h _; exact h) hp (a_cons (dv 4) (a_cons (dv 5) a_nil)))))))))))))), ?_⟩
  clear hp ho hr G_is_name G_check_corners G_check_winds G_corner_pairs G_cross G_towards G_side_of
  rintro ds M k x hl ⟨p, nm, cs, ws, rfl, hm, hn, hc, hw, q⟩
  refine ⟨_, rfl, rfl, nm, rfl, hn, ?_⟩
  cases hnm : TI.isName nm with
  | false =>
    have e : TI.tileRes nm cs ws = .inl (.name nm) := by
      unfold TI.tileRes
      split
      · rw [hnm]; rfl
      · rfl
    rw [e] at q
    exact ⟨_, rfl, iteT ⟨_, rfl, rfl, q M fun _ _ _ h => h⟩⟩
  | true =>
    obtain ⟨z, rfl⟩ : ∃ z, nm = .str z := by cases nm <;> first | exact ⟨_, rfl⟩ | cases hnm
    have et : TI.tileRes (.str z) cs ws = match TI.cornersRes cs with
      | .inl e => .inl e
      | .inr ps => match TI.windsRes ws with
        | none => .inl .winds
        | some (u, v) => match TI.badSide ps u v with
          | some e => .inl (.split (TI.sideOf e.1 e.2))
          | none => .inr ⟨z, ps, u, v⟩ := by
      unfold TI.tileRes
      dsimp only
      rw [if_pos hnm]
      all_goals rfl
    rw [et] at q
    refine ⟨_, rfl, iteF ?_⟩
    refine ⟨_, rfl, _, rfl, p, _, _, rfl, hm, .head _, Nat.le_of_ble_eq_true rfl, ?_⟩
    refine ⟨_, rfl, rfl, cs, rfl, hc, ?_⟩
    cases hcr : TI.cornersRes cs with
    | inl er' =>
      rw [hcr] at q
      exact q _ fun a mo ha h => by rw [mup_ne ha]; exact h
    | inr ps =>
    rw [hcr] at q
    obtain ⟨ok, hits, hcv⟩ := TI.cornersRes_ok hcr
    refine ⟨_, rfl, p, _, _, rfl, mup_same, .head _, Nat.le_of_ble_eq_true rfl, ?_⟩
    rw [mup_mup]
    refine ⟨_, rfl, rfl, ws, rfl, hw, ?_⟩
    cases hwr : TI.windsRes ws with
    | none =>
      rw [hwr] at q
      exact q _ fun a mo ha h => by rw [mup_ne ha]; exact h
    | some uv =>
    obtain ⟨u, v⟩ := uv
    rw [hwr] at q
    dsimp only at q
    obtain ⟨bu, bv, hcr2, hitw⟩ := TI.windsRes_ok hwr
    refine ⟨_, rfl, p, _, _, rfl, mup_same, .head _, Nat.le_of_ble_eq_true rfl, ?_⟩
    rw [mup_mup]
    intro q0 hq0
    have hpq : p ≠ q0 := fun z => by rw [← z, mup_same] at hq0; cases hq0
    have hq1 : M q0 = none := by rw [mup_ne (Ne.symm hpq)] at hq0; exact hq0
    refine ⟨_, rfl, p, _, _, rfl, (by rw [mup_ne hpq]; exact mup_same), .head _, Nat.le_of_ble_eq_true rfl, ?_⟩
    refine ⟨_, rfl, _, _, _, insOf_cel mup_same, .head _, rfl, ?_⟩
    refine ⟨rfl, ps, rfl, ok.hi, ?_⟩
    refine ForK.of (fun j ρ M' => ∃ r4 r5 r6 : Option D, ρ = [some (.cel p), some (.str z), some cs, some ws, r4, r5, r6, none] ∧ M' p = some (.ins (cl 0) [("own_name", .str z), ("own_corners", .tup (ps.map TI.pt)), ("own_winds", .tup [TI.pt u, TI.pt v]), ("inward", .cel q0)]) ∧ M' q0 = some (.dic q0 w (TI.inwF u ((TI.pairsOf ps).take j))) ∧ (∀ a, a ≠ p → a ≠ q0 → M' a = M a) ∧ ∀ e ∈ (TI.pairsOf ps).take j, TI.goodSide u v e = true) ?_ ?_ ?_
    · refine ⟨_, _, _, rfl, mup_same, ?_, ?_, nofun⟩
      · rw [mup_ne (Ne.symm hpq)]
        exact mup_same
      · intro a h1 h2
        rw [mup_ne h1, mup_ne h2, mup_ne h1]
    · rintro j d ρ M' hd ⟨r4, r5, r6, rfl, g1, g2, g3, g4⟩
      obtain ⟨e, he, rfl⟩ := map_get hd
      obtain ⟨m1, m2⟩ := TI.pairsOf_mem (List.mem_of_getElem? he)
      have hld := TI.bd_lead (ok.bd _ m1) (ok.bd _ m2)
      have hext : ∀ (a : Addr) (mo : MO), a ≠ p → M a = some mo → M' a = some mo := fun a mo ha h => by
        by_cases hq : a = q0
        · rw [hq, hq1] at h; cases h
        · rw [g3 a ha hq]; exact h
      refine ⟨_, rfl, rfl, _, _, rfl, _, _, rfl, rfl, ?_⟩
      refine ⟨_, rfl, _, _, _, insOf_cel g1, .head _, rfl, ?_⟩
      refine lc_mapS (S := [u, v]) (g := TI.pt) (fun r => D.int (TI.cross (TI.lead e.1 e.2) r)) (Nat.lt_of_le_of_lt (Nat.le_of_ble_eq_true rfl : 2 ≤ 8) (by decide)) (fun r hr K hK => ?_) (fun d K K' => gN_mono K K') ?_
      · exact ⟨_, rfl, _, rfl, rfl, e.1, e.2, rfl, _, rfl, rfl, TI.lead e.1 e.2, r, rfl, TI.mul2 (by omega) (by omega), TI.mul2 (by omega) (by omega), hK⟩
      · refine ⟨_, rfl, _, rfl, ⟨_, rfl, ?_⟩⟩
        have more : ∀ b : Bool, b = b := fun _ => rfl
        refine ite_b (fun a1 => ?_) (fun a1 => ?_)
        · refine ⟨_, rfl, _, rfl, ⟨_, rfl, ?_⟩⟩
          refine ite_b (fun a2 => ?_) (fun a2 => ?_)
          · refine iteF ?_
            refine ⟨_, rfl, _, rfl, _, rfl, _, _, _, insOf_cel g1, .head _, rfl, _, rfl, _, rfl, rfl, e.1, e.2, rfl, ?_⟩
            refine ⟨q0, _, TI.sdKs (TI.sideOf e.1 e.2), rfl, g2, ?_, (TI.kDs_sd _).symm, TI.sdKs_depth _, ?_⟩
            · refine Nat.lt_of_le_of_lt (TI.inwF_len _ _) (Nat.lt_of_le_of_lt ?_ (by decide : 8 < sizeLine))
              rw [List.length_take, TI.pairsOf_length]
              exact Nat.le_trans (Nat.min_le_right _ _) ok.hi
            · refine ⟨_, _, _, rfl, ?_, ?_, ?_, ?_⟩
              · rw [mup_ne hpq]; exact g1
              · rw [mup_same, take_snoc he, TI.inwF_snoc]
                rfl
              · intro a h1 h2
                rw [mup_ne h2]
                exact g3 a h1 h2
              · intro e' he'
                rw [take_snoc he] at he'
                rcases List.mem_append.mp he' with y | y
                · exact g4 e' y
                · rw [List.mem_singleton.mp y]
                  simp [TI.goodSide, of_decide_eq_true a1, of_decide_eq_true a2]
          · refine ⟨_, rfl, _, rfl, ⟨_, rfl, ?_⟩⟩
            refine ite_b (fun a3 => ?_) (fun a3 => ?_)
            · exfalso
              have a1 := of_decide_eq_true a1
              have a3 := of_decide_eq_true a3
              omega
            · refine iteT ?_
              refine ⟨_, rfl, _, rfl, rfl, e.1, e.2, rfl, rfl, ?_⟩
              have hb : TI.badSide ps u v = some e := find_first (fun x hx => by rw [g4 x hx]; rfl) he (by
                have hg : TI.goodSide u v e = false := by simp [TI.goodSide, of_decide_eq_false a2, of_decide_eq_false a3]
                rw [hg]; rfl)
              rw [hb] at q
              exact q _ hext
        · refine ⟨_, rfl, _, rfl, ⟨_, rfl, ?_⟩⟩
          refine ite_b (fun a3 => ?_) (fun a3 => ?_)
          · refine ⟨_, rfl, _, rfl, ⟨_, rfl, ?_⟩⟩
            cases a4 : decide (TI.cross (TI.lead e.1 e.2) v < 0) with
            | true =>
              refine iteF ?_
              refine ⟨_, rfl, _, rfl, _, rfl, _, _, _, insOf_cel g1, .head _, rfl, _, rfl, _, rfl, rfl, e.1, e.2, rfl, ?_⟩
              refine ⟨q0, _, TI.sdKs (TI.sideOf e.1 e.2), rfl, g2, ?_, (TI.kDs_sd _).symm, TI.sdKs_depth _, ?_⟩
              · refine Nat.lt_of_le_of_lt (TI.inwF_len _ _) (Nat.lt_of_le_of_lt ?_ (by decide : 8 < sizeLine))
                rw [List.length_take, TI.pairsOf_length]
                exact Nat.le_trans (Nat.min_le_right _ _) ok.hi
              · refine ⟨_, _, _, rfl, ?_, ?_, ?_, ?_⟩
                · rw [mup_ne hpq]; exact g1
                · rw [mup_same, take_snoc he, TI.inwF_snoc]
                  rfl
                · intro a h1 h2
                  rw [mup_ne h2]
                  exact g3 a h1 h2
                · intro e' he'
                  rw [take_snoc he] at he'
                  rcases List.mem_append.mp he' with y | y
                  · exact g4 e' y
                  · rw [List.mem_singleton.mp y]
                    simp [TI.goodSide, of_decide_eq_true a3, of_decide_eq_true a4]
            | false =>
              refine iteT ?_
              refine ⟨_, rfl, _, rfl, rfl, e.1, e.2, rfl, rfl, ?_⟩
              have hb : TI.badSide ps u v = some e := find_first (fun x hx => by rw [g4 x hx]; rfl) he (by
                have hg : TI.goodSide u v e = false := by simp [TI.goodSide, of_decide_eq_false a1, of_decide_eq_false a4]
                rw [hg]; rfl)
              rw [hb] at q
              exact q _ hext
          · refine iteT ?_
            refine ⟨_, rfl, _, rfl, rfl, e.1, e.2, rfl, rfl, ?_⟩
            have hb : TI.badSide ps u v = some e := find_first (fun x hx => by rw [g4 x hx]; rfl) he (by
              have hg : TI.goodSide u v e = false := by simp [TI.goodSide, of_decide_eq_false a1, of_decide_eq_false a3]
              rw [hg]; rfl)
            rw [hb] at q
            exact q _ hext
    · rintro ρ M' ⟨r4, r5, r6, rfl, g1, g2, g3, g4⟩
      rw [List.length_map, List.take_length] at g2 g4
      have hb : TI.badSide ps u v = none := by
        unfold TI.badSide
        rw [List.find?_eq_none]
        intro e he
        rw [g4 e he]
        exact Bool.false_ne_true
      rw [hb] at q
      exact q q0 M' hq1 g1 g2 g3
end W12
set_option Elab.async false
set_option linter.all false
set_option maxRecDepth 100000
set_option maxHeartbeats 4000000
set_option pp.deepTerms false
set_option pp.deepTerms.threshold 12
set_option pp.maxSteps 4000
namespace W12
open PySem PySem.Spec PyProof.Rows L2 DL
local macro_rules | `(tactic| walk_at "sc") => `(tactic| first | assumption | rfl | exact Nat.le_of_ble_eq_true rfl | decide | omega | exact mul_small (by omega) (by omega) | exact mul_smallR (by omega) (by omega) | exact ⟨by decide, by decide, by decide⟩ | exact ⟨by omega, by assumption⟩ | exact ⟨by decide, log2_small (by decide) (by decide)⟩)
local macro_rules | `(tactic| walk_at "go1") => `(tactic| first | refine ⟨_, rfl, ?_⟩ | refine ⟨rfl, ?_⟩ | refine ⟨_, by assumption, ?_⟩ | refine ⟨_, mup_same, ?_⟩ | refine eqI ?_ | refine neI ?_ | refine iteT ?_ | refine iteF ?_ | refine ⟨(by walk_at "sc"), ?_⟩)
local macro_rules | `(tactic| walk_at "go") => `(tactic| repeat walk_at "go1")
/-- what is made, or what is raised -/
def mkK (cl er : Nat → Addr) (w : World) (r : Sum TI.Err TI.Tl) (M : Mm) (k : DK) (x : DX) : Prop := match r with
  | .inl e => ∀ M', Ext M M' → errK er e x M'
  | .inr t => k (tileD cl w t) M
theorem mkT {cl er : Nat → Addr} {w : World} {M : Mm} {k : DK} {x : DX} {gD : List D → List D → List D} {ds zs : List D} {nm cs ws : D} (h : ∀ p, gD (.cel p :: ds) zs = [.cel p, nm, cs, ws]) (hn : NmV nm) (hc : LsV cs) (hw : LsV ws)
    (q : mkK cl er w (TI.tileRes nm cs ws) M k x) : mkF (cl 0) (ph_Tile___init__ cl er w) gD ds zs M k x := by
  intro p hp
  refine ⟨p, nm, cs, ws, h p, mup_same, hn, hc, hw, ?_⟩
  unfold mkK at q
  cases e : TI.tileRes nm cs ws with
  | inl er' =>
    rw [e] at q
    intro M' hM'
    have hx : Ext M (mdel M' p) := fun a mo ha => by
      have hne : a ≠ p := fun z => by rw [z, hp] at ha; cases ha
      rw [mdel_ne hne]
      exact hM' a mo hne (by rw [mup_ne hne]; exact ha)
    have := q _ hx
    cases er' <;> exact this
  | inr t =>
    rw [e] at q
    intro q0 M' hq0 h1 h2 h3
    have hne : q0 ≠ p := fun z => by rw [z, mup_same] at hq0; cases hq0
    rw [mup_ne hne] at hq0
    have hM : mdel (mdel M' q0) p = M := by
      funext a
      by_cases ha : a = p
      · rw [ha, mdel_same, hp]
      · rw [mdel_ne ha]
        by_cases hb : a = q0
        · rw [hb, mdel_same, hq0]
        · rw [mdel_ne hb, h3 a ha hb, mup_ne ha]
    refine ⟨rfl, _, "inward", q0, w, _, h1, rfl, h2, hq0, hne, ?_⟩
    rw [hM]
    exact q
theorem lsV_lst {ds : List D} (hl : ds.length ≤ 100) (h : ∀ e ∈ ds, PtV e) : LsV (.lst ds) := ⟨rfl, fun es z => by cases z; exact ⟨hl, h⟩⟩
theorem lsV_tup {ds : List D} (hl : ds.length ≤ 100) (h : ∀ e ∈ ds, PtV e) : LsV (.tup ds) := ⟨rfl, fun es z => by cases z; exact ⟨hl, h⟩⟩
theorem ptV_map {cs : List TI.P2} : ∀ e ∈ cs.map TI.pt, PtV e := fun e he => by
  obtain ⟨p, _, rfl⟩ := List.mem_map.mp he
  exact ptV_pt p
theorem nm_len {z : Str} (h : TI.isName (.str z) = true) : z.length ≤ 8 := by
  have h : (decide (1 ≤ (z.length : Int)) && (decide ((z.length : Int) ≤ 8) && z.cps.toList.all TI.isLetter)) = true := h
  simp only [Bool.and_eq_true, decide_eq_true_eq] at h
  omega
theorem len8 : ∀ n : Nat, n ≤ 8 → (Str.ofString (toString (n : Int))).length ≤ 1
  | 0, _ => by decide +kernel
  | 1, _ => by decide +kernel
  | 2, _ => by decide +kernel
  | 3, _ => by decide +kernel
  | 4, _ => by decide +kernel
  | 5, _ => by decide +kernel
  | 6, _ => by decide +kernel
  | 7, _ => by decide +kernel
  | 8, _ => by decide +kernel
  | n + 9, h => absurd h (by omega)
def ph_Tile_label (cl : Nat → Addr) (w : World) : Ct := fun ds M k _ => ∃ t : TI.Tl, ds = [tileD cl w t] ∧ k (.str t.nm) M
theorem ok_Tile_label {K : PySem.W.Frag} {mg : Str → Option Value} {ad : Nat → Addr} {fd : Nat → FuncData} {cl : Nat → Addr} {P : Program} {w : World} {base : Heap} (T : Txt K mg ad fd cl) : FnOk P w K mg base (L2.CX P w) 1 (ad 14) (fd 14) ["self"] (spD K 1 (ph_Tile_label cl w)) := by
  refine fn_D T.F_Tile_label sc_Tile_label rfl fun cdv A outer s H E hr hp ho => ⟨_, (b_one (s_ret (d_fld [cl 0] (one_cls T.ci_Tile.cl T.na_Tile_own_name) (dv 0)))), ?_⟩
  clear hp ho hr
  rintro ds M k x hl ⟨t, rfl, q⟩
  exact ⟨_, rfl, _, _, _, rfl, .head _, rfl, q⟩
def ph_Tile_corners (cl : Nat → Addr) (w : World) : Ct := fun ds M k _ => ∃ t : TI.Tl, ds = [tileD cl w t] ∧ k (.tup (t.cs.map TI.pt)) M
theorem ok_Tile_corners {K : PySem.W.Frag} {mg : Str → Option Value} {ad : Nat → Addr} {fd : Nat → FuncData} {cl : Nat → Addr} {P : Program} {w : World} {base : Heap} (T : Txt K mg ad fd cl) : FnOk P w K mg base (L2.CX P w) 1 (ad 15) (fd 15) ["self"] (spD K 1 (ph_Tile_corners cl w)) := by
  refine fn_D T.F_Tile_corners sc_Tile_corners rfl fun cdv A outer s H E hr hp ho => ⟨_, (b_one (s_ret (d_fld [cl 0] (one_cls T.ci_Tile.cl T.na_Tile_own_corners) (dv 0)))), ?_⟩
  clear hp ho hr
  rintro ds M k x hl ⟨t, rfl, q⟩
  exact ⟨_, rfl, _, _, _, rfl, .head _, rfl, q⟩
def ph_Tile_winds (cl : Nat → Addr) (w : World) : Ct := fun ds M k _ => ∃ t : TI.Tl, ds = [tileD cl w t] ∧ k (.tup [TI.pt t.u, TI.pt t.v]) M
theorem ok_Tile_winds {K : PySem.W.Frag} {mg : Str → Option Value} {ad : Nat → Addr} {fd : Nat → FuncData} {cl : Nat → Addr} {P : Program} {w : World} {base : Heap} (T : Txt K mg ad fd cl) : FnOk P w K mg base (L2.CX P w) 1 (ad 16) (fd 16) ["self"] (spD K 1 (ph_Tile_winds cl w)) := by
  refine fn_D T.F_Tile_winds sc_Tile_winds rfl fun cdv A outer s H E hr hp ho => ⟨_, (b_one (s_ret (d_fld [cl 0] (one_cls T.ci_Tile.cl T.na_Tile_own_winds) (dv 0)))), ?_⟩
  clear hp ho hr
  rintro ds M k x hl ⟨t, rfl, q⟩
  exact ⟨_, rfl, _, _, _, rfl, .head _, rfl, q⟩
def ph_Tile_sides (cl : Nat → Addr) (w : World) : Ct := fun ds M k _ => ∃ t : TI.Tl, ds = [tileD cl w t] ∧ t.cs.length ≤ 8 ∧ k (.lst ((TI.sidesOf t.cs).map TI.sd)) M
theorem ok_Tile_sides {K : PySem.W.Frag} {mg : Str → Option Value} {ad : Nat → Addr} {fd : Nat → FuncData} {cl : Nat → Addr} {P : Program} {w : World} {base : Heap} (T : Txt K mg ad fd cl) : FnOk P w K mg base (L2.CX P w) 3 (ad 17) (fd 17) ["self"] (spD K 1 (ph_Tile_sides cl w)) := by
  have G_corner_pairs := ok_corner_pairs (P := P) (w := w) (base := base) T
  have G_side_of := ok_side_of (P := P) (w := w) (base := base) T
  refine fn_D T.F_Tile_sides sc_Tile_sides rfl fun cdv A outer s H E hr hp ho => ⟨_, (b_one (s_ret (d_lc (own := [("one", 1), ("other", 2)]) rfl sc_Tile_sides.nd (i_seq (d_call G_corner_pairs (hr.mono (by decide)) rfl T.m_corner_pairs T.k_corner_pairs T.kb_corner_pairs_1 (by intro _ _ h _; exact h) hp (a_cons (d_fld [cl 0] (one_cls T.ci_Tile.cl T.na_Tile_own_corners) (dv 0)) a_nil))) (blkOk_by (own := [("one", 1), ("other", 2)]) (N := ["self", "one", "other"]) (sc := (defScope st_Tile_sides)) (by decide +kernel)) (gp_tup (n := 2) (gps_cons (gp_name (by decide)) (gps_cons (gp_name (by decide)) gps_nil))) (fun _ _ _ _ _ => (pg_tup (n := 2) rfl (pgs_cons (pg_name (i := 1) sc_Tile_sides.nd rfl (Or.inl rfl)) (pgs_cons (pg_name (i := 2) sc_Tile_sides.nd rfl (Or.inl rfl)) pgs_nil)))) (fun _ _ _ _ _ => ts_nil) (fun _ _ _ _ _ => (d_call G_side_of (hr.mono (by decide)) rfl T.m_side_of T.k_side_of T.kb_side_of_2 (by intro _ _ h _; exact h) passL (a_cons (dv 1) (a_cons (dv 2) a_nil))))))), ?_⟩
  clear hp ho hr G_corner_pairs G_side_of
  rintro ds M k x hl ⟨t, rfl, hz, q⟩
  refine ⟨_, rfl, _, _, _, rfl, .head _, rfl, rfl, t.cs, rfl, hz, ?_⟩
  refine lc_mapS (fun e => TI.sd (TI.sideOf e.1 e.2)) (by rw [List.length_map, TI.pairsOf_length]; exact Nat.lt_of_le_of_lt hz (by decide)) (fun e he K hK => ?_) (fun d K K' => gT2_mono K K') ?_
  · exact ⟨_, rfl, rfl, _, _, rfl, _, _, rfl, rfl, _, rfl, _, rfl, rfl, e.1, e.2, rfl, hK⟩
  · unfold TI.sidesOf at q
    rw [List.map_map] at q
    exact q
def ph_Tile_has_side (cl : Nat → Addr) (w : World) : Ct := fun ds M k _ => ∃ (t : TI.Tl) (s : TI.P2 × TI.P2), ds = [tileD cl w t, TI.sd s] ∧ t.cs.length ≤ 8 ∧ TI.Bd s.1 ∧ TI.Bd s.2 ∧ k (.bl (decide (TX.PLt s.1 s.2) && decide (s ∈ TI.sidesOf t.cs))) M
theorem ok_Tile_has_side {K : PySem.W.Frag} {mg : Str → Option Value} {ad : Nat → Addr} {fd : Nat → FuncData} {cl : Nat → Addr} {P : Program} {w : World} {base : Heap} (T : Txt K mg ad fd cl) : FnOk P w K mg base (L2.CX P w) 7 (ad 18) (fd 18) ["self", "side"] (spD K 2 (ph_Tile_has_side cl w)) := by
  have G_is_side := ok_is_side (P := P) (w := w) (base := base) T
  have G_Tile_sides := ok_Tile_sides (P := P) (w := w) (base := base) T
  refine fn_D T.F_Tile_has_side sc_Tile_has_side rfl fun cdv A outer s H E hr hp ho => ⟨_, (b_one (s_ret (d_and (d_call G_is_side (hr.mono (by decide)) rfl T.m_is_side T.k_is_side T.kb_is_side_1 (by intro _ _ h _; exact h) hp (a_cons (dv 1) a_nil)) (d_one (d_cmp (o_inD (units65 hr)) (dv 1) (d_meth0 T.ci_Tile.cl T.mt_Tile_sides G_Tile_sides (hr.mono (by decide)) T.kb_Tile_sides_1 (fun us ws h1 h2 => match us, ws, h1, h2 with | [_], [], _, _ => rfl) hp (dv 0) k_nil) rfl))))), ?_⟩
  clear hp ho hr G_is_side G_Tile_sides
  rintro ds M k x hl ⟨t, s, rfl, hz, b1, b2, q⟩
  refine ⟨_, rfl, rfl, s, rfl, b1, b2, ⟨_, rfl, ?_⟩⟩
  refine ite_b (fun e1 => ?_) (fun e1 => ?_)
  · rw [e1, Bool.true_and] at q
    refine ⟨_, rfl, _, rfl, _, rfl, rfl, rfl, rfl, t, rfl, hz, ?_⟩
    refine ⟨TI.sdP s, (TI.sidesOf t.cs).map TI.sdP, TI.toP_sd s, ?_, rfl, TI.shaped_lst (TI.sds_small _), ?_⟩
    · show (toPs _).map PyData.list = _
      rw [TI.toPs_sd]
      rfl
    · rw [if_neg Bool.false_ne_true, TI.any_sd]
      exact q
  · rw [e1, Bool.false_and] at q
    exact q
def ph_Tile_lets_in (cl : Nat → Addr) (w : World) : Ct := fun ds M k _ => ∃ (t : TI.Tl) (s : TI.P2 × TI.P2), ds = [tileD cl w t, TI.sd s] ∧ TI.CsOk t.cs ∧ s ∈ TI.sidesOf t.cs ∧ k (.bl (TI.letsB t.cs t.u s)) M
theorem ok_Tile_lets_in {K : PySem.W.Frag} {mg : Str → Option Value} {ad : Nat → Addr} {fd : Nat → FuncData} {cl : Nat → Addr} {P : Program} {w : World} {base : Heap} (T : Txt K mg ad fd cl) {er : Nat → Addr} {xcs : List Value} (ER : ErT P w K mg base er xcs) : FnOk P w K mg base (L2.CX P w) 9 (ad 19) (fd 19) ["self", "side"] (spD K 2 (ph_Tile_lets_in cl w)) := by
  have G_Tile_has_side := ok_Tile_has_side (P := P) (w := w) (base := base) T
  refine fn_D T.F_Tile_lets_in sc_Tile_lets_in rfl fun cdv A outer s H E hr hp ho => ⟨_, (b_cons (s_if (t_not (t_val (d_meth T.ci_Tile.cl T.mt_Tile_has_side G_Tile_has_side (hr.mono (by decide)) T.kb_Tile_has_side_2 (fun us ws h1 h2 => match us, ws, h1, h2 with | [_, _], [], _, _ => rfl) hp (dv 0) (a_cons (dv 1) a_nil) k_nil))) (b_one (s_raiseE (flD := (fd1 "UnknownSide" "side")) ER.e_UnknownSide (fun r h => fr1 r h) rfl (takes_of rfl rfl rfl rfl) (hr.mono (by decide)) (by decide) rfl (a_cons (dv 1) a_nil))) b_nil)
  (b_one (s_ret (d_ix (x_ixN hr.units) (d_fld [cl 0] (one_cls T.ci_Tile.cl T.na_Tile_inward) (dv 0)) (dv 1) (fun _ _ => rfl))))), ?_⟩
  clear hp ho hr G_Tile_has_side
  rintro ds M k x hl ⟨t, s, rfl, ok, hs, q⟩
  have hbs : (TI.Bd s.1 ∧ TI.Bd s.2) ∧ TX.PLt s.1 s.2 := by
    obtain ⟨e, _, he, rfl⟩ := TI.find_side hs
    obtain ⟨m1, m2⟩ := TI.pairsOf_mem he
    refine ⟨?_, TI.sideOf_lt (TI.pairs_ne ok he)⟩
    unfold TI.sideOf
    split
    · exact ⟨ok.bd _ m1, ok.bd _ m2⟩
    · exact ⟨ok.bd _ m2, ok.bd _ m1⟩
  refine ⟨_, rfl, _, rfl, rfl, _, rfl, rfl, rfl, t, s, rfl, ok.hi, hbs.1.1, hbs.1.2, ?_⟩
  rw [decide_eq_true hbs.2, decide_eq_true hs]
  refine ⟨_, rfl, iteF ?_⟩
  refine ⟨_, rfl, _, _, _, rfl, .head _, rfl, _, rfl, TI.sdKs s, _, _, (TI.kDs_sd s).symm, TI.sdKs_depth s, .inl rfl, TI.inw_get ok t.u hs, q⟩
def ph_Tile___len__ (cl : Nat → Addr) (w : World) : Ct := fun ds M k _ => ∃ t : TI.Tl, ds = [tileD cl w t] ∧ k (.int t.cs.length) M
theorem ok_Tile___len__ {K : PySem.W.Frag} {mg : Str → Option Value} {ad : Nat → Addr} {fd : Nat → FuncData} {cl : Nat → Addr} {P : Program} {w : World} {base : Heap} (T : Txt K mg ad fd cl) : FnOk P w K mg base (L2.CX P w) 1 (ad 20) (fd 20) ["self"] (spD K 1 (ph_Tile___len__ cl w)) := by
  refine fn_D T.F_Tile___len__ sc_Tile___len__ rfl fun cdv A outer s H E hr hp ho => ⟨_, (b_one (s_ret (d_callB c_len rfl T.b_len boot_len' (a_cons (d_fld [cl 0] (one_cls T.ci_Tile.cl T.na_Tile_own_corners) (dv 0)) a_nil)))), ?_⟩
  clear hp ho hr
  rintro ds M k x hl ⟨t, rfl, q⟩
  refine ⟨_, rfl, _, _, _, rfl, .head _, rfl, ?_⟩
  show k (.int ((t.cs.map TI.pt).length : Int)) M
  rw [List.length_map]
  exact q
def ph_Tile___repr__ (cl : Nat → Addr) (w : World) : Ct := fun ds M k _ => ∃ t : TI.Tl, ds = [tileD cl w t] ∧ t.nm.length ≤ 8 ∧ t.cs.length ≤ 8 ∧ k (.str ("Tile(" ++ t.nm ++ ", " ++ toString (t.cs.length : Int) ++ " corners)")) M
theorem ok_Tile___repr__ {K : PySem.W.Frag} {mg : Str → Option Value} {ad : Nat → Addr} {fd : Nat → FuncData} {cl : Nat → Addr} {P : Program} {w : World} {base : Heap} (T : Txt K mg ad fd cl) : FnOk P w K mg base (L2.CX P w) 1 (ad 21) (fd 21) ["self"] (spD K 1 (ph_Tile___repr__ cl w)) := by
  refine fn_D T.F_Tile___repr__ sc_Tile___repr__ rfl fun cdv A outer s H E hr hp ho => ⟨_, (b_one (s_ret (d_joined (j_cons d_str (j_cons (d_fmt (d_fld [cl 0] (one_cls T.ci_Tile.cl T.na_Tile_own_name) (dv 0))) (j_cons d_str (j_cons (d_fmt (d_callB c_len rfl T.b_len boot_len' (a_cons (d_fld [cl 0] (one_cls T.ci_Tile.cl T.na_Tile_own_corners) (dv 0)) a_nil))) (j_cons d_str j_nil)))))))), ?_⟩
  clear hp ho hr
  rintro ds M k x hl ⟨t, rfl, z1, z2, q⟩
  have big : 100000 ≤ sizeLine := by decide
  have l1 : (Str.ofString "Tile(").length = 5 := by decide +kernel
  have l2 : (Str.ofString ", ").length = 2 := by decide +kernel
  have l3 : (Str.ofString " corners)").length = 9 := by decide +kernel
  have l4 := len8 _ z2
  have e : ((t.cs.map TI.pt).length : Int) = t.cs.length := by rw [List.length_map]
  refine ⟨_, rfl, ?_, _, rfl, _, _, _, rfl, .head _, rfl, .inl ⟨_, rfl, by omega, _, rfl, ?_, _, rfl, ?_, _, rfl, _, _, _, rfl, .head _, rfl, .inr ⟨_, rfl, ?_, _, rfl, ?_, _, rfl, ?_, ?_⟩⟩⟩
  · rw [Str.empty_append]; show (Str.ofString "Tile(").length ≤ _; omega
  · rw [Str.empty_append, Str.length_append]; show (Str.ofString "Tile(").length + t.nm.length ≤ _; omega
  · rw [Str.empty_append, Str.length_append, Str.length_append]; show (Str.ofString "Tile(").length + t.nm.length + (Str.ofString ", ").length ≤ _; omega
  · rw [e]
    refine Nat.lt_of_le_of_lt ?_ (by decide : 3 < 1920)
    have : ((t.cs.length : Int)).natAbs ≤ 8 := by omega
    match h : ((t.cs.length : Int)).natAbs, this with
    | 0, _ => decide
    | 1, _ => decide
    | 2, _ => decide
    | 3, _ => decide
    | 4, _ => decide
    | 5, _ => decide
    | 6, _ => decide
    | 7, _ => decide
    | 8, _ => decide
    | n + 9, h => exact absurd h (by omega)
  · rw [e, Str.empty_append, Str.length_append, Str.length_append, Str.length_append]; show (Str.ofString "Tile(").length + t.nm.length + (Str.ofString ", ").length + (Str.ofString (toString (t.cs.length : Int))).length ≤ _; omega
  · rw [e, Str.empty_append, Str.length_append, Str.length_append, Str.length_append, Str.length_append]; show (Str.ofString "Tile(").length + t.nm.length + (Str.ofString ", ").length + (Str.ofString (toString (t.cs.length : Int))).length + (Str.ofString " corners)").length ≤ _; omega
  · rw [e, Str.empty_append]
    exact q
end W12
set_option Elab.async false
set_option linter.all false
set_option maxRecDepth 100000
set_option maxHeartbeats 4000000
set_option pp.deepTerms false
set_option pp.deepTerms.threshold 12
set_option pp.maxSteps 4000
namespace W12
open PySem PySem.Spec PyProof.Rows L2 DL
local macro_rules | `(tactic| walk_at "sc") => `(tactic| first | assumption | rfl | exact Nat.le_of_ble_eq_true rfl | decide | omega | exact mul_small (by omega) (by omega) | exact mul_smallR (by omega) (by omega) | exact ⟨by decide, by decide, by decide⟩ | exact ⟨by omega, by assumption⟩ | exact ⟨by decide, log2_small (by decide) (by decide)⟩)
local macro_rules | `(tactic| walk_at "go1") => `(tactic| first | refine ⟨_, rfl, ?_⟩ | refine ⟨rfl, ?_⟩ | refine ⟨_, by assumption, ?_⟩ | refine ⟨_, mup_same, ?_⟩ | refine eqI ?_ | refine neI ?_ | refine iteT ?_ | refine iteF ?_ | refine ⟨(by walk_at "sc"), ?_⟩)
local macro_rules | `(tactic| walk_at "go") => `(tactic| repeat walk_at "go1")
def ph__law_is_name : Ct := fun ds M k _ => ∃ u, ds = [u] ∧ NmV u ∧ k (.bl (TI.isName u)) M
theorem ok__law_is_name {K : PySem.W.Frag} {mg : Str → Option Value} {ad : Nat → Addr} {fd : Nat → FuncData} {cl : Nat → Addr} {P : Program} {w : World} {base : Heap} (T : Txt K mg ad fd cl) : FnOk P w K mg base (L2.CX P w) 1 (ad 22) (fd 22) ["_law_word"] (spD K 1 ph__law_is_name) := by
  refine fn_D T.F__law_is_name sc__law_is_name rfl fun cdv A outer s H E hr hp ho => ⟨_, (b_cons (s_set (i := 1) sc__law_is_name.nd rfl (Or.inl rfl) (d_and (d_isi .str (CS cl) (by decide) T.isi_str rfl T.b_isinstance rfl T.b_str (by decide +kernel) (dv 0)) (d_one (d_chain o_le o_le d_int (d_callB c_len rfl T.b_len boot_len' (a_cons (dv 0) a_nil)) d_int))))
  (b_one (s_ret (d_and (dv 1) (d_one (d_callB (c_all rfl) rfl T.b_all boot_all' (a_cons (d_lc (own := [("_law_sign", 2)]) rfl sc__law_is_name.nd (i_seq (dv 0)) (blkOk_by (own := [("_law_sign", 2)]) (N := ["_law_word", "_law_good", "_law_sign"]) (sc := (defScope st__law_is_name)) (by decide +kernel)) (gp_name (by decide)) (fun _ _ _ _ _ => (pg_name (i := 2) sc__law_is_name.nd rfl (Or.inl rfl))) (fun _ _ _ _ _ => ts_nil) (fun _ _ _ _ _ => (d_cmp o_in (dv 2) d_str rfl))) a_nil))))))), ?_⟩
  clear hp ho hr
  rintro ds M k x hl ⟨u, rfl, ⟨hk, hz⟩, q⟩
  obtain ⟨v, hv⟩ := Option.isSome_iff_exists.mp hk
  cases u with
  | str z =>
    have hz := hz z rfl
    have hz2 : z.length ≤ sizeLine := Nat.le_trans hz (by decide)
    refine ⟨_, rfl, ⟨_, rfl, iteT ⟨_, rfl, hz2, ⟨_, rfl, ?_⟩⟩⟩⟩
    have out : ∀ r : Bool, TI.isName (.str z) = r → k (.bl r) M := fun r e => by rw [← e]; exact q
    refine ite_b (fun e1 => ?_) (fun e1 => ?_)
    · refine ⟨_, rfl, ⟨_, rfl, ?_⟩⟩
      refine ite_b (fun e2 => ?_) (fun e2 => ?_)
      · refine ⟨_, rfl, ?_⟩
        have hs : (DL.signs z).length < sizeLine := by
          unfold DL.signs
          rw [List.length_map]
          exact Nat.lt_of_le_of_lt (Nat.le_trans (by simp [Str.length]) hz) (by decide)
        refine lc_map letD hs (fun d hd K hK => ?_) (fun d K K' => gN_mono K K') ?_
        · unfold DL.signs at hd
          obtain ⟨c, _, rfl⟩ := List.mem_map.mp hd
          exact ⟨_, rfl, c, rfl, hK⟩
        · refine ⟨z.cps.toList.map TI.isLetter, ?_, out _ ?_⟩
          · unfold DL.signs
            rw [List.map_map, List.map_map]
            rfl
          · show (decide (1 ≤ (z.length : Int)) && (decide ((z.length : Int) ≤ 8) && _)) = _
            rw [e1, e2, Bool.true_and, Bool.true_and, List.all_map]
            rfl
      · refine out false ?_
        show (decide (1 ≤ (z.length : Int)) && (decide ((z.length : Int) ≤ 8) && _)) = false
        rw [e2, Bool.false_and, Bool.and_false]
    · refine ⟨_, rfl, ⟨_, rfl, iteF (out false ?_)⟩⟩
      show (decide (1 ≤ (z.length : Int)) && _) = false
      rw [e1, Bool.false_and]
  | _ => cases hv <;> exact ⟨_, rfl, ⟨_, rfl, iteF ⟨_, rfl, ⟨_, rfl, iteF q⟩⟩⟩⟩
theorem items_of {u : D} {ds : List D} (h : TI.itemsOf u = some ds) : u = .lst ds ∨ u = .tup ds := by
  unfold TI.itemsOf at h
  split at h <;> cases h
  · exact .inl rfl
  · exact .inr rfl
theorem at1 {a u : D} {r : List D} : atI (a :: u :: r) 1 = some u := atI_nat (j := 1) rfl
theorem e6' : (10 : Int) ^ Int.toNat 6 = 1000000 := by decide +kernel
def notInt : D → Bool
  | .int _ => false
  | _ => true
theorem abs_max (i j : Int) : decide ((if (if j < 0 then -j else j) > (if i < 0 then -i else i) then (if j < 0 then -j else j) else (if i < 0 then -i else i)) ≤ (10 : Int) ^ Int.toNat 6) = (TI.numOk (.int i) && TI.numOk (.int j)) := by
  rw [e6']
  have : (TI.numOk (.int i) && TI.numOk (.int j)) = decide ((-1000000 ≤ i ∧ i ≤ 1000000) ∧ -1000000 ≤ j ∧ j ≤ 1000000) := by
    simp [TI.numOk]
  rw [this]
  refine decide_eq_decide.mpr ?_
  split <;> split <;> split <;> omega
def ph__law_is_dot : Ct := fun ds M k _ => ∃ u, ds = [u] ∧ PtV u ∧ k (.bl (TI.isPt u)) M
theorem ok__law_is_dot {K : PySem.W.Frag} {mg : Str → Option Value} {ad : Nat → Addr} {fd : Nat → FuncData} {cl : Nat → Addr} {P : Program} {w : World} {base : Heap} (T : Txt K mg ad fd cl) : FnOk P w K mg base (L2.CX P w) 1 (ad 23) (fd 23) ["_law_dot"] (spD K 1 ph__law_is_dot) := by
  refine fn_D T.F__law_is_dot sc__law_is_dot rfl fun cdv A outer s H E hr hp ho => ⟨_, (b_cons (s_if (DPW.t (w_or (t_not (t_val (d_isi .tup (CS cl) (by decide) T.isi_tuple rfl T.b_isinstance rfl T.b_tuple (by decide +kernel) (dv 0)))) (w_or (t_cmp (o_ne hr.units) (d_callB c_len rfl T.b_len boot_len' (a_cons (dv 0) a_nil)) d_int (nomark _)) (w_or1 (t_cmp (o_neE hr.units) (d_lc (own := [("_law_n", 1)]) rfl sc__law_is_dot.nd (i_seq (dv 0)) (blkOk_by (own := [("_law_n", 1)]) (N := ["_law_dot", "_law_n"]) (sc := (defScope st__law_is_dot)) (by decide +kernel)) (gp_name (by decide)) (fun _ _ _ _ _ => (pg_name (i := 1) sc__law_is_dot.nd rfl (Or.inl rfl))) (fun _ _ _ _ _ => (ts_one (DPW.t (w_or (t_not (t_val (d_isi .int (CS cl) (by decide) T.isi_int rfl T.b_isinstance rfl T.b_int (by decide +kernel) (dv 1)))) (w_or1 (t_val (d_isi .bl (CS cl) (by decide) T.isi_bool rfl T.b_isinstance rfl T.b_bool (by decide +kernel) (dv 1)))))))) (fun _ _ _ _ _ => (dv 1))) (d_lst a_nil) (nomark _)))))) (b_one (s_ret d_bl)) b_nil)
  (b_one (s_ret (d_cmp o_le (d_callB (c_max2 rfl) rfl T.b_max boot_max' (a_cons (d_callB c_abs rfl T.b_abs boot_abs' (a_cons (d_ix x_ix (dv 0) d_int (fun _ _ => rfl)) a_nil)) (a_cons (d_callB c_abs rfl T.b_abs boot_abs' (a_cons (d_ix x_ix (dv 0) d_int (fun _ _ => rfl)) a_nil)) a_nil))) (d_op o_pow d_int d_int) (nomark _))))), ?_⟩
  clear hp ho hr
  rintro ds M k x hl ⟨u, rfl, ⟨hk, hz⟩, q⟩
  obtain ⟨v, hv⟩ := Option.isSome_iff_exists.mp hk
  cases u with
  | tup es =>
    obtain ⟨hz, hk⟩ := hz es rfl
    refine ⟨_, rfl, ⟨_, rfl, iteF ⟨_, rfl, neI ⟨_, rfl, ?_⟩⟩⟩⟩
    refine ite_b (fun e1 => ?_) (fun e1 => ?_)
    · have e1 : ¬ es.length = 2 := by
        have e1 : ¬ (es.length : Int) = 2 := by simpa using e1
        omega
      have e : TI.isPt (.tup es) = false := by
        match es, e1 with
        | [], _ => rfl
        | [_], _ => rfl
        | [_, _], h => exact absurd rfl h
        | _ :: _ :: _ :: _, _ => rfl
      rw [e] at q
      exact iteT q
    · have e1 : es.length = 2 := by
        have e1 : (es.length : Int) = 2 := by simpa using e1
        omega
      match es, e1, hk with
      | [a, b], _, hk =>
        refine ⟨_, rfl, ?_⟩
        refine lc_filtS (S := [a, b]) (g := id) notInt id (Nat.lt_of_le_of_lt (Nat.le_of_ble_eq_true rfl : 2 ≤ 8) (by decide)) (fun d hd K R' hK hR => ?_) ?_
        · obtain ⟨v2, hv2⟩ := Option.isSome_iff_exists.mp (hk d hd)
          cases d <;> cases hv2 <;> first
            | exact ⟨_, rfl, ⟨_, rfl, iteT (iteT ⟨_, rfl, hK rfl⟩)⟩⟩
            | exact ⟨_, rfl, ⟨_, rfl, iteF ⟨_, rfl, ⟨_, rfl, iteT ⟨_, rfl, hK rfl⟩⟩⟩⟩⟩
            | exact ⟨_, rfl, ⟨_, rfl, iteF ⟨_, rfl, ⟨_, rfl, iteF (hR rfl)⟩⟩⟩⟩
        · refine ⟨Nat.zero_le _, rfl, _, rfl, ⟨_, rfl, ?_⟩⟩
          cases a with
          | int i =>
            cases b with
            | int j =>
              refine iteF ⟨_, rfl, _, rfl, _, rfl, _, rfl, ⟨by decide, by decide, by decide⟩, ?_⟩
              show k (.bl (decide (_ ≤ _))) M
              rw [abs_max]
              exact q
            | _ =>
              have e : ∀ c : Bool, (c && false) = false := fun c => by cases c <;> rfl
              have q : k (.bl (TI.numOk (.int i) && false)) M := q
              rw [e] at q
              exact iteT q
          | _ => exact iteT q
  | _ => cases hv <;> exact ⟨_, rfl, ⟨_, rfl, iteT (iteT q)⟩⟩
def ph__law_border : Ct := fun ds M k _ => ∃ (a u : D) (r : List D) (cs : List TI.P2), ds = [.tup (a :: u :: r)] ∧ TI.itemsOf u = some (cs.map TI.pt) ∧ cs.length ≤ 8 ∧ k (.lst ((TI.pairsOf cs).map TI.sd)) M
theorem ok__law_border {K : PySem.W.Frag} {mg : Str → Option Value} {ad : Nat → Addr} {fd : Nat → FuncData} {cl : Nat → Addr} {P : Program} {w : World} {base : Heap} (T : Txt K mg ad fd cl) : FnOk P w K mg base (L2.CX P w) 1 (ad 24) (fd 24) ["_law_tile"] (spD K 1 ph__law_border) := by
  refine fn_D T.F__law_border sc__law_border rfl fun cdv A outer s H E hr hp ho => ⟨_, (b_cons (s_set (i := 1) sc__law_border.nd rfl (Or.inr rfl) (d_ix x_ix (dv 0) d_int (fun _ _ => rfl)))
  (b_one (s_ret (d_lc (own := [("_law_k", 2)]) rfl sc__law_border.nd (i_range1 rfl T.b_range (a_cons (d_callB c_len rfl T.b_len boot_len' (a_cons (dv 1) a_nil)) a_nil)) (blkOk_by (own := [("_law_k", 2)]) (N := ["_law_tile", "_law_dots", "_law_k"]) (sc := (defScope st__law_border)) (by decide +kernel)) (gp_name (by decide)) (fun _ _ _ _ _ => (pg_name (i := 2) sc__law_border.nd rfl (Or.inl rfl))) (fun _ _ _ _ _ => ts_nil) (fun _ _ _ _ _ => (d_tup (a_cons (d_ix x_ix (dv 1) (dv 2) (fun _ _ => rfl)) (a_cons (d_ix x_ix (dv 1) (d_op o_mod (d_callTy c_int rfl T.b_int boot_int' (a_cons (d_op o_add (dv 2) d_int) a_nil)) (d_callB c_len rfl T.b_len boot_len' (a_cons (dv 1) a_nil))) (fun _ _ => rfl)) a_nil)))))))), ?_⟩
  clear hp ho hr
  rintro ds M k x hl ⟨a, u, r, cs, rfl, hi, hz, q⟩
  have hz' : (cs.map TI.pt).length = cs.length := List.length_map ..
  rcases items_of hi with rfl | rfl
  · refine ⟨_, rfl, _, at1, _, rfl, _, rfl, by omega, by omega, ?_⟩
    dsimp only
    rw [hz', Int.toNat_natCast, upto0]
    refine lc_mapS (fun j => TI.sd (cs.getD j (0, 0), cs.getD ((j + 1) % cs.length) (0, 0))) (by simp; exact Nat.lt_of_le_of_lt hz (by decide)) (fun j hj K hK => ?_) (fun d K K' => gN_mono K K') ?_
    · have hj := List.mem_range.mp hj
      have hj2 : (j + 1) % cs.length < cs.length := Nat.mod_lt _ (by omega)
      exact ⟨_, rfl, _, rfl, _, pairs_at hj, _, rfl, _, rfl, _, rfl, by show ((cs.map TI.pt).length : Int) ≠ 0; omega, _, pairs_nx hj, Nat.le_of_ble_eq_true rfl, hK⟩
    · unfold TI.pairsOf at q
      rw [List.map_map] at q
      exact q
  · refine ⟨_, rfl, _, at1, _, rfl, _, rfl, by omega, by omega, ?_⟩
    dsimp only
    rw [hz', Int.toNat_natCast, upto0]
    refine lc_mapS (fun j => TI.sd (cs.getD j (0, 0), cs.getD ((j + 1) % cs.length) (0, 0))) (by simp; exact Nat.lt_of_le_of_lt hz (by decide)) (fun j hj K hK => ?_) (fun d K K' => gN_mono K K') ?_
    · have hj := List.mem_range.mp hj
      have hj2 : (j + 1) % cs.length < cs.length := Nat.mod_lt _ (by omega)
      exact ⟨_, rfl, _, rfl, _, pairs_at hj, _, rfl, _, rfl, _, rfl, by show ((cs.map TI.pt).length : Int) ≠ 0; omega, _, pairs_nx hj, Nat.le_of_ble_eq_true rfl, hK⟩
    · unfold TI.pairsOf at q
      rw [List.map_map] at q
      exact q
def ph__law_cross : Ct := fun ds M k _ => ∃ p q : TI.P2, ds = [TI.pt p, TI.pt q] ∧ DL.MulOk p.1 q.2 ∧ DL.MulOk p.2 q.1 ∧ k (.int (TI.cross p q)) M
theorem ok__law_cross {K : PySem.W.Frag} {mg : Str → Option Value} {ad : Nat → Addr} {fd : Nat → FuncData} {cl : Nat → Addr} {P : Program} {w : World} {base : Heap} (T : Txt K mg ad fd cl) : FnOk P w K mg base (L2.CX P w) 1 (ad 25) (fd 25) ["_law_u", "_law_v"] (spD K 2 ph__law_cross) := by
  refine fn_D T.F__law_cross sc__law_cross rfl fun cdv A outer s H E hr hp ho => ⟨_, (b_one (s_ret (d_op o_sub (d_op o_mul (d_ix x_ix (dv 0) d_int (fun _ _ => rfl)) (d_ix x_ix (dv 1) d_int (fun _ _ => rfl))) (d_op o_mul (d_ix x_ix (dv 0) d_int (fun _ _ => rfl)) (d_ix x_ix (dv 1) d_int (fun _ _ => rfl)))))), ?_⟩
  clear hp ho hr
  rintro ds M k x hl ⟨p, q', rfl, h1, h2, q⟩
  walk_at "go"
  exact q
def ph__law_lead : Ct := fun ds M k _ => ∃ p q : TI.P2, ds = [TI.pt p, TI.pt q] ∧ k (TI.pt (TI.lead p q)) M
theorem ok__law_lead {K : PySem.W.Frag} {mg : Str → Option Value} {ad : Nat → Addr} {fd : Nat → FuncData} {cl : Nat → Addr} {P : Program} {w : World} {base : Heap} (T : Txt K mg ad fd cl) : FnOk P w K mg base (L2.CX P w) 1 (ad 26) (fd 26) ["_law_p", "_law_q"] (spD K 2 ph__law_lead) := by
  refine fn_D T.F__law_lead sc__law_lead rfl fun cdv A outer s H E hr hp ho => ⟨_, (b_one (s_ret (d_tup (a_cons (d_op o_sub (d_ix x_ix (dv 1) d_int (fun _ _ => rfl)) (d_ix x_ix (dv 0) d_int (fun _ _ => rfl))) (a_cons (d_op o_sub (d_ix x_ix (dv 1) d_int (fun _ _ => rfl)) (d_ix x_ix (dv 0) d_int (fun _ _ => rfl))) a_nil))))), ?_⟩
  clear hp ho hr
  rintro ds M k x hl ⟨p, q', rfl, q⟩
  walk_at "go"
  exact q
def ph__law_turn : Ct := fun ds M k _ => ∃ p q r : TI.P2, ds = [TI.pt p, TI.pt q, TI.pt r] ∧ TI.Bd p ∧ TI.Bd q ∧ TI.Bd r ∧ k (.int (TI.turn p q r)) M
theorem ok__law_turn {K : PySem.W.Frag} {mg : Str → Option Value} {ad : Nat → Addr} {fd : Nat → FuncData} {cl : Nat → Addr} {P : Program} {w : World} {base : Heap} (T : Txt K mg ad fd cl) : FnOk P w K mg base (L2.CX P w) 3 (ad 27) (fd 27) ["_law_p", "_law_q", "_law_r"] (spD K 3 ph__law_turn) := by
  have G__law_cross := ok__law_cross (P := P) (w := w) (base := base) T
  have G__law_lead := ok__law_lead (P := P) (w := w) (base := base) T
  refine fn_D T.F__law_turn sc__law_turn rfl fun cdv A outer s H E hr hp ho => ⟨_, (b_one (s_ret (d_call G__law_cross (hr.mono (by decide)) rfl T.m__law_cross T.k__law_cross T.kb__law_cross_2 (by intro _ _ h _; exact h) hp (a_cons (d_call G__law_lead (hr.mono (by decide)) rfl T.m__law_lead T.k__law_lead T.kb__law_lead_2 (by intro _ _ h _; exact h) hp (a_cons (dv 0) (a_cons (dv 1) a_nil))) (a_cons (d_call G__law_lead (hr.mono (by decide)) rfl T.m__law_lead T.k__law_lead T.kb__law_lead_2 (by intro _ _ h _; exact h) hp (a_cons (dv 0) (a_cons (dv 2) a_nil))) a_nil))))), ?_⟩
  clear hp ho hr G__law_cross G__law_lead
  rintro ds M k x hl ⟨p, q', r, rfl, b1, b2, b3, q⟩
  have l1 := TI.bd_lead b1 b2
  have l2 := TI.bd_lead b1 b3
  refine ⟨_, rfl, _, rfl, rfl, p, q', rfl, _, rfl, _, rfl, rfl, p, r, rfl, rfl, TI.lead p q', TI.lead p r, rfl, TI.mul2 (by omega) (by omega), TI.mul2 (by omega) (by omega), q⟩
def ph__law_dots_due : Ct := fun ds M k _ => ∃ u, ds = [u] ∧ LsV u ∧ k (TI.dueS (TI.cornersRes u)) M
theorem ok__law_dots_due {K : PySem.W.Frag} {mg : Str → Option Value} {ad : Nat → Addr} {fd : Nat → FuncData} {cl : Nat → Addr} {P : Program} {w : World} {base : Heap} (T : Txt K mg ad fd cl) : FnOk P w K mg base (L2.CX P w) 5 (ad 28) (fd 28) ["_law_dots"] (spD K 1 ph__law_dots_due) := by
  have G__law_is_dot := ok__law_is_dot (P := P) (w := w) (base := base) T
  have G__law_border := ok__law_border (P := P) (w := w) (base := base) T
  have G__law_turn := ok__law_turn (P := P) (w := w) (base := base) T
  refine fn_D T.F__law_dots_due sc__law_dots_due rfl fun cdv A outer s H E hr hp ho => ⟨_, (b_cons (s_if (t_not (t_val (d_isiLT (CS cl) T.isi_list T.isi_tuple rfl T.b_isinstance rfl T.b_list rfl T.b_tuple (dv 0)))) (b_one (s_ret (d_tup (a_cons d_str (a_cons d_int a_nil))))) b_nil)
  (b_cons (s_for ho rfl (i_range1 rfl T.b_range (a_cons (d_callB c_len rfl T.b_len boot_len' (a_cons (dv 0) a_nil)) a_nil)) (g_name (i := 1) sc__law_dots_due.nd rfl (Or.inl rfl))
  (b_one (s_if (DPW.t (w_or (t_cmp (o_eq hr.units) (dv 1) d_int (nomark _)) (w_or (t_not (t_val (d_call G__law_is_dot (hr.mono (by decide)) rfl T.m__law_is_dot T.k__law_is_dot T.kb__law_is_dot_1 (by intro _ _ h _; exact h) hp (a_cons (d_ix x_ix (dv 0) (dv 1) (fun _ _ => rfl)) a_nil)))) (w_or1 (t_cmp (o_inD (units65 hr)) (d_ix x_ix (dv 0) (dv 1) (fun _ _ => rfl)) (d_callTy c_list rfl T.b_list boot_list' (a_cons (d_slice sl_D (dv 0) o_none (o_some (dv 1))) a_nil)) rfl))))) (b_one (s_ret (d_tup (a_cons d_str (a_cons (dv 1) a_nil))))) b_nil)))
  (b_cons (s_if (t_cmp o_lt (d_callB c_len rfl T.b_len boot_len' (a_cons (dv 0) a_nil)) d_int (nomark _)) (b_one (s_ret (d_tup (a_cons d_str (a_cons (d_callB c_len rfl T.b_len boot_len' (a_cons (dv 0) a_nil)) a_nil))))) b_nil)
  (b_cons (s_set (i := 2) sc__law_dots_due.nd rfl (Or.inl rfl) (d_lst a_nil))
  (b_cons (s_for ho rfl (i_seq (d_call G__law_border (hr.mono (by decide)) rfl T.m__law_border T.k__law_border T.kb__law_border_1 (by intro _ _ h _; exact h) hp (a_cons (d_tup (a_cons d_str (a_cons (dv 0) a_nil))) a_nil))) (g_tup (n := 2) rfl (gs_cons (g_name (i := 3) sc__law_dots_due.nd rfl (Or.inr rfl)) (gs_cons (g_name (i := 4) sc__law_dots_due.nd rfl (Or.inr rfl)) gs_nil)))
  (b_one (s_set (i := 2) sc__law_dots_due.nd rfl (Or.inl rfl) (d_op o_add (dv 2) (d_lc (own := [("_law_r", 5)]) rfl sc__law_dots_due.nd (i_seq (dv 0)) (blkOk_by (own := [("_law_r", 5)]) (N := ["_law_dots", "_law_at", "_law_turns", "_law_p", "_law_q", "_law_r"]) (sc := (defScope st__law_dots_due)) (by decide +kernel)) (gp_name (by decide)) (fun _ _ _ _ _ => (pg_name (i := 5) sc__law_dots_due.nd rfl (Or.inl rfl))) (fun _ _ _ _ _ => ts_nil) (fun _ _ _ _ _ => (d_call G__law_turn (hr.mono (by decide)) rfl T.m__law_turn T.k__law_turn T.kb__law_turn_3 (by intro _ _ h _; exact h) passL (a_cons (dv 3) (a_cons (dv 4) (a_cons (dv 5) a_nil))))))))))
  (b_one (s_ret (d_if (DPW.t (w_or (t_cmp o_lt (d_callB (c_minL rfl) rfl T.b_min boot_min' (a_cons (dv 2) a_nil)) d_int (nomark _)) (w_or1 (t_cmp (o_eq hr.units) (d_callB (c_maxL rfl) rfl T.b_max boot_max' (a_cons (dv 2) a_nil)) d_int (nomark _))))) (d_tup (a_cons d_str a_nil)) (d_tup a_nil))))))))), ?_⟩
  clear hp ho hr G__law_is_dot G__law_border G__law_turn
  rintro ds M k x hl ⟨u, rfl, ⟨hk, hz⟩, q⟩
  obtain ⟨v, hv⟩ := Option.isSome_iff_exists.mp hk
  refine ⟨_, rfl, isiLTk hv ⟨_, rfl, ?_⟩⟩
  rw [TI.kd_items hv]
  cases hi : TI.itemsOf u with
  | none =>
    have e : TI.cornersRes u = .inl (.corners 0) := by unfold TI.cornersRes; rw [hi]
    rw [e] at q
    exact iteT ⟨Nat.le_of_ble_eq_true rfl, q⟩
  | some ds =>
    obtain ⟨hl2, hpv⟩ := hz ds hi
    refine iteF ?_
    rcases items_of hi with rfl | rfl
    · have hres : ∀ i, TI.scan 0 [] ds = .inl i → TI.cornersRes (.lst ds) = .inl (.corners i) := fun i h => by unfold TI.cornersRes TI.itemsOf; dsimp only; rw [h]
      refine ⟨_, rfl, _, rfl, by omega, by omega, ?_⟩
      dsimp only
      rw [Int.toNat_natCast, upto0]
      refine ForK.of (fun j ρ M' => M = M' ∧ ∃ (r1 : Option D) (seen : List TI.P2), ρ = [some (.lst ds), r1, none, none, none, none] ∧ ds.take j = seen.map TI.pt ∧ TI.scan 0 [] ds = TI.scan j seen (ds.drop j) ∧ j ≤ 8 ∧ (∀ p ∈ seen, TI.Bd p)) ⟨rfl, none, [], rfl, rfl, rfl, by omega, nofun⟩ ?_ ?_
      · rintro j d ρ M' hd ⟨rfl, r1, seen, rfl, h1, h2, h3, h5⟩
        obtain ⟨j', hj', rfl⟩ := map_get hd
        obtain ⟨hj0, hj1⟩ := List.getElem?_eq_some_iff.mp hj'
        rw [List.getElem_range] at hj1
        subst hj1
        have hj : j < ds.length := by rw [List.length_range] at hj0; exact hj0
        obtain ⟨c, hc⟩ : ∃ c, ds[j]? = some c := ⟨_, List.getElem?_eq_getElem hj⟩
        have hat : atI ds (j : Int) = some c := atI_nat hc
        have hdrop : ds.drop j = c :: ds.drop (j + 1) := by
          rw [List.drop_eq_getElem_cons hj]
          congr 1
          rw [List.getElem?_eq_getElem hj] at hc
          exact Option.some.inj hc
        rw [hdrop] at h2
        rw [scan_cons] at h2
        refine ⟨_, rfl, eqI ⟨_, rfl, ?_⟩⟩
        refine ite_b (fun e1 => ?_) (fun e1 => ?_)
        · have e1 : (j : Int) = 8 := of_decide_eq_true e1
          have e1 : j = 8 := by omega
          rw [if_pos e1] at h2
          rw [hres _ h2] at q
          exact iteT ⟨_, rfl, Nat.le_of_ble_eq_true rfl, q⟩
        · have e1 : ¬ (j : Int) = 8 := of_decide_eq_false e1
          have e1 : ¬ j = 8 := by omega
          rw [if_neg e1] at h2
          refine ⟨_, rfl, _, rfl, _, hat, rfl, c, rfl, hpv c (List.mem_of_getElem? hc), ?_⟩
          rw [TI.isPt_eq]
          cases hp : TI.ptOf c with
          | none =>
            rw [hp] at h2
            rw [hres _ h2] at q
            exact ⟨_, rfl, iteT (iteT ⟨_, rfl, Nat.le_of_ble_eq_true rfl, q⟩)⟩
          | some p =>
            rw [hp] at h2
            dsimp only at h2
            obtain ⟨rfl, bp⟩ := TI.ptOf_some hp
            refine ⟨_, rfl, iteF ?_⟩
            refine ⟨_, rfl, _, rfl, _, hat, _, rfl, _, rfl, _, rfl, ?_⟩
            refine ⟨TI.ptP p, seen.map TI.ptP, TI.toP_pt p, ?_, rfl, TI.shaped_lst (TI.pts_small seen), ?_⟩
            · show (toPs (DL.cutD ds none (some (j : Int)))).map PyData.list = _
              rw [cut_take ds (Nat.le_of_lt hj), h1, TI.toPs_pt]
              rfl
            rw [if_neg Bool.false_ne_true, TI.any_pt]
            refine ⟨_, rfl, ?_⟩
            by_cases hm : p ∈ seen
            · rw [if_pos hm] at h2
              rw [hres _ h2] at q
              rw [decide_eq_true hm]
              exact iteT ⟨_, rfl, Nat.le_of_ble_eq_true rfl, q⟩
            · rw [if_neg hm] at h2
              rw [decide_eq_false hm]
              refine iteF ⟨rfl, _, seen ++ [p], rfl, ?_, h2, by omega, fun p' hp' => ?_⟩
              · rw [take_snoc hc, h1]
                simp
              · rcases List.mem_append.mp hp' with z | z
                · exact h5 _ z
                · rw [List.mem_singleton.mp z]; exact bp
      · rintro ρ M' ⟨rfl, r1, seen, rfl, h1, h2, h3, h5⟩
        rw [List.length_map, List.length_range] at h1 h2 h3
        have h2 : TI.scan 0 [] ds = .inr seen := by
          rw [h2, List.drop_length]
          rfl
        rw [List.take_length] at h1
        subst h1
        have hs8 : seen.length ≤ 8 := by rw [List.length_map] at h3; exact h3
        have hlen : ((seen.map TI.pt).length : Int) = seen.length := by rw [List.length_map]
        have hcr : TI.cornersRes (.lst (seen.map TI.pt)) = if seen.length < 3 then .inl (.corners seen.length) else if TI.notConvex seen then .inl .convex else .inr seen := by unfold TI.cornersRes TI.itemsOf; dsimp only; rw [h2]
        rw [hcr] at q
        refine ⟨_, rfl, ⟨_, rfl, ?_⟩⟩
        refine ite_b (fun e1 => ?_) (fun e1 => ?_)
        · have e1 : ((seen.map TI.pt).length : Int) < 3 := of_decide_eq_true e1
          rw [if_pos (by omega)] at q
          refine ⟨_, rfl, Nat.le_of_ble_eq_true rfl, ?_⟩
          show k (.tup [.str "InvalidCorners", .int ((seen.map TI.pt).length : Int)]) M
          rw [hlen]
          exact q
        · have e1 : ¬ ((seen.map TI.pt).length : Int) < 3 := of_decide_eq_false e1
          rw [if_neg (by omega)] at q
          have ok : TI.CsOk seen := (TI.scan_ok _ 0 [] seen (by omega) List.nodup_nil nofun h2).elim fun new z => ⟨z.2.2.1, by omega, hs8, h5⟩
          refine ⟨Nat.zero_le _, ?_⟩
          refine ⟨_, rfl, Nat.le_of_ble_eq_true rfl, rfl, _, _, _, seen, rfl, rfl, hs8, ?_⟩
          have hb8 : ∀ (l : List (TI.P2 × TI.P2)), (l.flatMap fun e => seen.map fun r => TI.turn e.1 e.2 r).length ≤ l.length * 8 := by
            intro l
            induction l with
            | nil => simp
            | cons a l ih =>
              rw [List.flatMap_cons, List.length_append, List.length_map, List.length_cons, Nat.add_mul, Nat.one_mul]
              omega
          have big : 200 ≤ sizeLine := by decide
          refine ForK.of (fun j ρ M' => M = M' ∧ ∃ (r3 r4 : Option D), ρ = [some (.lst (seen.map TI.pt)), r1, some (.lst ((((TI.pairsOf seen).take j).flatMap fun e => seen.map fun r => TI.turn e.1 e.2 r).map D.int)), r3, r4, none]) ⟨rfl, none, none, rfl⟩ ?_ ?_
          · rintro j d ρ M' hd ⟨rfl, r3, r4, rfl⟩
            obtain ⟨e, he, rfl⟩ := map_get hd
            obtain ⟨b1, b2⟩ := TI.pairsOf_mem (List.mem_of_getElem? he)
            refine ⟨_, rfl, rfl, _, _, rfl, _, _, rfl, rfl, ?_⟩
            refine ⟨_, rfl, _, rfl, ?_⟩
            refine lc_mapS (fun r => D.int (TI.turn e.1 e.2 r)) (by rw [List.length_map]; exact Nat.lt_of_le_of_lt hs8 (by decide)) (fun r hr K hK => ?_) (fun d K K' => gN_mono K K') ?_
            · exact ⟨_, rfl, _, rfl, _, rfl, rfl, e.1, e.2, r, rfl, h5 _ b1, h5 _ b2, h5 _ hr, hK⟩
            · refine ⟨?_, rfl, some (TI.pt e.1), some (TI.pt e.2), ?_⟩
              · rw [List.length_map, List.length_map]
                have := hb8 ((TI.pairsOf seen).take j)
                have l3 : ((TI.pairsOf seen).take j).length ≤ 8 := by
                  rw [List.length_take, TI.pairsOf_length]
                  exact Nat.le_trans (Nat.min_le_right _ _) hs8
                omega
              · have hA : (((TI.pairsOf seen).take (j + 1)).flatMap fun e => seen.map fun r => TI.turn e.1 e.2 r).map D.int = (((TI.pairsOf seen).take j).flatMap fun e => seen.map fun r => TI.turn e.1 e.2 r).map D.int ++ seen.map fun r => D.int (TI.turn e.1 e.2 r) := by
                  rw [take_snoc he, List.flatMap_append, List.map_append]
                  simp [List.map_map, Function.comp_def]
                rw [hA]
                rfl
          · rintro ρ M' ⟨rfl, r3, r4, rfl⟩
            rw [List.length_map, List.take_length]
            have hT : ((TI.pairsOf seen).flatMap fun e => seen.map fun r => TI.turn e.1 e.2 r) = TI.turnsL seen := rfl
            rw [hT]
            have hne : 0 < (TI.turnsL seen).length := List.length_pos_of_mem (TI.turns_zero ok)
            refine ⟨_, rfl, TI.turnsL seen, rfl, hne, fun m m1 m2 => ⟨_, rfl, ?_⟩⟩
            rw [TI.convex_min m1 m2]
            have hnc : TI.notConvex seen = ((TI.turnsL seen).any (fun t => decide (t < 0)) || !(TI.turnsL seen).any (fun t => decide (0 < t))) := rfl
            refine ite_b (fun e2 => ?_) (fun e2 => ?_)
            · rw [hnc, e2, Bool.true_or, if_pos rfl] at q
              exact iteT ⟨Nat.le_of_ble_eq_true rfl, q⟩
            · refine ⟨_, rfl, TI.turnsL seen, rfl, hne, fun m' m3 m4 => ?_⟩
              refine eqI ⟨_, rfl, ?_⟩
              rw [TI.convex_max ok m3 m4]
              rw [hnc, e2, Bool.false_or] at q
              refine ite_b (fun e3 => ?_) (fun e3 => ?_)
              · rw [e3, if_pos rfl] at q
                exact ⟨Nat.le_of_ble_eq_true rfl, q⟩
              · rw [e3, if_neg Bool.false_ne_true] at q
                exact ⟨Nat.zero_le _, q⟩
    · have hres : ∀ i, TI.scan 0 [] ds = .inl i → TI.cornersRes (.tup ds) = .inl (.corners i) := fun i h => by unfold TI.cornersRes TI.itemsOf; dsimp only; rw [h]
      refine ⟨_, rfl, _, rfl, by omega, by omega, ?_⟩
      dsimp only
      rw [Int.toNat_natCast, upto0]
      refine ForK.of (fun j ρ M' => M = M' ∧ ∃ (r1 : Option D) (seen : List TI.P2), ρ = [some (.tup ds), r1, none, none, none, none] ∧ ds.take j = seen.map TI.pt ∧ TI.scan 0 [] ds = TI.scan j seen (ds.drop j) ∧ j ≤ 8 ∧ (∀ p ∈ seen, TI.Bd p)) ⟨rfl, none, [], rfl, rfl, rfl, by omega, nofun⟩ ?_ ?_
      · rintro j d ρ M' hd ⟨rfl, r1, seen, rfl, h1, h2, h3, h5⟩
        obtain ⟨j', hj', rfl⟩ := map_get hd
        obtain ⟨hj0, hj1⟩ := List.getElem?_eq_some_iff.mp hj'
        rw [List.getElem_range] at hj1
        subst hj1
        have hj : j < ds.length := by rw [List.length_range] at hj0; exact hj0
        obtain ⟨c, hc⟩ : ∃ c, ds[j]? = some c := ⟨_, List.getElem?_eq_getElem hj⟩
        have hat : atI ds (j : Int) = some c := atI_nat hc
        have hdrop : ds.drop j = c :: ds.drop (j + 1) := by
          rw [List.drop_eq_getElem_cons hj]
          congr 1
          rw [List.getElem?_eq_getElem hj] at hc
          exact Option.some.inj hc
        rw [hdrop] at h2
        rw [scan_cons] at h2
        refine ⟨_, rfl, eqI ⟨_, rfl, ?_⟩⟩
        refine ite_b (fun e1 => ?_) (fun e1 => ?_)
        · have e1 : (j : Int) = 8 := of_decide_eq_true e1
          have e1 : j = 8 := by omega
          rw [if_pos e1] at h2
          rw [hres _ h2] at q
          exact iteT ⟨_, rfl, Nat.le_of_ble_eq_true rfl, q⟩
        · have e1 : ¬ (j : Int) = 8 := of_decide_eq_false e1
          have e1 : ¬ j = 8 := by omega
          rw [if_neg e1] at h2
          refine ⟨_, rfl, _, rfl, _, hat, rfl, c, rfl, hpv c (List.mem_of_getElem? hc), ?_⟩
          rw [TI.isPt_eq]
          cases hp : TI.ptOf c with
          | none =>
            rw [hp] at h2
            rw [hres _ h2] at q
            exact ⟨_, rfl, iteT (iteT ⟨_, rfl, Nat.le_of_ble_eq_true rfl, q⟩)⟩
          | some p =>
            rw [hp] at h2
            dsimp only at h2
            obtain ⟨rfl, bp⟩ := TI.ptOf_some hp
            refine ⟨_, rfl, iteF ?_⟩
            refine ⟨_, rfl, _, rfl, _, hat, _, rfl, _, rfl, _, rfl, ?_⟩
            refine ⟨TI.ptP p, seen.map TI.ptP, TI.toP_pt p, ?_, rfl, TI.shaped_lst (TI.pts_small seen), ?_⟩
            · show (toPs (DL.cutD ds none (some (j : Int)))).map PyData.list = _
              rw [cut_take ds (Nat.le_of_lt hj), h1, TI.toPs_pt]
              rfl
            rw [if_neg Bool.false_ne_true, TI.any_pt]
            refine ⟨_, rfl, ?_⟩
            by_cases hm : p ∈ seen
            · rw [if_pos hm] at h2
              rw [hres _ h2] at q
              rw [decide_eq_true hm]
              exact iteT ⟨_, rfl, Nat.le_of_ble_eq_true rfl, q⟩
            · rw [if_neg hm] at h2
              rw [decide_eq_false hm]
              refine iteF ⟨rfl, _, seen ++ [p], rfl, ?_, h2, by omega, fun p' hp' => ?_⟩
              · rw [take_snoc hc, h1]
                simp
              · rcases List.mem_append.mp hp' with z | z
                · exact h5 _ z
                · rw [List.mem_singleton.mp z]; exact bp
      · rintro ρ M' ⟨rfl, r1, seen, rfl, h1, h2, h3, h5⟩
        rw [List.length_map, List.length_range] at h1 h2 h3
        have h2 : TI.scan 0 [] ds = .inr seen := by
          rw [h2, List.drop_length]
          rfl
        rw [List.take_length] at h1
        subst h1
        have hs8 : seen.length ≤ 8 := by rw [List.length_map] at h3; exact h3
        have hlen : ((seen.map TI.pt).length : Int) = seen.length := by rw [List.length_map]
        have hcr : TI.cornersRes (.tup (seen.map TI.pt)) = if seen.length < 3 then .inl (.corners seen.length) else if TI.notConvex seen then .inl .convex else .inr seen := by unfold TI.cornersRes TI.itemsOf; dsimp only; rw [h2]
        rw [hcr] at q
        refine ⟨_, rfl, ⟨_, rfl, ?_⟩⟩
        refine ite_b (fun e1 => ?_) (fun e1 => ?_)
        · have e1 : ((seen.map TI.pt).length : Int) < 3 := of_decide_eq_true e1
          rw [if_pos (by omega)] at q
          refine ⟨_, rfl, Nat.le_of_ble_eq_true rfl, ?_⟩
          show k (.tup [.str "InvalidCorners", .int ((seen.map TI.pt).length : Int)]) M
          rw [hlen]
          exact q
        · have e1 : ¬ ((seen.map TI.pt).length : Int) < 3 := of_decide_eq_false e1
          rw [if_neg (by omega)] at q
          have ok : TI.CsOk seen := (TI.scan_ok _ 0 [] seen (by omega) List.nodup_nil nofun h2).elim fun new z => ⟨z.2.2.1, by omega, hs8, h5⟩
          refine ⟨Nat.zero_le _, ?_⟩
          refine ⟨_, rfl, Nat.le_of_ble_eq_true rfl, rfl, _, _, _, seen, rfl, rfl, hs8, ?_⟩
          have hb8 : ∀ (l : List (TI.P2 × TI.P2)), (l.flatMap fun e => seen.map fun r => TI.turn e.1 e.2 r).length ≤ l.length * 8 := by
            intro l
            induction l with
            | nil => simp
            | cons a l ih =>
              rw [List.flatMap_cons, List.length_append, List.length_map, List.length_cons, Nat.add_mul, Nat.one_mul]
              omega
          have big : 200 ≤ sizeLine := by decide
          refine ForK.of (fun j ρ M' => M = M' ∧ ∃ (r3 r4 : Option D), ρ = [some (.tup (seen.map TI.pt)), r1, some (.lst ((((TI.pairsOf seen).take j).flatMap fun e => seen.map fun r => TI.turn e.1 e.2 r).map D.int)), r3, r4, none]) ⟨rfl, none, none, rfl⟩ ?_ ?_
          · rintro j d ρ M' hd ⟨rfl, r3, r4, rfl⟩
            obtain ⟨e, he, rfl⟩ := map_get hd
            obtain ⟨b1, b2⟩ := TI.pairsOf_mem (List.mem_of_getElem? he)
            refine ⟨_, rfl, rfl, _, _, rfl, _, _, rfl, rfl, ?_⟩
            refine ⟨_, rfl, _, rfl, ?_⟩
            refine lc_mapS (fun r => D.int (TI.turn e.1 e.2 r)) (by rw [List.length_map]; exact Nat.lt_of_le_of_lt hs8 (by decide)) (fun r hr K hK => ?_) (fun d K K' => gN_mono K K') ?_
            · exact ⟨_, rfl, _, rfl, _, rfl, rfl, e.1, e.2, r, rfl, h5 _ b1, h5 _ b2, h5 _ hr, hK⟩
            · refine ⟨?_, rfl, some (TI.pt e.1), some (TI.pt e.2), ?_⟩
              · rw [List.length_map, List.length_map]
                have := hb8 ((TI.pairsOf seen).take j)
                have l3 : ((TI.pairsOf seen).take j).length ≤ 8 := by
                  rw [List.length_take, TI.pairsOf_length]
                  exact Nat.le_trans (Nat.min_le_right _ _) hs8
                omega
              · have hA : (((TI.pairsOf seen).take (j + 1)).flatMap fun e => seen.map fun r => TI.turn e.1 e.2 r).map D.int = (((TI.pairsOf seen).take j).flatMap fun e => seen.map fun r => TI.turn e.1 e.2 r).map D.int ++ seen.map fun r => D.int (TI.turn e.1 e.2 r) := by
                  rw [take_snoc he, List.flatMap_append, List.map_append]
                  simp [List.map_map, Function.comp_def]
                rw [hA]
                rfl
          · rintro ρ M' ⟨rfl, r3, r4, rfl⟩
            rw [List.length_map, List.take_length]
            have hT : ((TI.pairsOf seen).flatMap fun e => seen.map fun r => TI.turn e.1 e.2 r) = TI.turnsL seen := rfl
            rw [hT]
            have hne : 0 < (TI.turnsL seen).length := List.length_pos_of_mem (TI.turns_zero ok)
            refine ⟨_, rfl, TI.turnsL seen, rfl, hne, fun m m1 m2 => ⟨_, rfl, ?_⟩⟩
            rw [TI.convex_min m1 m2]
            have hnc : TI.notConvex seen = ((TI.turnsL seen).any (fun t => decide (t < 0)) || !(TI.turnsL seen).any (fun t => decide (0 < t))) := rfl
            refine ite_b (fun e2 => ?_) (fun e2 => ?_)
            · rw [hnc, e2, Bool.true_or, if_pos rfl] at q
              exact iteT ⟨Nat.le_of_ble_eq_true rfl, q⟩
            · refine ⟨_, rfl, TI.turnsL seen, rfl, hne, fun m' m3 m4 => ?_⟩
              refine eqI ⟨_, rfl, ?_⟩
              rw [TI.convex_max ok m3 m4]
              rw [hnc, e2, Bool.false_or] at q
              refine ite_b (fun e3 => ?_) (fun e3 => ?_)
              · rw [e3, if_pos rfl] at q
                exact ⟨Nat.le_of_ble_eq_true rfl, q⟩
              · rw [e3, if_neg Bool.false_ne_true] at q
                exact ⟨Nat.zero_le _, q⟩
def ph__law_is_wind : Ct := fun ds M k _ => ∃ u, ds = [u] ∧ PtV u ∧ k (.bl (TI.wdOf u).isSome) M
theorem ok__law_is_wind {K : PySem.W.Frag} {mg : Str → Option Value} {ad : Nat → Addr} {fd : Nat → FuncData} {cl : Nat → Addr} {P : Program} {w : World} {base : Heap} (T : Txt K mg ad fd cl) : FnOk P w K mg base (L2.CX P w) 3 (ad 29) (fd 29) ["_law_wind"] (spD K 1 ph__law_is_wind) := by
  have G__law_is_dot := ok__law_is_dot (P := P) (w := w) (base := base) T
  refine fn_D T.F__law_is_wind sc__law_is_wind rfl fun cdv A outer s H E hr hp ho => ⟨_, (b_one (s_ret (d_and (d_call G__law_is_dot (hr.mono (by decide)) rfl T.m__law_is_dot T.k__law_is_dot T.kb__law_is_dot_1 (by intro _ _ h _; exact h) hp (a_cons (dv 0) a_nil)) (d_one (d_cmp (o_ne hr.units) (dv 0) (d_tup (a_cons d_int (a_cons d_int a_nil))) (nomark _)))))), ?_⟩
  clear hp ho hr G__law_is_dot
  rintro ds M k x hl ⟨u, rfl, hu, q⟩
  refine ⟨_, rfl, rfl, u, rfl, hu, ⟨_, rfl, ?_⟩⟩
  refine ite_b (fun e1 => ?_) (fun e1 => ?_)
  · obtain ⟨p, rfl, bp⟩ := pt_of e1
    refine ⟨_, rfl, Nat.le_of_ble_eq_true rfl, neP rfl rfl rfl rfl ?_⟩
    rw [wd_pt bp] at q
    exact q
  · rw [wd_no e1] at q
    exact q
def ph__law_key : Ct := fun ds M k _ => ∃ p q : TI.P2, ds = [TI.pt p, TI.pt q] ∧ k (TI.sd (TI.sideOf p q)) M
theorem ok__law_key {K : PySem.W.Frag} {mg : Str → Option Value} {ad : Nat → Addr} {fd : Nat → FuncData} {cl : Nat → Addr} {P : Program} {w : World} {base : Heap} (T : Txt K mg ad fd cl) : FnOk P w K mg base (L2.CX P w) 1 (ad 30) (fd 30) ["_law_p", "_law_q"] (spD K 2 ph__law_key) := by
  refine fn_D T.F__law_key sc__law_key rfl fun cdv A outer s H E hr hp ho => ⟨_, (b_one (s_ret (d_if (t_cmp (o_ltD hr.units) (dv 0) (dv 1) (nomark _)) (d_tup (a_cons (dv 0) (a_cons (dv 1) a_nil))) (d_tup (a_cons (dv 1) (a_cons (dv 0) a_nil)))))), ?_⟩
  clear hp ho hr
  rintro ds M k x hl ⟨p, p', rfl, q⟩
  unfold TI.sideOf at q
  refine ⟨_, rfl, _, rfl, TX.prP p, TX.prP p', ⟨rfl, rfl, rfl, rfl, rfl, fun w => by cases w⟩, _, rfl, ?_⟩
  rw [TX.lt_pr]
  by_cases h : TX.PLt p p'
  · rw [if_pos h] at q
    rw [decide_eq_true h]
    exact iteT ⟨_, rfl, _, rfl, Nat.le_of_ble_eq_true rfl, q⟩
  · rw [if_neg h] at q
    rw [decide_eq_false h]
    exact iteF ⟨_, rfl, _, rfl, Nat.le_of_ble_eq_true rfl, q⟩
def ph__law_winds_due : Ct := fun ds M k _ => ∃ (u ws : D) (cs : List TI.P2), ds = [u, ws] ∧ LsV ws ∧ TI.itemsOf u = some (cs.map TI.pt) ∧ TI.CsOk cs ∧ k (TI.dueS (TI.windsSum cs ws)) M
theorem ok__law_winds_due {K : PySem.W.Frag} {mg : Str → Option Value} {ad : Nat → Addr} {fd : Nat → FuncData} {cl : Nat → Addr} {P : Program} {w : World} {base : Heap} (T : Txt K mg ad fd cl) : FnOk P w K mg base (L2.CX P w) 5 (ad 31) (fd 31) ["_law_dots", "_law_gusts"] (spD K 2 ph__law_winds_due) := by
  have G__law_is_wind := ok__law_is_wind (P := P) (w := w) (base := base) T
  have G__law_cross := ok__law_cross (P := P) (w := w) (base := base) T
  have G__law_border := ok__law_border (P := P) (w := w) (base := base) T
  have G__law_lead := ok__law_lead (P := P) (w := w) (base := base) T
  have G__law_key := ok__law_key (P := P) (w := w) (base := base) T
  refine fn_D T.F__law_winds_due sc__law_winds_due rfl fun cdv A outer s H E hr hp ho => ⟨_, (b_cons (s_if (DPW.t (w_or (t_not (t_val (d_isiLT (CS cl) T.isi_list T.isi_tuple rfl T.b_isinstance rfl T.b_list rfl T.b_tuple (dv 1)))) (w_or1 (t_cmp (o_ne hr.units) (d_callB c_len rfl T.b_len boot_len' (a_cons (dv 1) a_nil)) d_int (nomark _))))) (b_one (s_ret (d_tup (a_cons d_str a_nil)))) b_nil)
  (b_cons (s_if (DPW.t (w_or (t_not (t_val (d_call G__law_is_wind (hr.mono (by decide)) rfl T.m__law_is_wind T.k__law_is_wind T.kb__law_is_wind_1 (by intro _ _ h _; exact h) hp (a_cons (d_ix x_ix (dv 1) d_int (fun _ _ => rfl)) a_nil)))) (w_or (t_not (t_val (d_call G__law_is_wind (hr.mono (by decide)) rfl T.m__law_is_wind T.k__law_is_wind T.kb__law_is_wind_1 (by intro _ _ h _; exact h) hp (a_cons (d_ix x_ix (dv 1) d_int (fun _ _ => rfl)) a_nil)))) (w_or1 (t_cmp o_le (d_call G__law_cross (hr.mono (by decide)) rfl T.m__law_cross T.k__law_cross T.kb__law_cross_2 (by intro _ _ h _; exact h) hp (a_cons (d_ix x_ix (dv 1) d_int (fun _ _ => rfl)) (a_cons (d_ix x_ix (dv 1) d_int (fun _ _ => rfl)) a_nil))) d_int (nomark _)))))) (b_one (s_ret (d_tup (a_cons d_str a_nil)))) b_nil)
  (b_cons (s_for ho rfl (i_seq (d_call G__law_border (hr.mono (by decide)) rfl T.m__law_border T.k__law_border T.kb__law_border_1 (by intro _ _ h _; exact h) hp (a_cons (d_tup (a_cons d_str (a_cons (dv 0) a_nil))) a_nil))) (g_tup (n := 2) rfl (gs_cons (g_name (i := 2) sc__law_winds_due.nd rfl (Or.inr rfl)) (gs_cons (g_name (i := 3) sc__law_winds_due.nd rfl (Or.inr rfl)) gs_nil)))
  (b_cons (s_asg (d_lc (own := [("_law_wind", 6)]) rfl sc__law_winds_due.nd (i_seq (dv 1)) (blkOk_by (own := [("_law_wind", 6)]) (N := ["_law_dots", "_law_gusts", "_law_p", "_law_q", "_law_a", "_law_b", "_law_wind"]) (sc := (defScope st__law_winds_due)) (by decide +kernel)) (gp_name (by decide)) (fun _ _ _ _ _ => (pg_name (i := 6) sc__law_winds_due.nd rfl (Or.inl rfl))) (fun _ _ _ _ _ => ts_nil) (fun _ _ _ _ _ => (d_call G__law_cross (hr.mono (by decide)) rfl T.m__law_cross T.k__law_cross T.kb__law_cross_2 (by intro _ _ h _; exact h) passL (a_cons (d_call G__law_lead (hr.mono (by decide)) rfl T.m__law_lead T.k__law_lead T.kb__law_lead_2 (by intro _ _ h _; exact h) passL (a_cons (dv 2) (a_cons (dv 3) a_nil))) (a_cons (dv 6) a_nil))))) (g_lst (n := 2) rfl (gs_cons (g_name (i := 4) sc__law_winds_due.nd rfl (Or.inl rfl)) (gs_cons (g_name (i := 5) sc__law_winds_due.nd rfl (Or.inl rfl)) gs_nil))))
  (b_one (s_if (DPW.t (w_or (t_cmp (o_eq hr.units) (dv 4) d_int (nomark _)) (w_or (t_cmp (o_eq hr.units) (dv 5) d_int (nomark _)) (w_or1 (t_cmp (o_ne hr.units) (d_cmp o_gt (dv 4) d_int (nomark _)) (d_cmp o_gt (dv 5) d_int (nomark _)) (nomark _)))))) (b_one (s_ret (d_tup (a_cons d_str (a_cons (d_call G__law_key (hr.mono (by decide)) rfl T.m__law_key T.k__law_key T.kb__law_key_2 (by intro _ _ h _; exact h) hp (a_cons (dv 2) (a_cons (dv 3) a_nil))) a_nil))))) b_nil))))
  (b_one (s_ret (d_tup a_nil)))))), ?_⟩
  clear hp ho hr G__law_is_wind G__law_cross G__law_border G__law_lead G__law_key
  rintro ds M k x hl ⟨u, ws, cs, rfl, ⟨hk, hz⟩, hi, ok, q⟩
  obtain ⟨v, hv⟩ := Option.isSome_iff_exists.mp hk
  refine ⟨_, rfl, isiLTk hv ⟨_, rfl, ?_⟩⟩
  rw [TI.kd_items hv]
  unfold TI.windsSum at q
  cases hiw : TI.itemsOf ws with
  | none =>
    have e : TI.windsRes ws = none := by unfold TI.windsRes; rw [hiw]
    rw [e] at q
    exact iteT (iteT ⟨Nat.le_of_ble_eq_true rfl, q⟩)
  | some es =>
    obtain ⟨hl2, hpv⟩ := hz es hiw
    refine iteF ?_
    rcases items_of hiw with rfl | rfl
    · refine ⟨_, rfl, neI ⟨_, rfl, ?_⟩⟩
      refine ite_b (fun e1 => ?_) (fun e1 => ?_)
      · have e1 : ¬ es.length = 2 := by
          have e1 : ¬ (es.length : Int) = 2 := by simpa using e1
          omega
        rw [winds_len hiw e1] at q
        exact ⟨Nat.le_of_ble_eq_true rfl, q⟩
      · have e1 : es.length = 2 := by
          have e1 : (es.length : Int) = 2 := by simpa using e1
          omega
        match es, e1, hpv with
        | [a, b], _, hpv =>
          rw [winds_two hiw] at q
          refine ⟨_, rfl, _, rfl, rfl, a, rfl, hpv a (by simp), ?_⟩
          cases ha : TI.wdOf a with
          | none =>
            rw [ha] at q
            exact ⟨_, rfl, iteT (iteT ⟨Nat.le_of_ble_eq_true rfl, q⟩)⟩
          | some p1 =>
          refine ⟨_, rfl, iteF ⟨_, rfl, _, rfl, rfl, b, rfl, hpv b (by simp), ?_⟩⟩
          cases hb : TI.wdOf b with
          | none =>
            rw [ha, hb] at q
            exact ⟨_, rfl, iteT (iteT ⟨Nat.le_of_ble_eq_true rfl, q⟩)⟩
          | some p2 =>
          rw [ha, hb] at q
          dsimp only at q
          obtain ⟨rfl, bp1, _⟩ := TI.wdOf_some ha
          obtain ⟨rfl, bp2, _⟩ := TI.wdOf_some hb
          obtain ⟨⟨c1, c2⟩, c3, c4⟩ := id bp1
          refine ⟨_, rfl, iteF ⟨_, rfl, _, rfl, _, rfl, _, rfl, rfl, p1, p2, rfl, TI.mul2 (by omega) (by omega), TI.mul2 (by omega) (by omega), ⟨_, rfl, ?_⟩⟩⟩
          by_cases hc : 0 < TI.cross p1 p2
          · rw [decide_eq_false (by omega)]
            rw [if_pos hc] at q
            dsimp only at q
            refine iteF ⟨_, rfl, Nat.le_of_ble_eq_true rfl, rfl, _, _, _, cs, rfl, hi, ok.hi, ?_⟩
            refine ForK.of (fun j ρ M' => M = M' ∧ (∃ r2 r3 r4 r5 : Option D, ρ = [some u, some (.lst [TI.pt p1, TI.pt p2]), r2, r3, r4, r5, none]) ∧ ∀ e ∈ (TI.pairsOf cs).take j, TI.goodSide p1 p2 e = true) ⟨rfl, ⟨_, _, _, _, rfl⟩, nofun⟩ ?_ ?_
            · rintro j d ρ M' hd ⟨rfl, ⟨r2, r3, r4, r5, rfl⟩, g4⟩
              obtain ⟨e, he, rfl⟩ := map_get hd
              obtain ⟨m1, m2⟩ := TI.pairsOf_mem (List.mem_of_getElem? he)
              have hld := TI.bd_lead (ok.bd _ m1) (ok.bd _ m2)
              have bad : TI.goodSide p1 p2 e = false → k (.tup [.str "SplitSide", TI.sd (TI.sideOf e.1 e.2)]) M := fun hg => by
                have hb : TI.badSide cs p1 p2 = some e := find_first (fun x hx => by rw [g4 x hx]; rfl) he (by rw [hg]; rfl)
                rw [hb] at q
                exact q
              refine ⟨_, rfl, rfl, _, _, rfl, _, _, rfl, rfl, ?_⟩
              refine ⟨_, rfl, ?_⟩
              refine lc_mapS (S := [p1, p2]) (g := TI.pt) (fun r => D.int (TI.cross (TI.lead e.1 e.2) r)) (Nat.lt_of_le_of_lt (Nat.le_of_ble_eq_true rfl : 2 ≤ 8) (by decide)) (fun r hr K hK => ?_) (fun d K K' => gN_mono K K') ?_
              · exact ⟨_, rfl, _, rfl, rfl, e.1, e.2, rfl, _, rfl, rfl, TI.lead e.1 e.2, r, rfl, TI.mul2 (by omega) (by omega), TI.mul2 (by omega) (by omega), hK⟩
              · refine ⟨_, rfl, rfl, _, _, rfl, _, _, rfl, rfl, ?_⟩
                refine ⟨_, rfl, eqI ⟨_, rfl, ?_⟩⟩
                refine ite_b (fun z1 => ?_) (fun z1 => ?_)
                · have z1 := of_decide_eq_true z1
                  exact iteT ⟨_, rfl, _, rfl, rfl, e.1, e.2, rfl, Nat.le_of_ble_eq_true rfl, bad (by simp [TI.goodSide, z1])⟩
                · have z1 := of_decide_eq_false z1
                  refine ⟨_, rfl, eqI ⟨_, rfl, ?_⟩⟩
                  refine ite_b (fun z2 => ?_) (fun z2 => ?_)
                  · have z2 := of_decide_eq_true z2
                    exact iteT ⟨_, rfl, _, rfl, rfl, e.1, e.2, rfl, Nat.le_of_ble_eq_true rfl, bad (by simp [TI.goodSide, z2])⟩
                  · have z2 := of_decide_eq_false z2
                    refine ⟨_, rfl, _, rfl, neP rfl rfl rfl rfl ⟨_, rfl, ?_⟩⟩
                    have ev : PyData.eqv (.bool (decide (0 < TI.cross (TI.lead e.1 e.2) p1))) (.bool (decide (0 < TI.cross (TI.lead e.1 e.2) p2))) = (decide (0 < TI.cross (TI.lead e.1 e.2) p1) == decide (0 < TI.cross (TI.lead e.1 e.2) p2)) := rfl
                    rw [ev]
                    refine ite_b (fun z3 => ?_) (fun z3 => ?_)
                    · refine ⟨_, rfl, _, rfl, rfl, e.1, e.2, rfl, Nat.le_of_ble_eq_true rfl, bad ?_⟩
                      refine Bool.eq_false_iff.mpr fun hg => ?_
                      unfold TI.goodSide at hg
                      simp only [Bool.or_eq_true, Bool.and_eq_true, decide_eq_true_eq] at hg
                      rcases hg with ⟨y1, y2⟩ | ⟨y1, y2⟩
                      · rw [decide_eq_true y1, decide_eq_true y2] at z3
                        exact Bool.noConfusion z3
                      · rw [decide_eq_false (by omega), decide_eq_false (by omega)] at z3
                        exact Bool.noConfusion z3
                    · refine ⟨rfl, ⟨_, _, _, _, rfl⟩, fun e' he' => ?_⟩
                      rw [take_snoc he] at he'
                      rcases List.mem_append.mp he' with y | y
                      · exact g4 e' y
                      · rw [List.mem_singleton.mp y]
                        unfold TI.goodSide
                        by_cases y1 : 0 < TI.cross (TI.lead e.1 e.2) p1
                        · rw [decide_eq_true y1] at z3
                          by_cases y2 : 0 < TI.cross (TI.lead e.1 e.2) p2
                          · simp [y1, y2]
                          · rw [decide_eq_false y2] at z3
                            exact Bool.noConfusion z3
                        · rw [decide_eq_false y1] at z3
                          by_cases y2 : 0 < TI.cross (TI.lead e.1 e.2) p2
                          · rw [decide_eq_true y2] at z3
                            exact Bool.noConfusion z3
                          · have w1 : TI.cross (TI.lead e.1 e.2) p1 < 0 := by omega
                            have w2 : TI.cross (TI.lead e.1 e.2) p2 < 0 := by omega
                            simp [w1, w2]
            · rintro ρ M' ⟨rfl, ⟨r2, r3, r4, r5, rfl⟩, g4⟩
              rw [List.length_map, List.take_length] at g4
              have hb : TI.badSide cs p1 p2 = none := by
                unfold TI.badSide
                rw [List.find?_eq_none]
                intro e he
                rw [g4 e he]
                exact Bool.false_ne_true
              rw [hb] at q
              exact ⟨Nat.zero_le _, q⟩
          · rw [decide_eq_true (by omega)]
            rw [if_neg hc] at q
            exact iteT ⟨Nat.le_of_ble_eq_true rfl, q⟩
    · refine ⟨_, rfl, neI ⟨_, rfl, ?_⟩⟩
      refine ite_b (fun e1 => ?_) (fun e1 => ?_)
      · have e1 : ¬ es.length = 2 := by
          have e1 : ¬ (es.length : Int) = 2 := by simpa using e1
          omega
        rw [winds_len hiw e1] at q
        exact ⟨Nat.le_of_ble_eq_true rfl, q⟩
      · have e1 : es.length = 2 := by
          have e1 : (es.length : Int) = 2 := by simpa using e1
          omega
        match es, e1, hpv with
        | [a, b], _, hpv =>
          rw [winds_two hiw] at q
          refine ⟨_, rfl, _, rfl, rfl, a, rfl, hpv a (by simp), ?_⟩
          cases ha : TI.wdOf a with
          | none =>
            rw [ha] at q
            exact ⟨_, rfl, iteT (iteT ⟨Nat.le_of_ble_eq_true rfl, q⟩)⟩
          | some p1 =>
          refine ⟨_, rfl, iteF ⟨_, rfl, _, rfl, rfl, b, rfl, hpv b (by simp), ?_⟩⟩
          cases hb : TI.wdOf b with
          | none =>
            rw [ha, hb] at q
            exact ⟨_, rfl, iteT (iteT ⟨Nat.le_of_ble_eq_true rfl, q⟩)⟩
          | some p2 =>
          rw [ha, hb] at q
          dsimp only at q
          obtain ⟨rfl, bp1, _⟩ := TI.wdOf_some ha
          obtain ⟨rfl, bp2, _⟩ := TI.wdOf_some hb
          obtain ⟨⟨c1, c2⟩, c3, c4⟩ := id bp1
          refine ⟨_, rfl, iteF ⟨_, rfl, _, rfl, _, rfl, _, rfl, rfl, p1, p2, rfl, TI.mul2 (by omega) (by omega), TI.mul2 (by omega) (by omega), ⟨_, rfl, ?_⟩⟩⟩
          by_cases hc : 0 < TI.cross p1 p2
          · rw [decide_eq_false (by omega)]
            rw [if_pos hc] at q
            dsimp only at q
            refine iteF ⟨_, rfl, Nat.le_of_ble_eq_true rfl, rfl, _, _, _, cs, rfl, hi, ok.hi, ?_⟩
            refine ForK.of (fun j ρ M' => M = M' ∧ (∃ r2 r3 r4 r5 : Option D, ρ = [some u, some (.tup [TI.pt p1, TI.pt p2]), r2, r3, r4, r5, none]) ∧ ∀ e ∈ (TI.pairsOf cs).take j, TI.goodSide p1 p2 e = true) ⟨rfl, ⟨_, _, _, _, rfl⟩, nofun⟩ ?_ ?_
            · rintro j d ρ M' hd ⟨rfl, ⟨r2, r3, r4, r5, rfl⟩, g4⟩
              obtain ⟨e, he, rfl⟩ := map_get hd
              obtain ⟨m1, m2⟩ := TI.pairsOf_mem (List.mem_of_getElem? he)
              have hld := TI.bd_lead (ok.bd _ m1) (ok.bd _ m2)
              have bad : TI.goodSide p1 p2 e = false → k (.tup [.str "SplitSide", TI.sd (TI.sideOf e.1 e.2)]) M := fun hg => by
                have hb : TI.badSide cs p1 p2 = some e := find_first (fun x hx => by rw [g4 x hx]; rfl) he (by rw [hg]; rfl)
                rw [hb] at q
                exact q
              refine ⟨_, rfl, rfl, _, _, rfl, _, _, rfl, rfl, ?_⟩
              refine ⟨_, rfl, ?_⟩
              refine lc_mapS (S := [p1, p2]) (g := TI.pt) (fun r => D.int (TI.cross (TI.lead e.1 e.2) r)) (Nat.lt_of_le_of_lt (Nat.le_of_ble_eq_true rfl : 2 ≤ 8) (by decide)) (fun r hr K hK => ?_) (fun d K K' => gN_mono K K') ?_
              · exact ⟨_, rfl, _, rfl, rfl, e.1, e.2, rfl, _, rfl, rfl, TI.lead e.1 e.2, r, rfl, TI.mul2 (by omega) (by omega), TI.mul2 (by omega) (by omega), hK⟩
              · refine ⟨_, rfl, rfl, _, _, rfl, _, _, rfl, rfl, ?_⟩
                refine ⟨_, rfl, eqI ⟨_, rfl, ?_⟩⟩
                refine ite_b (fun z1 => ?_) (fun z1 => ?_)
                · have z1 := of_decide_eq_true z1
                  exact iteT ⟨_, rfl, _, rfl, rfl, e.1, e.2, rfl, Nat.le_of_ble_eq_true rfl, bad (by simp [TI.goodSide, z1])⟩
                · have z1 := of_decide_eq_false z1
                  refine ⟨_, rfl, eqI ⟨_, rfl, ?_⟩⟩
                  refine ite_b (fun z2 => ?_) (fun z2 => ?_)
                  · have z2 := of_decide_eq_true z2
                    exact iteT ⟨_, rfl, _, rfl, rfl, e.1, e.2, rfl, Nat.le_of_ble_eq_true rfl, bad (by simp [TI.goodSide, z2])⟩
                  · have z2 := of_decide_eq_false z2
                    refine ⟨_, rfl, _, rfl, neP rfl rfl rfl rfl ⟨_, rfl, ?_⟩⟩
                    have ev : PyData.eqv (.bool (decide (0 < TI.cross (TI.lead e.1 e.2) p1))) (.bool (decide (0 < TI.cross (TI.lead e.1 e.2) p2))) = (decide (0 < TI.cross (TI.lead e.1 e.2) p1) == decide (0 < TI.cross (TI.lead e.1 e.2) p2)) := rfl
                    rw [ev]
                    refine ite_b (fun z3 => ?_) (fun z3 => ?_)
                    · refine ⟨_, rfl, _, rfl, rfl, e.1, e.2, rfl, Nat.le_of_ble_eq_true rfl, bad ?_⟩
                      refine Bool.eq_false_iff.mpr fun hg => ?_
                      unfold TI.goodSide at hg
                      simp only [Bool.or_eq_true, Bool.and_eq_true, decide_eq_true_eq] at hg
                      rcases hg with ⟨y1, y2⟩ | ⟨y1, y2⟩
                      · rw [decide_eq_true y1, decide_eq_true y2] at z3
                        exact Bool.noConfusion z3
                      · rw [decide_eq_false (by omega), decide_eq_false (by omega)] at z3
                        exact Bool.noConfusion z3
                    · refine ⟨rfl, ⟨_, _, _, _, rfl⟩, fun e' he' => ?_⟩
                      rw [take_snoc he] at he'
                      rcases List.mem_append.mp he' with y | y
                      · exact g4 e' y
                      · rw [List.mem_singleton.mp y]
                        unfold TI.goodSide
                        by_cases y1 : 0 < TI.cross (TI.lead e.1 e.2) p1
                        · rw [decide_eq_true y1] at z3
                          by_cases y2 : 0 < TI.cross (TI.lead e.1 e.2) p2
                          · simp [y1, y2]
                          · rw [decide_eq_false y2] at z3
                            exact Bool.noConfusion z3
                        · rw [decide_eq_false y1] at z3
                          by_cases y2 : 0 < TI.cross (TI.lead e.1 e.2) p2
                          · rw [decide_eq_true y2] at z3
                            exact Bool.noConfusion z3
                          · have w1 : TI.cross (TI.lead e.1 e.2) p1 < 0 := by omega
                            have w2 : TI.cross (TI.lead e.1 e.2) p2 < 0 := by omega
                            simp [w1, w2]
            · rintro ρ M' ⟨rfl, ⟨r2, r3, r4, r5, rfl⟩, g4⟩
              rw [List.length_map, List.take_length] at g4
              have hb : TI.badSide cs p1 p2 = none := by
                unfold TI.badSide
                rw [List.find?_eq_none]
                intro e he
                rw [g4 e he]
                exact Bool.false_ne_true
              rw [hb] at q
              exact ⟨Nat.zero_le _, q⟩
          · rw [decide_eq_true (by omega)]
            rw [if_neg hc] at q
            exact iteT ⟨Nat.le_of_ble_eq_true rfl, q⟩
theorem tileRes_str {z : Str} {cs ws : D} (hnm : TI.isName (.str z) = true) : TI.tileRes (.str z) cs ws = match TI.cornersRes cs with
      | .inl e => .inl e
      | .inr ps => match TI.windsSum ps ws with
        | .inl e => .inl e
        | .inr (u, v) => .inr ⟨z, ps, u, v⟩ := by
  unfold TI.tileRes
  dsimp only
  rw [if_pos hnm]
  cases TI.cornersRes cs with
  | inl e => rfl
  | inr ps =>
    dsimp only
    unfold TI.windsSum
    cases TI.windsRes ws with
    | none => rfl
    | some uv =>
      obtain ⟨u, v⟩ := uv
      dsimp only
      cases TI.badSide ps u v <;> rfl
theorem cr_err {u : D} {e : TI.Err} (h : TI.cornersRes u = .inl e) : (∃ a, e = .corners a) ∨ e = .convex := by
  unfold TI.cornersRes at h
  split at h
  · cases h; exact .inl ⟨_, rfl⟩
  · split at h
    · cases h; exact .inl ⟨_, rfl⟩
    · split at h
      · cases h; exact .inl ⟨_, rfl⟩
      · split at h
        · cases h; exact .inr rfl
        · cases h
theorem name_no {nm cs ws : D} (h : TI.isName nm = false) : TI.tileRes nm cs ws = .inl (.name nm) := by
  unfold TI.tileRes
  split
  · rw [h]; rfl
  · rfl
def ph__law_tile_due : Ct := fun ds M k _ => ∃ nm cs ws : D, ds = [nm, cs, ws] ∧ NmV nm ∧ LsV cs ∧ LsV ws ∧ k (TI.dueS (TI.tileRes nm cs ws)) M
theorem ok__law_tile_due {K : PySem.W.Frag} {mg : Str → Option Value} {ad : Nat → Addr} {fd : Nat → FuncData} {cl : Nat → Addr} {P : Program} {w : World} {base : Heap} (T : Txt K mg ad fd cl) : FnOk P w K mg base (L2.CX P w) 7 (ad 32) (fd 32) ["_law_name_z", "_law_dots", "_law_gusts"] (spD K 3 ph__law_tile_due) := by
  have G__law_is_name := ok__law_is_name (P := P) (w := w) (base := base) T
  have G__law_dots_due := ok__law_dots_due (P := P) (w := w) (base := base) T
  have G__law_winds_due := ok__law_winds_due (P := P) (w := w) (base := base) T
  refine fn_D T.F__law_tile_due sc__law_tile_due rfl fun cdv A outer s H E hr hp ho => ⟨_, (b_cons (s_if (t_not (t_val (d_call G__law_is_name (hr.mono (by decide)) rfl T.m__law_is_name T.k__law_is_name T.kb__law_is_name_1 (by intro _ _ h _; exact h) hp (a_cons (dv 0) a_nil)))) (b_one (s_ret (d_tup (a_cons d_str (a_cons (dv 0) a_nil))))) b_nil)
  (b_cons (s_set (i := 3) sc__law_tile_due.nd rfl (Or.inl rfl) (d_call G__law_dots_due (hr.mono (by decide)) rfl T.m__law_dots_due T.k__law_dots_due T.kb__law_dots_due_1 (by intro _ _ h _; exact h) hp (a_cons (dv 1) a_nil)))
  (b_one (s_ret (d_if (t_cmp (o_ne hr.units) (dv 3) (d_tup a_nil) (nomark _)) (dv 3) (d_call G__law_winds_due (hr.mono (by decide)) rfl T.m__law_winds_due T.k__law_winds_due T.kb__law_winds_due_2 (by intro _ _ h _; exact h) hp (a_cons (dv 1) (a_cons (dv 2) a_nil)))))))), ?_⟩
  clear hp ho hr G__law_is_name G__law_dots_due G__law_winds_due
  rintro ds M k x hl ⟨nm, cs, ws, rfl, hn, hc, hw, q⟩
  refine ⟨_, rfl, rfl, nm, rfl, hn, ?_⟩
  cases hnm : TI.isName nm with
  | false =>
    rw [name_no hnm] at q
    exact ⟨_, rfl, iteT ⟨_, rfl, Nat.le_of_ble_eq_true rfl, q⟩⟩
  | true =>
    obtain ⟨z, rfl⟩ : ∃ z, nm = .str z := by cases nm <;> first | exact ⟨_, rfl⟩ | cases hnm
    rw [tileRes_str hnm] at q
    refine ⟨_, rfl, iteF ⟨_, rfl, rfl, cs, rfl, hc, ?_⟩⟩
    cases hcr : TI.cornersRes cs with
    | inl e =>
      rw [hcr] at q
      rcases cr_err hcr with ⟨a, rfl⟩ | rfl
      · exact ⟨_, rfl, Nat.zero_le _, neP rfl rfl (by first | rfl | kernel_rfl) rfl ⟨_, rfl, iteT ⟨_, rfl, q⟩⟩⟩
      · exact ⟨_, rfl, Nat.zero_le _, neP rfl rfl (by first | rfl | kernel_rfl) rfl ⟨_, rfl, iteT ⟨_, rfl, q⟩⟩⟩
    | inr ps =>
      rw [hcr] at q
      obtain ⟨ok, hits, _⟩ := TI.cornersRes_ok hcr
      refine ⟨_, rfl, Nat.zero_le _, neP rfl rfl rfl rfl ⟨_, rfl, iteF ⟨_, rfl, _, rfl, rfl, cs, ws, ps, rfl, hw, hits, ok, ?_⟩⟩⟩
      dsimp only at q
      cases e : TI.windsSum ps ws with
      | inl e' => rw [e] at q; exact q
      | inr uv =>
        rw [e] at q
        exact q
end W12
set_option Elab.async false
set_option linter.all false
set_option maxRecDepth 100000
set_option maxHeartbeats 4000000
set_option pp.deepTerms false
set_option pp.deepTerms.threshold 12
set_option pp.maxSteps 4000
namespace W12
open PySem PySem.Spec PyProof.Rows L2 DL
local macro_rules | `(tactic| walk_at "sc") => `(tactic| first | assumption | rfl | exact Nat.le_of_ble_eq_true rfl | decide | omega | exact mul_small (by omega) (by omega) | exact mul_smallR (by omega) (by omega) | exact ⟨by decide, by decide, by decide⟩ | exact ⟨by omega, by assumption⟩ | exact ⟨by decide, log2_small (by decide) (by decide)⟩)
local macro_rules | `(tactic| walk_at "go1") => `(tactic| first | refine ⟨_, rfl, ?_⟩ | refine ⟨rfl, ?_⟩ | refine ⟨_, by assumption, ?_⟩ | refine ⟨_, mup_same, ?_⟩ | refine eqI ?_ | refine neI ?_ | refine iteT ?_ | refine iteF ?_ | refine ⟨(by walk_at "sc"), ?_⟩)
local macro_rules | `(tactic| walk_at "go") => `(tactic| repeat walk_at "go1")
/-- the law's bag: cells, place, rest of a great cell, seed, count -/
structure Bag where
  cells : List Int
  pos : Nat
  great : Int
  seed : Int
  cnt : Int
def Bag.mo (b : Bag) : MO := .lst [.lst (b.cells.map .int), .int b.pos, .int b.great, .int b.seed, .int b.cnt]
structure Bag.Ok (b : Bag) : Prop where
  s0 : 0 ≤ b.seed
  s1 : b.seed < 4294967296
theorem mul_small {i j : Int} (h0 : 0 ≤ i) (h1 : i < 18446744073709551616) : MulOk i j := .inl (.inl ⟨by omega, by omega⟩)
theorem mul_smallR {i j : Int} (h0 : -18446744073709551616 < j) (h1 : j < 18446744073709551616) : MulOk i j := .inl (.inr ⟨by omega, by omega⟩)
theorem fmod_lt' {i j : Int} (h : 0 < j) : 0 ≤ i.fmod j ∧ i.fmod j < j := by
  rw [Int.fmod_eq_emod_of_nonneg _ (Int.le_of_lt h)]
  exact ⟨Int.emod_nonneg _ (by omega), Int.emod_lt_of_pos _ h⟩
theorem log2_small {j : Int} (h0 : 0 < j) (h1 : j < 18446744073709551616) : j.natAbs.log2 < 9000 := by
  have : j.natAbs < 2 ^ 64 := by omega
  exact Nat.lt_of_lt_of_le (PySem.Flt.log2_lt_of (by decide) this) (by decide)
theorem mup_of {M : Mm} {p : Addr} {o : MO} (hm : M p = some o) : M = mup M p o := by
  funext b
  unfold mup
  split
  · rename_i e; rw [e]; exact hm
  · rfl
def ph__law_start : Ct := fun ds M k _ => ∃ ns : List Int, ds = [.scr ns] ∧ ns.length ≤ 63 ∧ ∀ p b, M p = none → Bag.Ok b → k (.cel p) (mup M p b.mo)
theorem ok__law_start {K : PySem.W.Frag} {mg : Str → Option Value} {ad : Nat → Addr} {fd : Nat → FuncData} {cl : Nat → Addr} {P : Program} {w : World} {base : Heap} (T : Txt K mg ad fd cl) : FnOk P w K mg base (L2.CX P w) 1 (ad 33) (fd 33) ["_law_script"] (spD K 1 ph__law_start) := by
  refine fn_D T.F__law_start sc__law_start rfl fun cdv A outer s H E hr hp ho => ⟨_, (b_one (s_ret (d_lstM (a_cons (d_callTy c_list rfl T.b_list boot_list' (a_cons (d_slice sl_D (dv 0) o_none (o_some d_int)) a_nil)) (a_cons d_int (a_cons d_int (a_cons (d_op o_add d_int (d_callB c_len rfl T.b_len boot_len' (a_cons (dv 0) a_nil))) (a_cons d_int a_nil)))))))), ?_⟩
  clear hp ho hr
  rintro ds M k x hl ⟨ns, rfl, hn, q⟩
  refine ⟨_, rfl, _, rfl, _, rfl, ?_⟩
  refine ⟨by show 5 ≤ sizeLine; decide, fun p hp => ?_⟩
  exact q p ⟨DL.cutD ns none (some 63), 0, 0, 49290 + ns.length, 0⟩ hp ⟨by show 0 ≤ (49290 : Int) + _; omega, by show (49290 : Int) + _ < _; omega⟩
def ph__law_pull : Ct := fun ds M k _ => ∃ (p : Addr) (b : Bag) (many : Int), ds = [.cel p, .int many] ∧ M p = some b.mo ∧ b.Ok ∧ 0 < many ∧ many.natAbs.log2 < 9000 ∧ ∀ (d : Int) (b' : Bag), 0 ≤ d → d < many → b'.Ok → k (.int d) (mup M p b'.mo)
theorem ok__law_pull {K : PySem.W.Frag} {mg : Str → Option Value} {ad : Nat → Addr} {fd : Nat → FuncData} {cl : Nat → Addr} {P : Program} {w : World} {base : Heap} (T : Txt K mg ad fd cl) : FnOk P w K mg base (L2.CX P w) 1 (ad 34) (fd 34) ["_law_bag", "_law_many"] (spD K 2 ph__law_pull) := by
  refine fn_D T.F__law_pull sc__law_pull rfl fun cdv A outer s H E hr hp ho => ⟨_, (b_cut (s_if (DPW.t (w_and (t_cmp (o_eq hr.units) (d_ix x_ix (dv 0) d_int (fun _ _ => rfl)) d_int (nomark _)) (w_and1 (t_cmp o_lt (d_ix x_ix (dv 0) d_int (fun _ _ => rfl)) (d_callB c_len rfl T.b_len boot_len' (a_cons (d_ix x_ix (dv 0) d_int (fun _ _ => rfl)) a_nil)) (nomark _))))) (b_cons (s_set (i := 2) sc__law_pull.nd rfl (Or.inl rfl) (d_ix x_ix (d_ix x_ix (dv 0) d_int (fun _ _ => rfl)) (d_ix x_ix (dv 0) d_int (fun _ _ => rfl)) (fun _ _ => rfl)))
  (b_cons (s_setIx (d_op o_add (d_ix x_ix (dv 0) d_int (fun _ _ => rfl)) d_int) (dv 0) d_int)
  (b_one (s_if (t_cmp o_ge (dv 2) (d_op o_pow d_int d_int) (nomark _)) (b_one (s_setIx (dv 2) (dv 0) d_int)) (b_one (s_setIx (d_op o_mod (d_callTy c_int rfl T.b_int boot_int' (a_cons (d_op o_add (d_op o_add (d_op o_mul (d_ix x_ix (dv 0) d_int (fun _ _ => rfl)) d_int) (d_op o_mul (d_op o_mod (d_callTy c_int rfl T.b_int boot_int' (a_cons (dv 2) a_nil)) d_int) d_int)) d_int) a_nil)) d_int) (dv 0) d_int)))))) b_nil)
  (b_cut (s_if (t_cmp o_gt (d_ix x_ix (dv 0) d_int (fun _ _ => rfl)) d_int (nomark _)) (b_cons (s_set (i := 3) sc__law_pull.nd rfl (Or.inl rfl) (d_op o_mod (d_callTy c_int rfl T.b_int boot_int' (a_cons (d_ix x_ix (dv 0) d_int (fun _ _ => rfl)) a_nil)) (dv 1)))
  (b_cons (s_setIx (d_op o_fdiv (d_ix x_ix (dv 0) d_int (fun _ _ => rfl)) (dv 1)) (dv 0) d_int)
  (b_one (s_ret (dv 3))))) b_nil)
  (b_cons (s_setIx (d_op o_add (d_ix x_ix (dv 0) d_int (fun _ _ => rfl)) d_int) (dv 0) d_int)
  (b_cons (s_set (i := 4) sc__law_pull.nd rfl (Or.inl rfl) (d_ix x_ix (dv 0) d_int (fun _ _ => rfl)))
  (b_cons (s_setIx (d_op o_mod (d_callTy c_int rfl T.b_int boot_int' (a_cons (d_op o_add (d_op o_add (d_op o_add (d_op o_mul (dv 4) (dv 4)) (d_op o_mul (dv 4) d_int)) (d_op o_mul (d_ix x_ix (dv 0) d_int (fun _ _ => rfl)) d_int)) d_int) a_nil)) d_int) (dv 0) d_int)
  (b_one (s_ret (d_op o_mod (d_callTy c_int rfl T.b_int boot_int' (a_cons (d_op o_add (d_op o_fdiv (d_ix x_ix (dv 0) d_int (fun _ _ => rfl)) d_int) (d_op o_mul (d_op o_mod (d_callTy c_int rfl T.b_int boot_int' (a_cons (d_ix x_ix (dv 0) d_int (fun _ _ => rfl)) a_nil)) d_int) d_int)) a_nil)) (dv 1))))))))), ?_⟩
  clear hp ho hr
  rintro ds M k x hl ⟨p, b, many, rfl, hm, hb, h0, hz, q⟩
  obtain ⟨cells, pos, great, seed, cnt⟩ := b
  obtain ⟨s0, s1⟩ := hb
  simp only at s0 s1
  refine ⟨fun ρ1 M1 => ∃ (b1 : Bag) (r : Option D), b1.Ok ∧ M1 = mup M p b1.mo ∧ ρ1 = [some (.cel p), some (.int many), r, none, none], ?_, ?_⟩
  · walk_at "go"
    refine ite_b (fun e1 => ?_) (fun e1 => ?_)
    · walk_at "go"
      refine ite_b (fun e2 => ?_) (fun e2 => ?_)
      · have e2 := of_decide_eq_true e2
        simp only [List.length_map] at e2
        obtain ⟨c, hc⟩ : ∃ c, cells[pos]? = some c := ⟨cells[pos]'(by omega), by simp⟩
        refine ⟨_, rfl, _, hm, _, rfl, _, rfl, _, hm, _, rfl, .int c, atI_nat (by simp [hc]), ?_⟩
        refine ⟨_, rfl, _, hm, _, rfl, ⟨_, rfl, p, _, _, _, rfl, rfl, hm, rfl, ?_⟩⟩
        refine ⟨_, rfl, ⟨by decide, by decide, by decide⟩, ⟨_, rfl, ?_⟩⟩
        refine ite_b (fun e3 => ?_) (fun e3 => ?_)
        · refine ⟨_, rfl, _, rfl, p, _, _, _, rfl, rfl, mup_same, rfl, ?_⟩
          refine ⟨⟨cells, pos + 1, c, seed, cnt⟩, some (.int c), ⟨s0, s1⟩, ?_, rfl⟩
          rw [mup_mup]
          rfl
        · refine ⟨_, rfl, _, mup_same, _, rfl, mul_small s0 (by show seed < _; omega), _, rfl, (show (2147483489 : Int) ≠ 0 by decide), mul_smallR (by decide) (by decide), (show (2147483629 : Int) ≠ 0 by decide), ?_⟩
          refine ⟨_, rfl, p, _, _, _, rfl, rfl, mup_same, rfl, ?_⟩
          refine ⟨⟨cells, pos + 1, great, (seed * 40237 + c.fmod 2147483489 * 6581 + 37).fmod 2147483629, cnt⟩, some (.int c), ⟨(fmod_lt' (show (0 : Int) < 2147483629 by decide)).1, Int.lt_trans (fmod_lt' (show (0 : Int) < 2147483629 by decide)).2 (by decide)⟩, ?_, rfl⟩
          rw [mup_mup]
          rfl
      · refine ⟨⟨cells, pos, great, seed, cnt⟩, none, ⟨s0, s1⟩, ?_, rfl⟩
        funext a
        unfold mup
        split
        · rename_i e; rw [e]; exact hm
        · rfl
    · refine iteF ⟨⟨cells, pos, great, seed, cnt⟩, none, ⟨s0, s1⟩, ?_, rfl⟩
      funext a
      unfold mup
      split
      · rename_i e; rw [e]; exact hm
      · rfl
  · rintro ρ1 M1 ⟨⟨cells, pos, great, seed, cnt⟩, r, ⟨s0, s1⟩, rfl, rfl⟩
    simp only at s0 s1
    refine ⟨fun ρ2 M2 => M2 = mup M p (Bag.mo ⟨cells, pos, great, seed, cnt⟩) ∧ ρ2 = [some (.cel p), some (.int many), r, none, none], ?_, ?_⟩
    · refine ⟨_, rfl, _, mup_same, _, rfl, ⟨_, rfl, ?_⟩⟩
      refine ite_b (fun e => ?_) (fun e => ?_)
      · refine ⟨_, rfl, _, mup_same, _, rfl, _, rfl, by show many ≠ 0; omega, ?_⟩
        refine ⟨_, rfl, _, mup_same, _, rfl, _, rfl, ⟨by omega, hz⟩, _, rfl, p, _, _, _, rfl, rfl, mup_same, rfl, ?_⟩
        refine ⟨_, rfl, ?_⟩
        have q2 := q (great.fmod many) ⟨cells, pos, great.fdiv many, seed, cnt⟩ (fmod_lt' h0).1 (fmod_lt' h0).2 ⟨s0, s1⟩
        rw [mup_mup]
        exact q2
      · exact ⟨rfl, rfl⟩
    · rintro ρ2 M2 ⟨rfl, rfl⟩
      refine ⟨_, rfl, _, mup_same, _, rfl, ⟨_, rfl, p, _, _, _, rfl, rfl, mup_same, rfl, ?_⟩⟩
      refine ⟨_, rfl, _, mup_same, _, rfl, ?_⟩
      refine ⟨_, rfl, _, rfl, mul_small s0 (by show seed < _; omega), _, rfl, mul_small s0 (by show seed < _; omega), _, rfl, _, mup_same, _, rfl, mul_smallR (by decide) (by decide), (show (2147483579 : Int) ≠ 0 by decide), ?_⟩
      refine ⟨_, rfl, p, _, _, _, rfl, rfl, mup_same, rfl, ?_⟩
      refine ⟨_, rfl, _, mup_same, _, rfl, ⟨by decide, log2_small (by decide) (by decide)⟩, ?_⟩
      refine ⟨_, rfl, _, mup_same, _, rfl, (show (8059 : Int) ≠ 0 by decide), mul_smallR (by decide) (by decide), ?_⟩
      refine ⟨_, rfl, by show many ≠ 0; omega, ?_⟩
      rw [mup_mup, mup_mup]
      exact q _ ⟨cells, pos, great, (seed * seed + seed * 28657 + (cnt + 1) * 1300367 + 70001).fmod 2147483579, cnt + 1⟩ (fmod_lt' h0).1 (fmod_lt' h0).2 ⟨(fmod_lt' (show (0 : Int) < 2147483579 by decide)).1, Int.lt_trans (fmod_lt' (show (0 : Int) < 2147483579 by decide)).2 (by decide)⟩
def ph__law_pick : Ct := fun ds M k _ => ∃ (p : Addr) (b : Bag) (s : D), ds = [.cel p, s] ∧ M p = some b.mo ∧ b.Ok ∧ ((∃ es, s = .lst es ∧ 0 < es.length ∧ es.length ≤ 1000 ∧ ∀ d ∈ es, ∀ b' : Bag, b'.Ok → k d (mup M p b'.mo)) ∨
  ∃ z : Str, s = .str z ∧ 0 < z.length ∧ z.length ≤ 1000 ∧ ∀ c ∈ z.cps.toList, ∀ b' : Bag, b'.Ok → k (.str ⟨#[c]⟩) (mup M p b'.mo))
theorem atI_some {α : Type} {xs : List α} {d : Int} (h0 : 0 ≤ d) (h1 : d < xs.length) : ∃ v, atI xs d = some v ∧ v ∈ xs := by
  have h : d.toNat < xs.length := by omega
  refine ⟨xs[d.toNat], ?_, List.getElem_mem h⟩
  have e : d = (d.toNat : Int) := by omega
  exact (congrArg (atI xs) e).trans (atI_nat (xs := xs) (j := d.toNat) (v := xs[d.toNat]) (by simp))
theorem ok__law_pick {K : PySem.W.Frag} {mg : Str → Option Value} {ad : Nat → Addr} {fd : Nat → FuncData} {cl : Nat → Addr} {P : Program} {w : World} {base : Heap} (T : Txt K mg ad fd cl) : FnOk P w K mg base (L2.CX P w) 3 (ad 35) (fd 35) ["_law_bag", "_law_some"] (spD K 2 ph__law_pick) := by
  have G__law_pull := ok__law_pull (P := P) (w := w) (base := base) T
  refine fn_D T.F__law_pick sc__law_pick rfl fun cdv A outer s H E hr hp ho => ⟨_, (b_one (s_ret (d_ix x_ix (dv 1) (d_call G__law_pull (hr.mono (by decide)) rfl T.m__law_pull T.k__law_pull T.kb__law_pull_2 (by intro _ _ h _; exact h) hp (a_cons (dv 0) (a_cons (d_callB c_len rfl T.b_len boot_len' (a_cons (dv 1) a_nil)) a_nil))) (fun _ _ => rfl)))), ?_⟩
  clear hp ho hr G__law_pull
  rintro ds M k x hl ⟨p, b, s, rfl, hm, hb, q⟩
  rcases q with ⟨es, rfl, l0, l1, q⟩ | ⟨z, rfl, l0, l1, q⟩
  · refine ⟨_, rfl, _, rfl, _, rfl, rfl, p, b, _, rfl, hm, hb, by show (0 : Int) < es.length; omega, log2_small (by show (0 : Int) < es.length; omega) (by show (es.length : Int) < _; omega), fun d b' h0 h1 hb' => ?_⟩
    obtain ⟨v, hv, mv⟩ := atI_some h0 h1
    exact ⟨v, hv, q v mv b' hb'⟩
  · refine ⟨_, rfl, _, rfl, _, rfl, ⟨Nat.le_trans l1 (by decide), ?_⟩⟩
    refine ⟨rfl, p, b, _, rfl, hm, hb, by show (0 : Int) < z.length; omega, log2_small (by show (0 : Int) < z.length; omega) (by show (z.length : Int) < _; omega), fun d b' h0 h1 hb' => ?_⟩
    have hz : z.cps.toList.length = z.length := by simp [Str.length]
    obtain ⟨v, hv, mv⟩ := atI_some (xs := z.cps.toList) h0 (by rw [hz]; exact h1)
    exact ⟨Nat.le_trans l1 (by decide), v, hv, q v mv b' hb'⟩
section
variable {M0 : Mm} {p r : Addr} {b : Bag} {L : MO} {k : DK} {x : DX}
theorem pullK {many : Int} (hb : b.Ok) (h0 : 0 < many) (hz : many.natAbs.log2 < 9000) (h : ∀ (d : Int) (b' : Bag), 0 ≤ d → d < many → b'.Ok → k (.int d) (mup M0 p b'.mo)) : ph__law_pull [.cel p, .int many] (mup M0 p b.mo) k x :=
  ⟨p, b, many, rfl, mup_same, hb, h0, hz, fun d b' h1 h2 h3 => by rw [mup_mup]; exact h d b' h1 h2 h3⟩
end
theorem log2_mono {a b : Nat} (h : a ≤ b) (hb : 0 < b) : a.log2 ≤ b.log2 := by
  by_cases z : a = 0
  · subst z; simp
  · exact (Nat.le_log2 (by omega)).mpr (Nat.le_trans (Nat.log2_self_le z) h)
def ph__law_winds : Ct := fun ds M k _ => ∃ (p : Addr) (b : Bag) (sx sy : Int), ds = [.cel p, .int sx, .int sy] ∧ M p = some b.mo ∧ b.Ok ∧ (sx = 1 ∨ sx = -1) ∧ (sy = 1 ∨ sy = -1) ∧ ∀ (u v : TI.P2) (b' : Bag), b'.Ok → TI.Quad sx sy u → TI.Quad sx sy v → 0 < TI.cross u v → k (.tup [TI.pt u, TI.pt v]) (mup M p b'.mo)
theorem ok__law_winds {K : PySem.W.Frag} {mg : Str → Option Value} {ad : Nat → Addr} {fd : Nat → FuncData} {cl : Nat → Addr} {P : Program} {w : World} {base : Heap} (T : Txt K mg ad fd cl) : FnOk P w K mg base (L2.CX P w) 3 (ad 36) (fd 36) ["_law_bag", "_law_sx", "_law_sy"] (spD K 3 ph__law_winds) := by
  have G__law_pull := ok__law_pull (P := P) (w := w) (base := base) T
  have G__law_cross := ok__law_cross (P := P) (w := w) (base := base) T
  refine fn_D T.F__law_winds sc__law_winds rfl fun cdv A outer s H E hr hp ho => ⟨_, (b_cons (s_set (i := 3) sc__law_winds.nd rfl (Or.inl rfl) (d_lst (a_cons (d_tup (a_cons d_int (a_cons d_int a_nil))) (a_cons (d_tup (a_cons d_int (a_cons d_int a_nil))) (a_cons (d_tup (a_cons d_int (a_cons d_int a_nil))) (a_cons (d_tup (a_cons d_int (a_cons d_int a_nil))) (a_cons (d_tup (a_cons d_int (a_cons d_int a_nil))) (a_cons (d_tup (a_cons d_int (a_cons d_int a_nil))) (a_cons (d_tup (a_cons d_int (a_cons d_int a_nil))) a_nil)))))))))
  (b_cons (s_set (i := 4) sc__law_winds.nd rfl (Or.inl rfl) (d_call G__law_pull (hr.mono (by decide)) rfl T.m__law_pull T.k__law_pull T.kb__law_pull_2 (by intro _ _ h _; exact h) hp (a_cons (dv 0) (a_cons d_int a_nil))))
  (b_cons (s_set (i := 5) sc__law_winds.nd rfl (Or.inl rfl) (d_op o_add (d_op o_add (dv 4) d_int) (d_call G__law_pull (hr.mono (by decide)) rfl T.m__law_pull T.k__law_pull T.kb__law_pull_2 (by intro _ _ h _; exact h) hp (a_cons (dv 0) (a_cons (d_op o_sub d_int (dv 4)) a_nil)))))
  (b_cons (s_par (i := 6) (j := 7) rfl sc__law_winds.nd rfl rfl (by decide) rfl rfl (a_cons (d_tup (a_cons (d_op o_mul (dv 1) (d_ix x_ix (d_ix x_ix (dv 3) (dv 4) (fun _ _ => rfl)) d_int (fun _ _ => rfl))) (a_cons (d_op o_mul (dv 2) (d_ix x_ix (d_ix x_ix (dv 3) (dv 4) (fun _ _ => rfl)) d_int (fun _ _ => rfl))) a_nil))) (a_cons (d_tup (a_cons (d_op o_mul (dv 1) (d_ix x_ix (d_ix x_ix (dv 3) (dv 5) (fun _ _ => rfl)) d_int (fun _ _ => rfl))) (a_cons (d_op o_mul (dv 2) (d_ix x_ix (d_ix x_ix (dv 3) (dv 5) (fun _ _ => rfl)) d_int (fun _ _ => rfl))) a_nil))) a_nil)) rfl)
  (b_one (s_ret (d_if (t_cmp o_gt (d_call G__law_cross (hr.mono (by decide)) rfl T.m__law_cross T.k__law_cross T.kb__law_cross_2 (by intro _ _ h _; exact h) hp (a_cons (dv 6) (a_cons (dv 7) a_nil))) d_int (nomark _)) (d_tup (a_cons (dv 6) (a_cons (dv 7) a_nil))) (d_tup (a_cons (dv 7) (a_cons (dv 6) a_nil)))))))))), ?_⟩
  clear hp ho hr G__law_pull G__law_cross
  rintro ds M k x hl ⟨p, b, sx, sy, rfl, hm, hb, hx, hy, q⟩
  rw [mup_of hm]
  have L : ∀ {n m : Nat}, n ≤ 8 → n ≤ sizeLine := fun h => Nat.le_trans h (by decide)
  refine ⟨Nat.le_of_ble_eq_true rfl, Nat.le_of_ble_eq_true rfl, Nat.le_of_ble_eq_true rfl, Nat.le_of_ble_eq_true rfl, Nat.le_of_ble_eq_true rfl, Nat.le_of_ble_eq_true rfl, Nat.le_of_ble_eq_true rfl, Nat.le_of_ble_eq_true rfl, ?_⟩
  refine ⟨_, rfl, rfl, pullK hb (by decide) (by decide) fun kk b1 h0 h1 hb1 => ?_⟩
  obtain ⟨i, rfl⟩ : ∃ i : Nat, kk = i := ⟨kk.toNat, by omega⟩
  have hlog : ((6 : Int) - (i : Int)).natAbs.log2 < 9000 := by
    refine Nat.lt_of_le_of_lt (log2_mono (b := 6) (by omega) (by decide)) (by decide)
  refine ⟨_, rfl, _, rfl, _, rfl, rfl, pullK hb1 (by omega) hlog fun d b2 h2 h3 hb2 => ?_⟩
  obtain ⟨j, hj⟩ : ∃ j : Nat, (i : Int) + 1 + d = j := ⟨((i : Int) + 1 + d).toNat, by omega⟩
  have hi6 : i < 7 := by omega
  have hj7 : j < 7 := by omega
  obtain ⟨w1, w2, w3⟩ := TI.ways_ok (k := i) (j := j) (by omega) hj7 hx hy
  have mx : ∀ z : Int, DL.MulOk sx z := fun z => TI.mul2 (by omega) (by omega)
  have my : ∀ z : Int, DL.MulOk sy z := fun z => TI.mul2 (by omega) (by omega)
  have bu := TI.quad_bd hx hy w1
  have bv := TI.quad_bd hx hy w2
  obtain ⟨⟨u1, u2⟩, u3, u4⟩ := id bu
  obtain ⟨⟨v1, v2⟩, v3, v4⟩ := id bv
  have ai : atI (TI.ways.map TI.pt) (i : Int) = some (TI.pt (TI.ways.getD i (0, 0))) := pairs_at hi6
  have aj : atI (TI.ways.map TI.pt) ((i : Int) + 1 + d) = some (TI.pt (TI.ways.getD j (0, 0))) := by
    rw [hj]
    exact pairs_at hj7
  refine ⟨_, rfl, _, rfl, _, rfl, _, ai, _, rfl, mx _, ?_⟩
  refine ⟨_, rfl, _, rfl, _, rfl, _, ai, _, rfl, my _, Nat.le_of_ble_eq_true rfl, ?_⟩
  refine ⟨_, rfl, _, rfl, _, rfl, _, aj, _, rfl, mx _, ?_⟩
  refine ⟨_, rfl, _, rfl, _, rfl, _, aj, _, rfl, my _, Nat.le_of_ble_eq_true rfl, _, _, rfl, ?_⟩
  refine ⟨_, rfl, _, rfl, rfl, (sx * (TI.ways.getD i (0, 0)).1, sy * (TI.ways.getD i (0, 0)).2), (sx * (TI.ways.getD j (0, 0)).1, sy * (TI.ways.getD j (0, 0)).2), rfl, TI.mul2 (by omega) (by omega), TI.mul2 (by omega) (by omega), ⟨_, rfl, ?_⟩⟩
  refine ite_b (fun e => ?_) (fun e => ?_)
  · exact ⟨_, rfl, _, rfl, Nat.le_of_ble_eq_true rfl, q _ _ b2 hb2 w1 w2 (of_decide_eq_true e)⟩
  · exact ⟨_, rfl, _, rfl, Nat.le_of_ble_eq_true rfl, q _ _ b2 hb2 w2 w1 (w3.resolve_left (of_decide_eq_false e))⟩
def ph__law_keys : Ct := fun ds M k _ => ∃ (a u : D) (r : List D) (cs : List TI.P2), ds = [.tup (a :: u :: r)] ∧ TI.itemsOf u = some (cs.map TI.pt) ∧ cs.length ≤ 8 ∧ k (.lst ((TI.sidesOf cs).map TI.sd)) M
theorem ok__law_keys {K : PySem.W.Frag} {mg : Str → Option Value} {ad : Nat → Addr} {fd : Nat → FuncData} {cl : Nat → Addr} {P : Program} {w : World} {base : Heap} (T : Txt K mg ad fd cl) : FnOk P w K mg base (L2.CX P w) 3 (ad 37) (fd 37) ["_law_tile"] (spD K 1 ph__law_keys) := by
  have G__law_border := ok__law_border (P := P) (w := w) (base := base) T
  have G__law_key := ok__law_key (P := P) (w := w) (base := base) T
  refine fn_D T.F__law_keys sc__law_keys rfl fun cdv A outer s H E hr hp ho => ⟨_, (b_one (s_ret (d_lc (own := [("_law_p", 1), ("_law_q", 2)]) rfl sc__law_keys.nd (i_seq (d_call G__law_border (hr.mono (by decide)) rfl T.m__law_border T.k__law_border T.kb__law_border_1 (by intro _ _ h _; exact h) hp (a_cons (dv 0) a_nil))) (blkOk_by (own := [("_law_p", 1), ("_law_q", 2)]) (N := ["_law_tile", "_law_p", "_law_q"]) (sc := (defScope st__law_keys)) (by decide +kernel)) (gp_tup (n := 2) (gps_cons (gp_name (by decide)) (gps_cons (gp_name (by decide)) gps_nil))) (fun _ _ _ _ _ => (pg_tup (n := 2) rfl (pgs_cons (pg_name (i := 1) sc__law_keys.nd rfl (Or.inl rfl)) (pgs_cons (pg_name (i := 2) sc__law_keys.nd rfl (Or.inl rfl)) pgs_nil)))) (fun _ _ _ _ _ => ts_nil) (fun _ _ _ _ _ => (d_call G__law_key (hr.mono (by decide)) rfl T.m__law_key T.k__law_key T.kb__law_key_2 (by intro _ _ h _; exact h) passL (a_cons (dv 1) (a_cons (dv 2) a_nil))))))), ?_⟩
  clear hp ho hr G__law_border G__law_key
  rintro ds M k x hl ⟨a, u, r, cs, rfl, hi, hz, q⟩
  refine ⟨_, rfl, rfl, a, u, r, cs, rfl, hi, hz, ?_⟩
  refine lc_mapS (fun e => TI.sd (TI.sideOf e.1 e.2)) (by rw [List.length_map, TI.pairsOf_length]; exact Nat.lt_of_le_of_lt hz (by decide)) (fun e he K hK => ?_) (fun d K K' => gT2_mono K K') ?_
  · exact ⟨_, rfl, rfl, _, _, rfl, _, _, rfl, rfl, _, rfl, _, rfl, rfl, e.1, e.2, rfl, hK⟩
  · unfold TI.sidesOf at q
    rw [List.map_map] at q
    exact q
def srt : Kd → Int
  | .non => 0 | .bl => 1 | .int => 2 | .str => 3 | .lst => 4 | .tup => 5
def ph__law_sort : Ct := fun ds M k _ => ∃ u v, ds = [u] ∧ kd u = some v ∧ k (.int (srt v)) M
theorem ok__law_sort {K : PySem.W.Frag} {mg : Str → Option Value} {ad : Nat → Addr} {fd : Nat → FuncData} {cl : Nat → Addr} {P : Program} {w : World} {base : Heap} (T : Txt K mg ad fd cl) : FnOk P w K mg base (L2.CX P w) 1 (ad 38) (fd 38) ["_law_thing"] (spD K 1 ph__law_sort) := by
  refine fn_D T.F__law_sort sc__law_sort rfl fun cdv A outer s H E hr hp ho => ⟨_, (b_cons (s_set (i := 1) sc__law_sort.nd rfl (Or.inl rfl) (d_lst (a_cons (d_cmp o_isN (dv 0) d_non (nomark _)) (a_cons (d_isi .bl (CS cl) (by decide) T.isi_bool rfl T.b_isinstance rfl T.b_bool (by decide +kernel) (dv 0)) (a_cons (d_isi .int (CS cl) (by decide) T.isi_int rfl T.b_isinstance rfl T.b_int (by decide +kernel) (dv 0)) (a_cons (d_isi .str (CS cl) (by decide) T.isi_str rfl T.b_isinstance rfl T.b_str (by decide +kernel) (dv 0)) a_nil))))))
  (b_cons (s_set (i := 1) sc__law_sort.nd rfl (Or.inl rfl) (d_op o_add (dv 1) (d_lst (a_cons (d_isi .lst (CS cl) (by decide) T.isi_list rfl T.b_isinstance rfl T.b_list (by decide +kernel) (dv 0)) (a_cons (d_isi .tup (CS cl) (by decide) T.isi_tuple rfl T.b_isinstance rfl T.b_tuple (by decide +kernel) (dv 0)) (a_cons d_bl a_nil))))))
  (b_one (s_ret (d_bm PySem.F.plainAttrs_list PySem.F.slot_list_index PySem.F.type_list_index m_index (dv 1) (a_cons d_bl a_nil)))))), ?_⟩
  clear hp ho hr
  rintro ds M k x hl ⟨u, v, rfl, hv, q⟩
  cases u <;> cases hv <;> (walk_at "go"; exact q)
mutual
/-- pure data at most n deep, its lists and tuples short -/
def pureD : Nat → D → Bool
  | _, .non => true
  | _, .bl _ => true
  | _, .int _ => true
  | _, .str _ => true
  | n + 1, .lst ds => pureDs n ds && decide (ds.length ≤ 100000)
  | n + 1, .tup ds => pureDs n ds && decide (ds.length ≤ 100000)
  | _, _ => false
def pureDs : Nat → List D → Bool
  | _, [] => true
  | n, d :: ds => pureD n d && pureDs n ds
end
theorem pureDs_mem {n : Nat} : ∀ {ds : List D} {d : D}, pureDs n ds = true → d ∈ ds → pureD n d = true
  | [], _, _, h => by cases h
  | e :: ds, d, h, hm => by
    simp only [pureDs, Bool.and_eq_true] at h
    rcases List.mem_cons.mp hm with z | z
    · rw [z]; exact h.1
    · exact pureDs_mem h.2 z
def ph__law_same (n : Nat) : Ct := fun ds M k _ => ∃ u, ds = [u, u] ∧ pureD n u = true ∧ k (.bl true) M
theorem zips_same : ∀ ds : List D, zips ds ds = ds.map fun d => .tup [d, d]
  | [] => rfl
  | d :: ds => by simp [zips, zips_same ds]
theorem all_true : ∀ n : Nat, (List.replicate n true).all id = true
  | 0 => rfl
  | n + 1 => by simp [List.replicate_succ]
theorem map_const (ds : List D) : ds.map (fun _ => D.bl true) = (List.replicate ds.length true).map D.bl := by
  induction ds with
  | nil => rfl
  | cons d ds ih => simp [List.replicate_succ, ih]
theorem gT2_mono {i j : Nat} {d : D} {ρ : DEnv} {M : Mm} (K K' : DEnv → Mm → Prop) (h : ∀ ρ M, K ρ M → K' ρ M) (q : gTupD 2 (gsCons (gN i) (gsCons (gN j) gsNil)) d ρ M K) : gTupD 2 (gsCons (gN i) (gsCons (gN j) gsNil)) d ρ M K' := by
  obtain ⟨ds, e, l, d1, r1, e1, d2, r2, e2, e3, q⟩ := q
  exact ⟨ds, e, l, d1, r1, e1, d2, r2, e2, e3, h _ _ q⟩
def phPrev : Nat → Ct
  | 0 => fun _ _ _ _ => False
  | n + 1 => ph__law_same n
theorem fn_false {P : Program} {w : World} {K : PySem.W.Frag} {mg : Str → Option Value} {base : Heap} {CX : CXT} {k n : Nat} {f : Addr} {fd : FuncData} {ps : List Str} : FnOk P w K mg base CX k f fd ps (spD K n fun _ _ _ _ => False) :=
  ⟨fun _ _ _ _ h => by obtain ⟨_, _, _, _, _, _, _, _, z, _⟩ := h; exact z.elim, fun _ _ _ _ _ _ _ _ _ _ _ _ _ h => by obtain ⟨_, _, _, _, _, _, _, _, z, _⟩ := h; exact z.elim⟩
theorem iteRefl {α : Type} {a : α} [DecidableEq α] {A B : Prop} (h : A) : if decide (a = a) = true then A else B := by
  rw [if_pos (by simp)]
  exact h
theorem eqk_refl_str {i : Str} {M : Mm} {k : DK} (q : k (.bl true) M) : EqK (.str i) (.str i) M k := .of (eqD_str i i) (by simpa using q)
theorem eqk_refl_bl {i : Bool} {M : Mm} {k : DK} (q : k (.bl true) M) : EqK (.bl i) (.bl i) M k := .of (eqD_bl i i) (by simpa using q)
theorem eqk_refl_non {M : Mm} {k : DK} (q : k (.bl true) M) : EqK .non .non M k := .of eqD_non q
theorem step_same {K : PySem.W.Frag} {mg : Str → Option Value} {ad : Nat → Addr} {fd : Nat → FuncData} {cl : Nat → Addr} {P : Program} {w : World} {base : Heap} (T : Txt K mg ad fd cl) (n : Nat) (G__law_same : FnOk P w K mg base (L2.CX P w) (n + 2) (ad 39) (fd 39) ["_law_found", "_law_due"] (spD K 2 (phPrev n))) : FnOk P w K mg base (L2.CX P w) (n + 3) (ad 39) (fd 39) ["_law_found", "_law_due"] (spD K 2 (ph__law_same n)) := by
  have G__law_sort := ok__law_sort (P := P) (w := w) (base := base) T
  refine fn_D T.F__law_same sc__law_same rfl fun cdv A outer s H E hr hp ho => ⟨_, (b_cons (s_if (t_cmp (o_ne hr.units) (d_call G__law_sort (hr.mono (by omega)) rfl T.m__law_sort T.k__law_sort T.kb__law_sort_1 (by intro _ _ h _; exact h) hp (a_cons (dv 0) a_nil)) (d_call G__law_sort (hr.mono (by omega)) rfl T.m__law_sort T.k__law_sort T.kb__law_sort_1 (by intro _ _ h _; exact h) hp (a_cons (dv 1) a_nil)) (nomark _)) (b_one (s_ret d_bl)) b_nil)
  (b_cons (s_if (t_cmp o_in (d_call G__law_sort (hr.mono (by omega)) rfl T.m__law_sort T.k__law_sort T.kb__law_sort_1 (by intro _ _ h _; exact h) hp (a_cons (dv 1) a_nil)) (d_tup (a_cons d_int (a_cons d_int a_nil))) rfl) (b_one (s_ret (d_and (d_cmp (o_eq hr.units) (d_callB c_len rfl T.b_len boot_len' (a_cons (dv 0) a_nil)) (d_callB c_len rfl T.b_len boot_len' (a_cons (dv 1) a_nil)) (nomark _)) (d_one (d_callB (c_all rfl) rfl T.b_all boot_all' (a_cons (d_lc (own := [("_law_a", 2), ("_law_b", 3)]) rfl sc__law_same.nd (i_zip rfl T.b_zip (a_cons (dv 0) (a_cons (dv 1) a_nil))) (blkOk_by (own := [("_law_a", 2), ("_law_b", 3)]) (N := ["_law_found", "_law_due", "_law_a", "_law_b"]) (sc := (defScope st__law_same)) (by decide +kernel)) (gp_tup (n := 2) (gps_cons (gp_name (by decide)) (gps_cons (gp_name (by decide)) gps_nil))) (fun _ _ _ _ _ => (pg_tup (n := 2) rfl (pgs_cons (pg_name (i := 2) sc__law_same.nd rfl (Or.inl rfl)) (pgs_cons (pg_name (i := 3) sc__law_same.nd rfl (Or.inl rfl)) pgs_nil)))) (fun _ _ _ _ _ => ts_nil) (fun _ _ _ _ _ => (d_call G__law_same (hr.mono (by omega)) rfl T.m__law_same T.k__law_same T.kb__law_same_2 (by intro _ _ h _; exact h) passL (a_cons (dv 2) (a_cons (dv 3) a_nil))))) a_nil)))))) b_nil)
  (b_one (s_ret (d_cmp (o_eq hr.units) (dv 0) (dv 1) (nomark _)))))), ?_⟩
  clear hp ho hr G__law_sort
  rintro ds M k x hl ⟨u, rfl, hu, q⟩
  have seq : ∀ ds : List D, pureDs (n - 1) ds = true → 0 < n → ds.length ≤ 100000 → ∀ d ∈ zips ds ds, ∀ K' : DK, K' (.bl true) M → gTupD 2 (gsCons (gN 2) (gsCons (gN 3) gsNil)) d (wipeD (startD ["_law_found", "_law_due", "_law_a", "_law_b"] [u, u]) [2, 3]) M fun ρ1 M2 => dCall 2 (phPrev n) (fun us _ => us) (dCons (dVar 2) (dCons (dVar 3) dNil)) ρ1 M2 K' (fun _ _ _ => False) := by
    intro ds hp hn hl d hd K' hK
    rw [zips_same] at hd
    obtain ⟨e, he, rfl⟩ := List.mem_map.mp hd
    refine ⟨[e, e], rfl, rfl, e, [e], rfl, e, [], rfl, rfl, _, rfl, _, rfl, rfl, ?_⟩
    cases n with
    | zero => omega
    | succ n => exact ⟨e, rfl, pureDs_mem hp he, hK⟩
  cases u with
  | non => walk_at "go"; refine ⟨_, _, rfl, rfl, ?_⟩; walk_at "go"; refine ⟨_, _, rfl, rfl, ?_⟩; walk_at "go"; refine ⟨_, _, rfl, rfl, ?_⟩; walk_at "go"; exact eqk_refl_non q
  | bl b => walk_at "go"; refine ⟨_, _, rfl, rfl, ?_⟩; walk_at "go"; refine ⟨_, _, rfl, rfl, ?_⟩; walk_at "go"; refine ⟨_, _, rfl, rfl, ?_⟩; walk_at "go"; exact eqk_refl_bl q
  | int b => walk_at "go"; refine ⟨_, _, rfl, rfl, ?_⟩; walk_at "go"; refine ⟨_, _, rfl, rfl, ?_⟩; walk_at "go"; refine ⟨_, _, rfl, rfl, ?_⟩; walk_at "go"; (show k _ M); simpa using q
  | str b => walk_at "go"; refine ⟨_, _, rfl, rfl, ?_⟩; walk_at "go"; refine ⟨_, _, rfl, rfl, ?_⟩; walk_at "go"; refine ⟨_, _, rfl, rfl, ?_⟩; walk_at "go"; exact eqk_refl_str q
  | lst ds =>
    cases n with
    | zero => cases hu
    | succ n =>
      simp only [pureD, Bool.and_eq_true, decide_eq_true_eq] at hu
      walk_at "go"; refine ⟨_, _, rfl, rfl, ?_⟩; walk_at "go"; refine ⟨_, _, rfl, rfl, ?_⟩; walk_at "go"; refine ⟨_, _, rfl, rfl, ?_⟩; walk_at "go"
      refine iteRefl ?_
      refine ⟨_, rfl, _, rfl, ?_⟩
      have hz : (zips ds ds).length < sizeLine := by
        rw [zips_same, List.length_map]
        exact Nat.lt_of_le_of_lt hu.2 (by decide)
      refine lc_map (fun _ => .bl true) hz (seq ds hu.1 (Nat.succ_pos n) hu.2) (fun d K K' => gT2_mono K K') ?_
      refine ⟨List.replicate (zips ds ds).length true, by rw [map_const], ?_⟩
      rw [all_true]
      exact q
  | tup ds =>
    cases n with
    | zero => cases hu
    | succ n =>
      simp only [pureD, Bool.and_eq_true, decide_eq_true_eq] at hu
      walk_at "go"; refine ⟨_, _, rfl, rfl, ?_⟩; walk_at "go"; refine ⟨_, _, rfl, rfl, ?_⟩; walk_at "go"; refine ⟨_, _, rfl, rfl, ?_⟩; walk_at "go"
      refine iteRefl ?_
      refine ⟨_, rfl, _, rfl, ?_⟩
      have hz : (zips ds ds).length < sizeLine := by
        rw [zips_same, List.length_map]
        exact Nat.lt_of_le_of_lt hu.2 (by decide)
      refine lc_map (fun _ => .bl true) hz (seq ds hu.1 (Nat.succ_pos n) hu.2) (fun d K K' => gT2_mono K K') ?_
      refine ⟨List.replicate (zips ds ds).length true, by rw [map_const], ?_⟩
      rw [all_true]
      exact q
  | _ => (cases n <;> simp [pureD] at hu)
theorem ok__law_same {K : PySem.W.Frag} {mg : Str → Option Value} {ad : Nat → Addr} {fd : Nat → FuncData} {cl : Nat → Addr} {P : Program} {w : World} {base : Heap} (T : Txt K mg ad fd cl) : ∀ n : Nat, FnOk P w K mg base (L2.CX P w) (n + 3) (ad 39) (fd 39) ["_law_found", "_law_due"] (spD K 2 (ph__law_same n))
  | 0 => step_same T 0 fn_false
  | n + 1 => step_same T (n + 1) (ok__law_same T n)
theorem sameK {n : Nat} {M : Mm} {k : DK} {x : DX} {u v : D} (e : u = v) (h : pureD n u = true) (q : k (.bl true) M) : ph__law_same n [u, v] M k x := by
  subst e
  exact ⟨u, rfl, h, q⟩
open TI in
def ph__law_lets : Ct := fun ds M k _ => ∃ (t : Tl) (s : P2 × P2), ds = [TI.rowD t, sd s] ∧ CsOk t.cs ∧ Bd t.u ∧ s ∈ sidesOf t.cs ∧ k (.bl (letsB t.cs t.u s)) M
theorem ok__law_lets {K : PySem.W.Frag} {mg : Str → Option Value} {ad : Nat → Addr} {fd : Nat → FuncData} {cl : Nat → Addr} {P : Program} {w : World} {base : Heap} (T : Txt K mg ad fd cl) : FnOk P w K mg base (L2.CX P w) 3 (ad 40) (fd 40) ["_law_tile", "_law_edge"] (spD K 2 ph__law_lets) := by
  have G__law_border := ok__law_border (P := P) (w := w) (base := base) T
  have G__law_key := ok__law_key (P := P) (w := w) (base := base) T
  have G__law_cross := ok__law_cross (P := P) (w := w) (base := base) T
  have G__law_lead := ok__law_lead (P := P) (w := w) (base := base) T
  refine fn_D T.F__law_lets sc__law_lets rfl fun cdv A outer s H E hr hp ho => ⟨_, (b_cons (s_setLc (i := 2) (own := [("_law_p", 3), ("_law_q", 4)]) rfl sc__law_lets.nd rfl rfl (sw_true rfl rfl rfl (by decide +kernel)) (i_seq (d_call G__law_border (hr.mono (by decide)) rfl T.m__law_border T.k__law_border T.kb__law_border_1 (by intro _ _ h _; exact h) hp (a_cons (dv 0) a_nil))) (blkOk_by (own := [("_law_p", 3), ("_law_q", 4)]) (N := ["_law_tile", "_law_edge", "_law_found", "_law_p", "_law_q"]) (sc := (defScope st__law_lets)) (by decide +kernel)) (gp_tup (n := 2) (gps_cons (gp_name (by decide)) (gps_cons (gp_name (by decide)) gps_nil))) (fun _ _ _ _ _ => (pg_tup (n := 2) rfl (pgs_cons (pg_name (i := 3) sc__law_lets.nd rfl (Or.inl rfl)) (pgs_cons (pg_name (i := 4) sc__law_lets.nd rfl (Or.inl rfl)) pgs_nil)))) (fun _ _ _ _ _ => (ts_one (t_cmp (o_eq hr.units) (d_call G__law_key (hr.mono (by decide)) rfl T.m__law_key T.k__law_key T.kb__law_key_2 (by intro _ _ h _; exact h) passL (a_cons (dv 3) (a_cons (dv 4) a_nil))) (dv 1) (nomark _)))) (fun _ _ _ _ _ => (d_cmp o_gt (d_call G__law_cross (hr.mono (by decide)) rfl T.m__law_cross T.k__law_cross T.kb__law_cross_2 (by intro _ _ h _; exact h) passL (a_cons (d_call G__law_lead (hr.mono (by decide)) rfl T.m__law_lead T.k__law_lead T.kb__law_lead_2 (by intro _ _ h _; exact h) passL (a_cons (dv 3) (a_cons (dv 4) a_nil))) (a_cons (d_ix x_ix (d_ix x_ix (dv 0) d_int (fun _ _ => rfl)) d_int (fun _ _ => rfl)) a_nil))) d_int (nomark _))))
  (b_one (s_ret (d_ix x_ix (dv 2) d_int (fun _ _ => rfl))))), ?_⟩
  clear hp ho hr G__law_border G__law_key G__law_cross G__law_lead
  rintro ds M k x hl ⟨t, s, rfl, ok, bu, hs, q⟩
  obtain ⟨⟨c1, c2⟩, c3, c4⟩ := id bu
  refine ⟨_, rfl, rfl, _, _, _, t.cs, rfl, rfl, ok.hi, ?_⟩
  refine lc_filtS (fun e : TI.P2 × TI.P2 => decide (TI.sideOf e.1 e.2 = s)) (fun e => D.bl (TI.inB t.u e)) (by rw [List.length_map, TI.pairsOf_length]; exact Nat.lt_of_le_of_lt ok.hi (by decide)) (fun e he K R' hK hR => ?_) ?_
  · obtain ⟨m1, m2⟩ := TI.pairsOf_mem he
    have hld := TI.bd_lead (ok.bd _ m1) (ok.bd _ m2)
    refine ⟨_, rfl, rfl, _, _, rfl, _, _, rfl, rfl, ?_⟩
    refine ⟨_, rfl, _, rfl, rfl, e.1, e.2, rfl, _, rfl, eqP (TI.toP_sd _) (TI.toP_sd _) rfl rfl ⟨_, rfl, ?_⟩⟩
    rw [TI.eqv_sd]
    refine ite_b (fun z => ?_) (fun z => ?_)
    · exact ⟨_, rfl, _, rfl, rfl, e.1, e.2, rfl, _, rfl, _, rfl, _, rfl, rfl, TI.lead e.1 e.2, t.u, rfl, TI.mul2 (by omega) (by omega), TI.mul2 (by omega) (by omega), hK z⟩
    · exact hR z
  · obtain ⟨e, h1, h2, h3⟩ := TI.find_side hs
    have hb : TI.letsB t.cs t.u s = TI.inB t.u e := by unfold TI.letsB; rw [h1]
    rw [hb] at q
    refine ⟨_, rfl, _, atI_nat (j := 0) (v := D.bl (TI.inB t.u e)) ?_, q⟩
    rw [List.getElem?_map, ← List.head?_eq_getElem?, List.head?_filter, h1]
    rfl
theorem pureDs_map {α : Type} {n : Nat} {f : α → D} (h : ∀ a, pureD n (f a) = true) : ∀ l : List α, pureDs n (l.map f) = true
  | [] => rfl
  | a :: l => by
    simp only [List.map_cons, pureDs, h a, pureDs_map h l, Bool.and_self]
theorem pure_pts {n : Nat} (cs : List TI.P2) : pureDs (n + 1) (cs.map TI.pt) = true := pureDs_map (fun p => by simp [TI.pt, pureD, pureDs]) cs
theorem pure_sds {n : Nat} (ss : List (TI.P2 × TI.P2)) : pureDs (n + 2) (ss.map TI.sd) = true := pureDs_map (fun p => by simp [TI.sd, TI.pt, pureD, pureDs]) ss
theorem pure_bls {α : Type} {n : Nat} (f : α → Bool) (ss : List α) : pureDs n (ss.map fun a => D.bl (f a)) = true := pureDs_map (fun p => by cases n <;> rfl) ss
def ph__law_tile_so (cl : Nat → Addr) (w : World) : Ct := fun ds M k _ => ∃ t : TI.Tl, ds = [tileD cl w t, TI.rowD t] ∧ t.Ok ∧ k (.bl true) M
theorem ok__law_tile_so {K : PySem.W.Frag} {mg : Str → Option Value} {ad : Nat → Addr} {fd : Nat → FuncData} {cl : Nat → Addr} {P : Program} {w : World} {base : Heap} (T : Txt K mg ad fd cl) {er : Nat → Addr} {xcs : List Value} (ER : ErT P w K mg base er xcs) : FnOk P w K mg base (L2.CX P w) 16 (ad 41) (fd 41) ["_law_made", "_law_tile"] (spD K 2 (ph__law_tile_so cl w)) := by
  have G_Tile_label := ok_Tile_label (P := P) (w := w) (base := base) T
  have G_Tile_corners := ok_Tile_corners (P := P) (w := w) (base := base) T
  have G_Tile_winds := ok_Tile_winds (P := P) (w := w) (base := base) T
  have G_Tile_sides := ok_Tile_sides (P := P) (w := w) (base := base) T
  have G_Tile___len__ := ok_Tile___len__ (P := P) (w := w) (base := base) T
  have G_Tile___repr__ := ok_Tile___repr__ (P := P) (w := w) (base := base) T
  have G__law_keys := ok__law_keys (P := P) (w := w) (base := base) T
  have G_Tile_lets_in := ok_Tile_lets_in (P := P) (w := w) (base := base) T ER
  have G__law_same := ok__law_same (P := P) (w := w) (base := base) T 5
  have G__law_lets := ok__law_lets (P := P) (w := w) (base := base) T
  refine fn_D T.F__law_tile_so sc__law_tile_so rfl fun cdv A outer s H E hr hp ho => ⟨_, (b_cons (s_set (i := 2) sc__law_tile_so.nd rfl (Or.inl rfl) (d_lst (a_cons (d_propE (dv 0) T.ci_Tile.cl T.pp_Tile_label G_Tile_label (hr.mono (by decide)) T.bb_Tile_label) (a_cons (d_propE (dv 0) T.ci_Tile.cl T.pp_Tile_corners G_Tile_corners (hr.mono (by decide)) T.bb_Tile_corners) (a_cons (d_propE (dv 0) T.ci_Tile.cl T.pp_Tile_winds G_Tile_winds (hr.mono (by decide)) T.bb_Tile_winds) (a_cons (d_meth0 T.ci_Tile.cl T.mt_Tile_sides G_Tile_sides (hr.mono (by decide)) T.kb_Tile_sides_1 (fun us ws h1 h2 => match us, ws, h1, h2 with | [_], [], _, _ => rfl) hp (dv 0) k_nil) (a_cons (d_callB (c_sel (c_lenO T.sp_Tile___len__ T.fn_Tile___len__ G_Tile___len__ T.kb_Tile___len___1 (hr.mono (by decide))) c_len) rfl T.b_len boot_len' (a_cons (dv 0) a_nil)) (a_cons (d_callB (c_reprO T.sp_Tile___repr__ T.fn_Tile___repr__ G_Tile___repr__ T.kb_Tile___repr___1 (hr.mono (by decide))) rfl T.b_repr boot_repr' (a_cons (dv 0) a_nil)) a_nil))))))))
  (b_frz 3 (s_set (i := 3) sc__law_tile_so.nd rfl (Or.inl rfl) (d_lstM (a_cons (d_ix x_ix (dv 1) d_int (fun _ _ => rfl)) (a_cons (d_ix x_ix (dv 1) d_int (fun _ _ => rfl)) (a_cons (d_ix x_ix (dv 1) d_int (fun _ _ => rfl)) (a_cons (d_call G__law_keys (hr.mono (by decide)) rfl T.m__law_keys T.k__law_keys T.kb__law_keys_1 (by intro _ _ h _; exact h) hp (a_cons (dv 1) a_nil)) (a_cons (d_callB (c_sel (c_lenO T.sp_Tile___len__ T.fn_Tile___len__ G_Tile___len__ T.kb_Tile___len___1 (hr.mono (by decide))) c_len) rfl T.b_len boot_len' (a_cons (d_ix x_ix (dv 1) d_int (fun _ _ => rfl)) a_nil)) a_nil))))))) (s_expr (d_bm PySem.F.plainAttrs_list PySem.F.slot_list_append PySem.F.type_list_append m_append (dv 3) (a_cons (d_op o_add (d_op o_add (d_op o_add (d_op o_add d_str (d_ix x_ix (dv 1) d_int (fun _ _ => rfl))) d_str) (d_callTy c_str rfl T.b_str boot_str' (a_cons (d_callB (c_sel (c_lenO T.sp_Tile___len__ T.fn_Tile___len__ G_Tile___len__ T.kb_Tile___len___1 (hr.mono (by decide))) c_len) rfl T.b_len boot_len' (a_cons (d_ix x_ix (dv 1) d_int (fun _ _ => rfl)) a_nil)) a_nil))) d_str) a_nil)))
  (b_cons (s_setLc (i := 4) (own := [("_law_edge", 5)]) rfl sc__law_tile_so.nd rfl rfl (sw_true rfl rfl rfl (by decide +kernel)) (i_seq (d_call G__law_keys (hr.mono (by decide)) rfl T.m__law_keys T.k__law_keys T.kb__law_keys_1 (by intro _ _ h _; exact h) hp (a_cons (dv 1) a_nil))) (blkOk_by (own := [("_law_edge", 5)]) (N := ["_law_made", "_law_tile", "_law_found", "_law_due", "_law_truths", "_law_edge"]) (sc := (defScope st__law_tile_so)) (by decide +kernel)) (gp_name (by decide)) (fun _ _ _ _ _ => (pg_name (i := 5) sc__law_tile_so.nd rfl (Or.inl rfl))) (fun _ _ _ _ _ => ts_nil) (fun _ _ _ _ _ => (d_meth T.ci_Tile.cl T.mt_Tile_lets_in G_Tile_lets_in (hr.mono (by decide)) T.kb_Tile_lets_in_2 (fun us ws h1 h2 => match us, ws, h1, h2 with | [_, _], [], _, _ => rfl) passL (dv 0) (a_cons (dv 5) a_nil) k_nil)))
  (b_one (s_ret (d_and (d_call G__law_same (hr.mono (by decide)) rfl T.m__law_same T.k__law_same T.kb__law_same_2 (by intro _ _ h _; exact h) hp (a_cons (dv 2) (a_cons (dv 3) a_nil))) (d_one (d_call G__law_same (hr.mono (by decide)) rfl T.m__law_same T.k__law_same T.kb__law_same_2 (by intro _ _ h _; exact h) hp (a_cons (dv 4) (a_cons (d_lc (own := [("_law_edge", 5)]) rfl sc__law_tile_so.nd (i_seq (d_call G__law_keys (hr.mono (by decide)) rfl T.m__law_keys T.k__law_keys T.kb__law_keys_1 (by intro _ _ h _; exact h) hp (a_cons (dv 1) a_nil))) (blkOk_by (own := [("_law_edge", 5)]) (N := ["_law_made", "_law_tile", "_law_found", "_law_due", "_law_truths", "_law_edge"]) (sc := (defScope st__law_tile_so)) (by decide +kernel)) (gp_name (by decide)) (fun _ _ _ _ _ => (pg_name (i := 5) sc__law_tile_so.nd rfl (Or.inl rfl))) (fun _ _ _ _ _ => ts_nil) (fun _ _ _ _ _ => (d_call G__law_lets (hr.mono (by decide)) rfl T.m__law_lets T.k__law_lets T.kb__law_lets_2 (by intro _ _ h _; exact h) passL (a_cons (dv 1) (a_cons (dv 5) a_nil))))) a_nil)))))))))), ?_⟩
  clear hp ho hr G_Tile_label G_Tile_corners G_Tile_winds G_Tile_sides G_Tile___len__ G_Tile___repr__ G__law_keys G_Tile_lets_in G__law_same G__law_lets
  rintro ds M k x hl ⟨t, rfl, ok, q⟩
  have hz := ok.cs.hi
  have hn := nm_len ok.nm
  have e : ((t.cs.map TI.pt).length : Int) = t.cs.length := by rw [List.length_map]
  have big : 100000 ≤ sizeLine := by decide
  have l1 : (Str.ofString "Tile(").length = 5 := by decide +kernel
  have l2 : (Str.ofString ", ").length = 2 := by decide +kernel
  have l3 : (Str.ofString " corners)").length = 9 := by decide +kernel
  have l4 := len8 _ hz
  have hlog : ((t.cs.map TI.pt).length : Int).natAbs.log2 < 1920 := by
    rw [e]
    exact Nat.lt_of_le_of_lt (log2_mono (b := 8) (by omega) (by decide)) (by decide)
  refine ⟨_, rfl, ⟨_, rfl⟩, t, rfl, _, rfl, ⟨_, rfl⟩, t, rfl, _, rfl, ⟨_, rfl⟩, t, rfl, _, rfl, _, rfl, rfl, rfl, rfl, t, rfl, hz, _, rfl, _, rfl, ⟨_, rfl⟩, t, rfl, _, rfl, ⟨by omega, by omega⟩, _, rfl, _, rfl, ⟨_, rfl⟩, t, rfl, hn, hz, _, rfl, Nat.le_of_ble_eq_true rfl, ?_⟩
  refine ⟨_, rfl, _, rfl, _, rfl, _, rfl, _, rfl, _, rfl, _, rfl, rfl, _, _, _, t.cs, rfl, rfl, hz, _, rfl, _, rfl, Nat.le_of_ble_eq_true rfl, fun p hp => ?_⟩
  refine ⟨_, rfl, ⟨rfl, _, mup_same⟩, _, rfl, _, rfl, ?_, ?_, _, rfl, _, rfl, hlog, ?_, ?_, _, mup_same, Nat.lt_of_le_of_lt (Nat.le_of_ble_eq_true rfl : 5 ≤ 8) (by decide), ?_⟩
  · show (Str.ofString "Tile(").length + t.nm.length ≤ _; omega
  · rw [Str.length_append]; show (Str.ofString "Tile(").length + t.nm.length + (Str.ofString ", ").length ≤ _; omega
  · rw [e, Str.length_append, Str.length_append]; show (Str.ofString "Tile(").length + t.nm.length + (Str.ofString ", ").length + (Str.ofString (toString (t.cs.length : Int))).length ≤ _; omega
  · rw [e, Str.length_append, Str.length_append, Str.length_append]; show (Str.ofString "Tile(").length + t.nm.length + (Str.ofString ", ").length + (Str.ofString (toString (t.cs.length : Int))).length + (Str.ofString " corners)").length ≤ _; omega
  refine ⟨p, _, hp, mup_same, rfl, ?_⟩
  rw [mup_mup, mdel_mup hp, e]
  refine ⟨_, rfl, rfl, _, _, _, t.cs, rfl, rfl, hz, ?_⟩
  have hsl : (TI.sidesOf t.cs).length ≤ 8 := by
    unfold TI.sidesOf
    rw [List.length_map, TI.pairsOf_length]
    exact hz
  refine lc_mapS (fun s => D.bl (TI.letsB t.cs t.u s)) (by rw [List.length_map]; exact Nat.lt_of_le_of_lt hsl (by decide)) (fun s hs K hK => ⟨_, rfl, _, rfl, rfl, _, rfl, rfl, rfl, t, s, rfl, ok.cs, hs, hK⟩) (fun d K K' => gN_mono K K') ?_
  refine ⟨_, rfl, _, rfl, rfl, sameK rfl ?_ ⟨_, rfl, iteT ?_⟩⟩
  · simp [pureD, pureDs, pure_pts, pure_sds, TI.pt, hsl]
    omega
  refine ⟨_, rfl, _, rfl, rfl, _, _, _, t.cs, rfl, rfl, hz, ?_⟩
  refine lc_mapS (fun s => D.bl (TI.letsB t.cs t.u s)) (by rw [List.length_map]; exact Nat.lt_of_le_of_lt hsl (by decide)) (fun s hs K hK => ⟨_, rfl, _, rfl, rfl, t, s, rfl, ok.cs, ok.u, hs, hK⟩) (fun d K K' => gN_mono K K') ?_
  refine ⟨rfl, sameK rfl ?_ q⟩
  simp [pureD, pure_bls]
  omega
theorem itT {c : Bool} {α : Type} {a b v : α} (h : (if c = true then a else b) = v) (e : c = true) : a = v := by rw [if_pos e] at h; exact h
theorem itF {c : Bool} {α : Type} {a b v : α} (h : (if c = true then a else b) = v) (e : c = false) : b = v := by rw [if_neg (by rw [e]; exact Bool.false_ne_true)] at h; exact h
theorem oneF_of {fs : List (Str × D)} {n : Str} {vals : List D} (h : oneF fs n = some vals) : ∃ d, fs.lookup n = some d ∧ vals = [d] := by
  unfold oneF at h
  obtain ⟨d, h1, h2⟩ := Option.map_eq_some_iff.mp h
  exact ⟨d, h1, h2.symm⟩
theorem twoF_of {fs : List (Str × D)} {n m : Str} {vals : List D} (h : twoF fs n m = some vals) : ∃ d u, fs.lookup n = some d ∧ fs.lookup m = some u ∧ vals = [d, u] := by
  unfold twoF at h
  obtain ⟨d, h1, h2⟩ := Option.bind_eq_some_iff.mp h
  obtain ⟨u, h3, h4⟩ := Option.map_eq_some_iff.mp h2
  exact ⟨d, u, h1, h3, h4.symm⟩
theorem eqC_k {c x : Str} {M : Mm} {k : DK} (q : k (.bl (eqC c x)) M) : EqK (.str c) (.str x) M k := .of (.sc rfl rfl rfl) q
theorem ok__law_fields {K : PySem.W.Frag} {mg : Str → Option Value} {ad : Nat → Addr} {fd : Nat → FuncData} {cl : Nat → Addr} {P : Program} {w : World} {base : Heap} (T : Txt K mg ad fd cl) {cs : List Value} : FnP P w K mg base (ad 42) (fd 42) ["_law_e"] (spE K (GoodX K cs) phF) := by
  refine fn_P T.F__law_fields sc__law_fields fun cdv A outer s H E a oe C dd hG hz hws hu => ⟨_, (b_cons (s_if (t_cmp o_in (d_xf hG.xf (hG.no _ (by simp)) List.mem_cons_self hz hws (dv 0) rfl) (d_tup (a_cons d_str (a_cons d_str (a_cons d_str (a_cons d_str a_nil))))) rfl) (b_one (s_ret (d_tup (a_cons (d_xf hG.xf (hG.no _ (by simp)) List.mem_cons_self hz hws (dv 0) rfl) a_nil)))) b_nil)
  (b_cons (s_if (t_cmp o_in (d_xf hG.xf (hG.no _ (by simp)) List.mem_cons_self hz hws (dv 0) rfl) (d_tup (a_cons d_str (a_cons d_str (a_cons d_str (a_cons d_str a_nil))))) rfl) (b_one (s_ret (d_tup (a_cons (d_if (t_cmp (o_eq hu) (d_xf hG.xf (hG.no _ (by simp)) List.mem_cons_self hz hws (dv 0) rfl) d_str (nomark _)) (d_xf hG.xf (hG.no _ (by simp)) List.mem_cons_self hz hws (dv 0) rfl) (d_if (t_cmp (o_eq hu) (d_xf hG.xf (hG.no _ (by simp)) List.mem_cons_self hz hws (dv 0) rfl) d_str (nomark _)) (d_xf hG.xf (hG.no _ (by simp)) List.mem_cons_self hz hws (dv 0) rfl) (d_xf hG.xf (hG.no _ (by simp)) List.mem_cons_self hz hws (dv 0) rfl))) a_nil)))) b_nil)
  (b_cons (s_if (t_cmp o_in (d_xf hG.xf (hG.no _ (by simp)) List.mem_cons_self hz hws (dv 0) rfl) (d_tup (a_cons d_str (a_cons d_str (a_cons d_str (a_cons d_str a_nil))))) rfl) (b_one (s_ret (d_tup (a_cons (d_xf hG.xf (hG.no _ (by simp)) List.mem_cons_self hz hws (dv 0) rfl) a_nil)))) b_nil)
  (b_cons (s_if (t_cmp o_in (d_xf hG.xf (hG.no _ (by simp)) List.mem_cons_self hz hws (dv 0) rfl) (d_tup (a_cons d_str (a_cons d_str (a_cons d_str (a_cons d_str a_nil))))) rfl) (b_one (s_ret (d_tup (a_cons (d_xf hG.xf (hG.no _ (by simp)) List.mem_cons_self hz hws (dv 0) rfl) a_nil)))) b_nil)
  (b_cons (s_if (t_cmp o_in (d_xf hG.xf (hG.no _ (by simp)) List.mem_cons_self hz hws (dv 0) rfl) (d_tup (a_cons d_str (a_cons d_str a_nil))) rfl) (b_one (s_ret (d_tup (a_cons (d_xf hG.xf (hG.no _ (by simp)) List.mem_cons_self hz hws (dv 0) rfl) a_nil)))) b_nil)
  (b_cons (s_if (t_cmp o_in (d_xf hG.xf (hG.no _ (by simp)) List.mem_cons_self hz hws (dv 0) rfl) (d_tup (a_cons d_str (a_cons d_str (a_cons d_str a_nil)))) rfl) (b_one (s_ret (d_tup (a_cons (d_xf hG.xf (hG.no _ (by simp)) List.mem_cons_self hz hws (dv 0) rfl) (a_cons (d_xf hG.xf (hG.no _ (by simp)) List.mem_cons_self hz hws (dv 0) rfl) a_nil))))) b_nil)
  (b_cons (s_if (t_cmp o_in (d_xf hG.xf (hG.no _ (by simp)) List.mem_cons_self hz hws (dv 0) rfl) (d_tup (a_cons d_str (a_cons d_str a_nil))) rfl) (b_one (s_ret (d_tup (a_cons (d_xf hG.xf (hG.no _ (by simp)) List.mem_cons_self hz hws (dv 0) rfl) a_nil)))) b_nil)
  (b_one (s_ret (d_if (t_cmp (o_eq hu) (d_xf hG.xf (hG.no _ (by simp)) List.mem_cons_self hz hws (dv 0) rfl) d_str (nomark _)) (d_tup (a_cons (d_xf hG.xf (hG.no _ (by simp)) List.mem_cons_self hz hws (dv 0) rfl) a_nil)) (d_tup a_nil))))))))))), ?_⟩
  clear T hG hz hws hu
  rintro ds M k x hl ⟨fs, code, vals, rfl, hc, hv, hlen, q⟩
  have S0 : (10 : Nat) ≤ sizeLine := by decide
  have one : ∀ {n : Str} {k' : DK}, oneF fs n = some vals → k' (.tup vals) M → dTup (dCons (dXf a dd n (dVar 0)) dNil) [some (.exc a dd fs)] M k' x := by
    intro n k' h1 h2
    obtain ⟨d, e1, rfl⟩ := oneF_of h1
    exact ⟨_, rfl, fs, d, rfl, e1, by show 1 ≤ sizeLine; omega, h2⟩
  unfold DL.fieldsOf at hv
  refine ⟨_, rfl, fs, _, rfl, hc, by show 4 ≤ sizeLine; omega, rfl, rfl, _, rfl, ?_⟩
  refine ite_b (fun e => ?_) (fun e => ?_)
  · replace hv := itT hv e
    exact one hv q
  replace hv := itF hv e
  refine ⟨_, rfl, fs, _, rfl, hc, by show 4 ≤ sizeLine; omega, rfl, rfl, _, rfl, ?_⟩
  refine ite_b (fun e => ?_) (fun e => ?_)
  · replace hv := itT hv e
    refine ⟨_, rfl, fs, _, rfl, hc, eqC_k ⟨_, rfl, ?_⟩⟩
    refine ite_b (fun e => ?_) (fun e => ?_)
    · replace hv := itT hv e
      exact one hv q
    replace hv := itF hv e
    refine ⟨_, rfl, fs, _, rfl, hc, eqC_k ⟨_, rfl, ?_⟩⟩
    refine ite_b (fun e => ?_) (fun e => ?_)
    · replace hv := itT hv e
      exact one hv q
    · replace hv := itF hv e
      exact one hv q
  replace hv := itF hv e
  refine ⟨_, rfl, fs, _, rfl, hc, by show 4 ≤ sizeLine; omega, rfl, rfl, _, rfl, ?_⟩
  refine ite_b (fun e => ?_) (fun e => ?_)
  · replace hv := itT hv e
    exact one hv q
  replace hv := itF hv e
  refine ⟨_, rfl, fs, _, rfl, hc, by show 4 ≤ sizeLine; omega, rfl, rfl, _, rfl, ?_⟩
  refine ite_b (fun e => ?_) (fun e => ?_)
  · replace hv := itT hv e
    exact one hv q
  replace hv := itF hv e
  refine ⟨_, rfl, fs, _, rfl, hc, by show 2 ≤ sizeLine; omega, rfl, rfl, _, rfl, ?_⟩
  refine ite_b (fun e => ?_) (fun e => ?_)
  · replace hv := itT hv e
    exact one hv q
  replace hv := itF hv e
  refine ⟨_, rfl, fs, _, rfl, hc, by show 3 ≤ sizeLine; omega, rfl, rfl, _, rfl, ?_⟩
  refine ite_b (fun e => ?_) (fun e => ?_)
  · replace hv := itT hv e
    obtain ⟨d, u, e1, e2, rfl⟩ := twoF_of hv
    exact ⟨_, rfl, fs, d, rfl, e1, _, rfl, fs, u, rfl, e2, by show 2 ≤ sizeLine; omega, q⟩
  replace hv := itF hv e
  refine ⟨_, rfl, fs, _, rfl, hc, by show 2 ≤ sizeLine; omega, rfl, rfl, _, rfl, ?_⟩
  refine ite_b (fun e => ?_) (fun e => ?_)
  · replace hv := itT hv e
    exact one hv q
  replace hv := itF hv e
  refine ⟨_, rfl, fs, _, rfl, hc, eqC_k ⟨_, rfl, ?_⟩⟩
  refine ite_b (fun e => ?_) (fun e => ?_)
  · replace hv := itT hv e
    exact one hv q
  · replace hv := itF hv e
    cases hv
    exact ⟨by show 0 ≤ sizeLine; omega, q⟩
end W12
set_option Elab.async false
set_option linter.all false
set_option maxRecDepth 100000
set_option maxHeartbeats 4000000
set_option pp.deepTerms false
set_option pp.deepTerms.threshold 12
set_option pp.maxSteps 4000
namespace W12
open PySem PySem.Spec PyProof.Rows L2 DL
local macro_rules | `(tactic| walk_at "sc") => `(tactic| first | assumption | rfl | exact Nat.le_of_ble_eq_true rfl | decide | omega | exact mul_small (by omega) (by omega) | exact mul_smallR (by omega) (by omega) | exact ⟨by decide, by decide, by decide⟩ | exact ⟨by omega, by assumption⟩ | exact ⟨by decide, log2_small (by decide) (by decide)⟩)
local macro_rules | `(tactic| walk_at "go1") => `(tactic| first | refine ⟨_, rfl, ?_⟩ | refine ⟨rfl, ?_⟩ | refine ⟨_, by assumption, ?_⟩ | refine ⟨_, mup_same, ?_⟩ | refine eqI ?_ | refine neI ?_ | refine iteT ?_ | refine iteF ?_ | refine ⟨(by walk_at "sc"), ?_⟩)
local macro_rules | `(tactic| walk_at "go") => `(tactic| repeat walk_at "go1")
theorem mup2_at {M0 : Mm} {p r : Addr} {b L : MO} (ne : r ≠ p) : mup (mup M0 p b) r L p = some b := by rw [mup_ne (Ne.symm ne)]; exact mup_same
theorem mup2 {M0 : Mm} {p r : Addr} {b b' L : MO} (ne : r ≠ p) : mup (mup (mup M0 p b) r L) p b' = mup (mup M0 p b') r L := by
  funext a
  by_cases h1 : a = p
  · subst h1
    rw [mup_same, mup_ne (Ne.symm ne), mup_same]
  · by_cases h2 : a = r
    · subst h2
      rw [mup_ne h1, mup_same, mup_same]
    · rw [mup_ne h1, mup_ne h2, mup_ne h1, mup_ne h2, mup_ne h1]
def Cok (z : Str) : Prop := z.cps.toList.all (fun c => decide (c < 0x110000)) = true
theorem Cok.app {a b : Str} (ha : Cok a) (hb : Cok b) : Cok (a ++ b) := by
  show ((a.cps ++ b.cps).toList.all fun c => decide (c < 0x110000)) = true
  rw [Array.toList_append, List.all_append]
  unfold Cok at ha hb
  rw [ha, hb]
  rfl
theorem Cok.cut {a : Str} {lo hi : Option Int} (ha : Cok a) : Cok (cutS a lo hi) := by
  unfold Cok at *
  rw [List.all_eq_true] at *
  exact fun c hc => ha c (List.mem_of_mem_drop (List.mem_of_mem_take hc))
theorem joinL_id : ∀ cs : List Nat, TL.joinL [] (cs.map fun c => [c]) = cs
  | [] => rfl
  | [c] => rfl
  | c :: d :: r => by
    have h := joinL_id (d :: r)
    show [c] ++ ([] ++ TL.joinL [] ((d :: r).map fun c => [c])) = _
    rw [h]
    rfl
theorem join_ck {cs : List Nat} (h : ∀ c ∈ cs, c < 0x110000) : Cok (Txt.join (Str.ofString "") (cs.map fun c => (⟨#[c]⟩ : Str))) := by
  have e : (cs.map fun c => (⟨#[c]⟩ : Str)) = (cs.map fun c => [c]).map SX.S := by
    rw [List.map_map]
    rfl
  have e0 : Str.ofString "" = SX.S [] := by decide +kernel
  rw [e, e0, SX.join_S, joinL_id]
  show (cs.toArray.toList.all _) = true
  rw [List.all_eq_true]
  exact fun c hc => decide_eq_true (h c (by simpa using hc))
theorem joinL_one : ∀ cs : List Nat, (TL.joinL [] (cs.map fun c => [c])).length = cs.length
  | [] => rfl
  | [c] => rfl
  | c :: d :: r => by
    have h := joinL_one (d :: r)
    show ([c] ++ ([] ++ TL.joinL [] ((d :: r).map fun c => [c]))).length = _
    rw [List.length_append, List.nil_append, h]
    simp only [List.length_cons, List.length_nil]
    omega
theorem join_one (cs : List Nat) : (Txt.join (Str.ofString "") (cs.map fun c => (⟨#[c]⟩ : Str))).length = cs.length := by
  have e : (cs.map fun c => (⟨#[c]⟩ : Str)) = (cs.map fun c => [c]).map SX.S := by
    rw [List.map_map]
    rfl
  have e0 : Str.ofString "" = SX.S [] := by decide +kernel
  rw [e, e0, SX.join_S]
  show (TL.joinL [] _).toArray.size = _
  rw [List.size_toArray]
  exact joinL_one cs
theorem perm_map {α β : Type} {f : α → β} {A B : List β} (h : A.Perm B) : ∀ l : List α, A = l.map f → ∃ l' : List α, B = l'.map f ∧ l'.Perm l := by
  induction h with
  | nil =>
    intro l e
    exact ⟨[], rfl, by rw [List.map_eq_nil_iff.mp e.symm]⟩
  | cons x h ih =>
    intro l e
    cases l with
    | nil => cases e
    | cons y l =>
      rw [List.map_cons] at e
      injection e with e1 e2
      obtain ⟨l', e3, h3⟩ := ih l e2
      exact ⟨y :: l', by rw [List.map_cons, e1, e3], h3.cons y⟩
  | swap x y t =>
    intro l e
    cases l with
    | nil => cases e
    | cons a l =>
      cases l with
      | nil => cases e
      | cons b l =>
        rw [List.map_cons, List.map_cons] at e
        injection e with e1 e2
        injection e2 with e2 e3
        exact ⟨b :: a :: l, by rw [List.map_cons, List.map_cons, e1, e2, e3], List.Perm.swap a b l⟩
  | trans h1 h2 ih1 ih2 =>
    intro l e
    obtain ⟨l1, e1, p1⟩ := ih1 l e
    obtain ⟨l2, e2, p2⟩ := ih2 l1 e1
    exact ⟨l2, e2, p2.trans p1⟩
open TI in
def Sm (n : Int) (p : P2) : Prop := (-n ≤ p.1 ∧ p.1 ≤ n) ∧ -n ≤ p.2 ∧ p.2 ≤ n
abbrev Gr := List TI.P2 × (TI.P2 × TI.P2)
def rowG (r : Gr) : D := .tup [.lst (r.1.map TI.pt), .tup [TI.pt r.2.1, TI.pt r.2.2]]
structure RowW (r : Gr) : Prop where
  lo : 3 ≤ r.1.length
  hi : r.1.length ≤ 8
  cs : ∀ p ∈ r.1, Sm 100 p
  u : Sm 3 r.2.1
  v : Sm 3 r.2.2
/-- a drawn tile, bounds alone -/
structure TlW (t : TI.Tl) : Prop where
  nm : t.nm.length ≤ 20
  ck : Cok t.nm
  lo : 3 ≤ t.cs.length
  hi : t.cs.length ≤ 8
  cs : ∀ p ∈ t.cs, Sm 100000000 p
  u : Sm 100000000 t.u
  v : Sm 100000000 t.v
/-- M' has what M has, but for the bag at p -/
def ExtB (p : Addr) (M M' : Mm) (b : Bag) : Prop := (∀ a mo, a ≠ p → M a = some mo → M' a = some mo) ∧ M' p = some b.mo ∧ b.Ok
theorem ExtB.of {p : Addr} {M : Mm} {b : Bag} (h : b.Ok) : ExtB p M (mup M p b.mo) b := ⟨fun a mo ha e => by rw [mup_ne ha]; exact e, mup_same, h⟩
theorem ExtB.trans {p : Addr} {A B C : Mm} {b b' : Bag} (h : ExtB p A B b) (h' : ExtB p B C b') : ExtB p A C b' := ⟨fun a mo ha e => h'.1 a mo ha (h.1 a mo ha e), h'.2.1, h'.2.2⟩
theorem ExtB.ext {p : Addr} {A B C : Mm} {b : Bag} (h : ExtB p A B b) (h' : Ext B C) : ExtB p A C b := ⟨fun a mo ha e => h' _ _ (h.1 a mo ha e), h' _ _ h.2.1, h.2.2⟩
theorem lcY {i : Nat} {ε : DE} {d : D} {ρ : DEnv} {M : Mm} {K : DK} {R : Mm → Prop} {x : DX} (h : ε (ρ.set i (some d)) M K (fun _ _ _ => False)) : gN i d ρ M fun ρ1 M2 => dYes ρ1 M2 (fun b M3 => if b = true then ε ρ1 M3 K (fun _ _ _ => False) else R M3) x := by
  show if true = true then ε (ρ.set i (some d)) M K (fun _ _ _ => False) else R M
  rw [if_pos rfl]
  exact h
theorem pullM {p : Addr} {b : Bag} {M : Mm} {many : Int} {k : DK} {x : DX} (hM : M p = some b.mo) (hb : b.Ok) (h0 : 0 < many) (hz : many ≤ 1000000) (h : ∀ (d : Int) (b' : Bag), 0 ≤ d → d < many → b'.Ok → k (.int d) (mup M p b'.mo)) : ph__law_pull [.cel p, .int many] M k x :=
  ⟨p, b, many, rfl, hM, hb, h0, log2_small h0 (by omega), h⟩
theorem pickM {p : Addr} {b : Bag} {M : Mm} {es : List D} {k : DK} {x : DX} (hM : M p = some b.mo) (hb : b.Ok) (h0 : 0 < es.length) (h1 : es.length ≤ 1000) (h : ∀ d ∈ es, ∀ b' : Bag, b'.Ok → k d (mup M p b'.mo)) : ph__law_pick [.cel p, .lst es] M k x :=
  ⟨p, b, _, rfl, hM, hb, .inl ⟨es, rfl, h0, h1, h⟩⟩
theorem ExtB.up {p : Addr} {M M' : Mm} {b b' : Bag} (h : ExtB p M M' b) (hb : b'.Ok) : ExtB p M (mup M' p b'.mo) b' := h.trans (.of hb)
theorem ExtB.base {p : Addr} {M : Mm} {b : Bag} (hm : M p = some b.mo) (hb : b.Ok) : ExtB p M M b := ⟨fun _ _ _ h => h, hm, hb⟩
theorem dicIs_ext {u : D} {M M' : Mm} {w : World} {es : List (NestedKey × D)} (h : DicIs u M w es) (hx : ∀ a o, u = .cel a → M a = some o → M' a = some o) : DicIs u M' w es := by
  rcases h with h | ⟨a, e, hm⟩
  · exact .inl h
  · exact .inr ⟨a, e, hx _ _ e hm⟩
def shapes : List (List Int) := [[1, 0, 0, 1], [1, 1, 0, 1], [0, -1, 1, 0], [2, 1, 1, 1], [1, -1, 1, 2], [3, 1, -1, 1]]
def shD (s : List Int) : D := .tup (s.map .int)
def ph__law_shapes : Ct := fun ds M k _ => ds = [] ∧ k (.lst (shapes.map shD)) M
theorem ok__law_shapes {K : PySem.W.Frag} {mg : Str → Option Value} {ad : Nat → Addr} {fd : Nat → FuncData} {cl : Nat → Addr} {P : Program} {w : World} {base : Heap} (T : Txt K mg ad fd cl) : FnOk P w K mg base (L2.CX P w) 1 (ad 43) (fd 43) [] (spD K 0 ph__law_shapes) := by
  refine fn_D T.F__law_shapes sc__law_shapes rfl fun cdv A outer s H E hr hp ho => ⟨_, (b_one (s_ret (d_lst (a_cons (d_tup (a_cons d_int (a_cons d_int (a_cons d_int (a_cons d_int a_nil))))) (a_cons (d_tup (a_cons d_int (a_cons d_int (a_cons d_int (a_cons d_int a_nil))))) (a_cons (d_tup (a_cons d_int (a_cons (d_un o_neg d_int) (a_cons d_int (a_cons d_int a_nil))))) (a_cons (d_tup (a_cons d_int (a_cons d_int (a_cons d_int (a_cons d_int a_nil))))) (a_cons (d_tup (a_cons d_int (a_cons (d_un o_neg d_int) (a_cons d_int (a_cons d_int a_nil))))) (a_cons (d_tup (a_cons d_int (a_cons d_int (a_cons (d_un o_neg d_int) (a_cons d_int a_nil))))) a_nil))))))))), ?_⟩
  clear hp ho hr
  rintro ds M k x hl ⟨rfl, q⟩
  exact ⟨Nat.le_of_ble_eq_true rfl, Nat.le_of_ble_eq_true rfl, Nat.le_of_ble_eq_true rfl, Nat.le_of_ble_eq_true rfl, Nat.le_of_ble_eq_true rfl, Nat.le_of_ble_eq_true rfl, Nat.le_of_ble_eq_true rfl, q⟩
def ph__law_new_names : Ct := fun ds M k _ => ∃ (p : Addr) (b : Bag) (many : Nat), ds = [.cel p, .int many] ∧ M p = some b.mo ∧ b.Ok ∧ 0 < many ∧ many ≤ 200 ∧ ∀ (zs : List Str) (b' : Bag), zs.length = many → (∀ z ∈ zs, z.length ≤ 20 ∧ Cok z) → b'.Ok → k (.lst (zs.map .str)) (mup M p b'.mo)
theorem ok__law_new_names {K : PySem.W.Frag} {mg : Str → Option Value} {ad : Nat → Addr} {fd : Nat → FuncData} {cl : Nat → Addr} {P : Program} {w : World} {base : Heap} (T : Txt K mg ad fd cl) : FnOk P w K mg base (L2.CX P w) 5 (ad 44) (fd 44) ["_law_bag", "_law_many"] (spD K 2 ph__law_new_names) := by
  have G__law_pull := ok__law_pull (P := P) (w := w) (base := base) T
  have G__law_pick := ok__law_pick (P := P) (w := w) (base := base) T
  refine fn_D T.F__law_new_names sc__law_new_names rfl fun cdv A outer s H E hr hp ho => ⟨_, (b_cons (s_set (i := 2) sc__law_new_names.nd rfl (Or.inr rfl) d_str)
  (b_cons (s_set (i := 3) sc__law_new_names.nd rfl (Or.inr rfl) (d_bm PySem.F.plainAttrs_str PySem.F.slot_str_join PySem.F.type_str_join m_join d_str (a_cons (d_lc (own := [("_law_k", 4)]) rfl sc__law_new_names.nd (i_range1 rfl T.b_range (a_cons (d_call G__law_pull (hr.mono (by decide)) rfl T.m__law_pull T.k__law_pull T.kb__law_pull_2 (by intro _ _ h _; exact h) hp (a_cons (dv 0) (a_cons d_int a_nil))) a_nil)) (blkOk_by (own := [("_law_k", 4)]) (N := ["_law_bag", "_law_many", "_law_letters", "_law_stem", "_law_k", "_law_at", "_law_first_k"]) (sc := (defScope st__law_new_names)) (by decide +kernel)) (gp_name (by decide)) (fun _ _ _ _ _ => (pg_name (i := 4) sc__law_new_names.nd rfl (Or.inl rfl))) (fun _ _ _ _ _ => ts_nil) (fun _ _ _ _ _ => (d_call G__law_pick (hr.mono (by decide)) rfl T.m__law_pick T.k__law_pick T.kb__law_pick_2 (by intro _ _ h _; exact h) passL (a_cons (dv 0) (a_cons (dv 2) a_nil))))) a_nil)))
  (b_cons (s_asg (d_tup (a_cons (d_call G__law_pull (hr.mono (by decide)) rfl T.m__law_pull T.k__law_pull T.kb__law_pull_2 (by intro _ _ h _; exact h) hp (a_cons (dv 0) (a_cons (d_op o_add (d_callB c_len rfl T.b_len boot_len' (a_cons (dv 3) a_nil)) d_int) a_nil))) (a_cons (d_call G__law_pull (hr.mono (by decide)) rfl T.m__law_pull T.k__law_pull T.kb__law_pull_2 (by intro _ _ h _; exact h) hp (a_cons (dv 0) (a_cons d_int a_nil))) a_nil))) (g_tup (n := 2) rfl (gs_cons (g_name (i := 5) sc__law_new_names.nd rfl (Or.inr rfl)) (gs_cons (g_name (i := 6) sc__law_new_names.nd rfl (Or.inr rfl)) gs_nil))))
  (b_one (s_ret (d_lc (own := [("_law_k", 4)]) rfl sc__law_new_names.nd (i_range1 rfl T.b_range (a_cons (dv 1) a_nil)) (blkOk_by (own := [("_law_k", 4)]) (N := ["_law_bag", "_law_many", "_law_letters", "_law_stem", "_law_k", "_law_at", "_law_first_k"]) (sc := (defScope st__law_new_names)) (by decide +kernel)) (gp_name (by decide)) (fun _ _ _ _ _ => (pg_name (i := 4) sc__law_new_names.nd rfl (Or.inl rfl))) (fun _ _ _ _ _ => ts_nil) (fun _ _ _ _ _ => (d_op o_add (d_op o_add (d_slice sl_D (dv 3) o_none (o_some (dv 5))) (d_ix x_ix (dv 2) (d_op o_mod (d_callTy c_int rfl T.b_int boot_int' (a_cons (d_op o_add (dv 6) (d_op o_mul d_int (dv 4))) a_nil)) d_int) (fun _ _ => rfl))) (d_slice sl_D (dv 3) (o_some (dv 5)) o_none))))))))), ?_⟩
  clear hp ho hr G__law_pull G__law_pick
  rintro ds M k x hl ⟨p, b, many, rfl, hm, hb, h0, h1, q⟩
  have big : 1000 ≤ sizeLine := by decide
  have hlet : (Str.ofString "abcdefghijklmnopqrstuvwxyz").length = 26 := by decide +kernel
  have hL : ∀ c ∈ (Str.ofString "abcdefghijklmnopqrstuvwxyz").cps.toList, c < 0x110000 := by decide +kernel
  refine ⟨rfl, _, rfl, rfl, pullM hm hb (by decide) (by decide) fun n b1 n0 n1 hb1 => ⟨_, rfl, by omega, by omega, ?_⟩⟩
  refine LcK.of (by rw [upto_length]; omega) (fun j acc M' => ∃ (cs : List Nat) (b' : Bag), acc = (cs.map fun c => D.str ⟨#[c]⟩) ∧ cs.length = j ∧ b'.Ok ∧ M' = mup M p b'.mo ∧ ∀ c ∈ cs, c < 0x110000) ⟨[], b1, rfl, rfl, hb1, rfl, nofun⟩ ?_ ?_
  · rintro j d acc M' hd ⟨cs, b', rfl, rfl, hb', rfl, hck⟩
    refine lcY ?_
    refine ⟨_, rfl, _, rfl, rfl, p, b', _, rfl, mup_same, hb', .inr ⟨_, rfl, by rw [hlet]; decide, by rw [hlet]; decide, fun c hc b'' hb'' => ?_⟩⟩
    rw [mup_mup]
    exact ⟨cs ++ [c], b'', by simp, by simp, hb'', rfl, fun z hz => by
      rcases List.mem_append.mp hz with y | y
      · exact hck z y
      · rw [List.mem_singleton.mp y]; exact hL c hc⟩
  · rintro acc M' ⟨cs, b', rfl, hlen, hb', rfl, hck⟩
    rw [upto_length] at hlen
    have hst := join_one cs
    have hsk := join_ck hck
    refine ⟨Str.ofString "", cs.map (fun c => (⟨#[c]⟩ : Str)), rfl, by rw [List.map_map]; rfl, ?_, ?_⟩
    · have e0 : (Str.ofString "").length = 0 := by decide +kernel
      have e1 : ∀ l : List Nat, ((l.map (fun c => (⟨#[c]⟩ : Str))).map (·.length)).sum = l.length := by
        intro l
        induction l with
        | nil => rfl
        | cons a l ih =>
          rw [List.map_cons, List.map_cons, List.sum_cons, ih, List.length_cons]
          show 1 + _ = _
          omega
      rw [e1, e0, Nat.mul_zero, hlen]
      omega
    generalize Txt.join (Str.ofString "") (cs.map fun c => (⟨#[c]⟩ : Str)) = stem at hst hsk
    have hs7 : stem.length ≤ 6 := by omega
    refine ⟨_, rfl, _, rfl, by omega, rfl, pullM mup_same hb' (by omega) (by omega) fun at_ b2 a0 a1 hb2 => ?_⟩
    rw [mup_mup]
    refine ⟨_, rfl, rfl, pullM mup_same hb2 (by decide) (by decide) fun f b3 f0 f1 hb3 => ⟨Nat.le_of_ble_eq_true rfl, ?_⟩⟩
    rw [mup_mup]
    refine ⟨_, rfl, rfl, _, _, rfl, _, _, rfl, rfl, ?_⟩
    refine ⟨_, rfl, _, rfl, by omega, by omega, ?_⟩
    dsimp only
    rw [Int.toNat_natCast, upto0]
    refine LcK.of (by rw [List.length_map, List.length_range]; omega) (fun j acc M' => ∃ zs : List Str, acc = zs.map D.str ∧ zs.length = j ∧ (∀ z ∈ zs, z.length ≤ 20 ∧ Cok z) ∧ M' = mup M p b3.mo) ⟨[], rfl, rfl, nofun, rfl⟩ ?_ ?_
    · rintro j d acc M' hd ⟨zs, rfl, rfl, hz, rfl⟩
      obtain ⟨i, hi, rfl⟩ := map_get hd
      have hi2 : i < many := by
        obtain ⟨h3, h4⟩ := List.getElem?_eq_some_iff.mp hi
        rw [List.getElem_range] at h4
        rw [List.length_range] at h3
        omega
      refine lcY ?_
      have hf : 0 ≤ (f + 7 * (i : Int)).fmod 26 ∧ (f + 7 * (i : Int)).fmod 26 < 26 := fmod_lt' (by decide)
      obtain ⟨c, hc, hcm⟩ := atI_some (xs := (Str.ofString "abcdefghijklmnopqrstuvwxyz").cps.toList) hf.1 (by
        have : ((Str.ofString "abcdefghijklmnopqrstuvwxyz").cps.toList.length : Int) = 26 := by decide +kernel
        omega)
      have k1 := cutS_length stem none (some at_)
      have k2 := cutS_length stem (some at_) none
      have l1 : (⟨#[c]⟩ : Str).length = 1 := rfl
      refine ⟨_, rfl, _, rfl, _, rfl, by omega, _, rfl, _, rfl, _, rfl, TI.mul2 (by decide) (by decide), (show (26 : Int) ≠ 0 by decide), by rw [hlet]; omega, c, hc, by omega, _, rfl, _, rfl, _, rfl, by omega, by rw [Str.length_append]; omega, ?_⟩
      refine ⟨zs ++ [cutS stem none (some at_) ++ ⟨#[c]⟩ ++ cutS stem (some at_) none], by simp, by simp, fun z hz' => ?_, rfl⟩
      rcases List.mem_append.mp hz' with y | y
      · exact hz z y
      · rw [List.mem_singleton.mp y]
        refine ⟨by rw [Str.length_append, Str.length_append]; omega, (hsk.cut.app ?_).app hsk.cut⟩
        show ([c].all fun c => decide (c < 0x110000)) = true
        simp only [List.all_cons, List.all_nil, Bool.and_true]
        exact decide_eq_true (hL c hcm)
    · rintro acc M' ⟨zs, rfl, hzl, hz, rfl⟩
      rw [List.length_map, List.length_range] at hzl
      exact q zs b3 hzl hz hb3
def mv (a b c d : Int) (p : TI.P2) : TI.P2 := (a * p.1 + b * p.2, c * p.1 + d * p.2)
def ph__law_moved : Ct := fun ds M k _ => ∃ (s : List Int) (p : TI.P2) (a b c d : Int), ds = [shD s, TI.pt p] ∧ s = [a, b, c, d] ∧ (-3 ≤ a ∧ a ≤ 3) ∧ (-3 ≤ b ∧ b ≤ 3) ∧ (-3 ≤ c ∧ c ≤ 3) ∧ (-3 ≤ d ∧ d ≤ 3) ∧ k (TI.pt (mv a b c d p)) M
theorem ok__law_moved {K : PySem.W.Frag} {mg : Str → Option Value} {ad : Nat → Addr} {fd : Nat → FuncData} {cl : Nat → Addr} {P : Program} {w : World} {base : Heap} (T : Txt K mg ad fd cl) : FnOk P w K mg base (L2.CX P w) 1 (ad 45) (fd 45) ["_law_shape", "_law_dot"] (spD K 2 ph__law_moved) := by
  refine fn_D T.F__law_moved sc__law_moved rfl fun cdv A outer s H E hr hp ho => ⟨_, (b_one (s_ret (d_tup (a_cons (d_op o_add (d_op o_mul (d_ix x_ix (dv 0) d_int (fun _ _ => rfl)) (d_ix x_ix (dv 1) d_int (fun _ _ => rfl))) (d_op o_mul (d_ix x_ix (dv 0) d_int (fun _ _ => rfl)) (d_ix x_ix (dv 1) d_int (fun _ _ => rfl)))) (a_cons (d_op o_add (d_op o_mul (d_ix x_ix (dv 0) d_int (fun _ _ => rfl)) (d_ix x_ix (dv 1) d_int (fun _ _ => rfl))) (d_op o_mul (d_ix x_ix (dv 0) d_int (fun _ _ => rfl)) (d_ix x_ix (dv 1) d_int (fun _ _ => rfl)))) a_nil))))), ?_⟩
  clear hp ho hr
  rintro ds M k x hl ⟨s, p, a, b, c, d, rfl, rfl, h1, h2, h3, h4, q⟩
  have m : ∀ {i j : Int}, -3 ≤ i ∧ i ≤ 3 → DL.MulOk i j := fun h => TI.mul2 (by omega) (by omega)
  exact ⟨_, rfl, _, rfl, _, rfl, _, rfl, m h1, _, rfl, _, rfl, _, rfl, _, rfl, m h2, _, rfl, _, rfl, _, rfl, _, rfl, m h3, _, rfl, _, rfl, _, rfl, _, rfl, m h4, Nat.le_of_ble_eq_true rfl, q⟩
def ph__law_shuffled : Ct := fun ds M k _ => ∃ (p : Addr) (b : Bag) (S : List D), ds = [.cel p, .lst S] ∧ M p = some b.mo ∧ b.Ok ∧ S.length ≤ 1000 ∧ ∀ (T : List D) (b' : Bag), b'.Ok → T.Perm S → k (.lst T) (mup M p b'.mo)
theorem ok__law_shuffled {K : PySem.W.Frag} {mg : Str → Option Value} {ad : Nat → Addr} {fd : Nat → FuncData} {cl : Nat → Addr} {P : Program} {w : World} {base : Heap} (T : Txt K mg ad fd cl) : FnOk P w K mg base (L2.CX P w) 3 (ad 46) (fd 46) ["_law_bag", "_law_things"] (spD K 2 ph__law_shuffled) := by
  have G__law_pull := ok__law_pull (P := P) (w := w) (base := base) T
  refine fn_D T.F__law_shuffled sc__law_shuffled rfl fun cdv A outer s H E hr hp ho => ⟨_, (b_cons (s_set (i := 2) sc__law_shuffled.nd rfl (Or.inl rfl) (d_lstM a_nil))
  (b_cons (s_for ho rfl (i_seq (dv 1)) (g_name (i := 3) sc__law_shuffled.nd rfl (Or.inl rfl))
  (b_one (s_expr (d_bm PySem.F.plainAttrs_list PySem.F.slot_list_insert PySem.F.type_list_insert m_insert (dv 2) (a_cons (d_call G__law_pull (hr.mono (by decide)) rfl T.m__law_pull T.k__law_pull T.kb__law_pull_2 (by intro _ _ h _; exact h) hp (a_cons (dv 0) (a_cons (d_op o_add (d_callB c_len rfl T.b_len boot_len' (a_cons (dv 2) a_nil)) d_int) a_nil))) (a_cons (dv 3) a_nil))))))
  (b_one (s_retZ (dv 2))))), ?_⟩
  clear hp ho hr G__law_pull
  rintro ds M k x hl ⟨p, b, S, rfl, hm, hb, hz, q⟩
  refine ⟨Nat.zero_le _, fun r hr => ?_⟩
  have ne : r ≠ p := fun z => by rw [z, hm] at hr; cases hr
  refine ⟨_, rfl, ?_⟩
  refine ForK.of (fun j ρ M' => ∃ (T : List D) (b : Bag) (r3 : Option D), b.Ok ∧ T.Perm (S.take j) ∧ M' = mup (mup M p b.mo) r (.lst T) ∧ ρ = [some (.cel p), some (.lst S), some (.cel r), r3]) ?_ ?_ ?_
  · exact ⟨[], b, _, hb, .nil, by rw [← mup_of hm], rfl⟩
  · rintro j s ρ M' hs ⟨T, b, r3, hb, hT, rfl, rfl⟩
    have lT : T.length ≤ S.length := by rw [hT.length_eq, List.length_take]; omega
    refine ⟨_, rfl, ⟨rfl, _, mup_same⟩, _, rfl, _, rfl, _, mup_same, ?_⟩
    refine ⟨rfl, p, b, _, rfl, mup2_at ne, hb, by omega, log2_small (by omega) (by omega), fun i b1 i0 i1 hb1 => ?_⟩
    rw [mup2 ne]
    refine ⟨_, rfl, _, mup_same, ?_, i0, by omega, ?_⟩
    · exact Nat.lt_of_le_of_lt (Nat.le_trans lT hz) (by decide)
    refine ⟨T.take i.toNat ++ [s] ++ T.drop i.toNat, b1, _, hb1, ?_, ?_, rfl⟩
    · have h1 : (T.take i.toNat ++ [s] ++ T.drop i.toNat).Perm (T ++ [s]) := by
        rw [List.append_assoc]
        refine (List.perm_append_comm_assoc _ _ _).trans ?_
        rw [List.take_append_drop]
        exact List.perm_append_comm
      refine h1.trans ?_
      rw [List.take_succ, hs]
      exact hT.append_right _
    · rw [mup_mup]
  · rintro ρ M' ⟨T, b, r3, hb, hT, rfl, rfl⟩
    rw [List.take_length] at hT
    refine ⟨_, rfl, r, _, rfl, mup_same, hr, ?_⟩
    show k _ (mdel (mup _ r _) r)
    rw [mdel_mup (by rw [mup_ne ne]; exact hr)]
    exact q T b hb hT
theorem shape_of {s : List Int} (h : s ∈ shapes) : ∃ a b c d : Int, s = [a, b, c, d] ∧ (-3 ≤ a ∧ a ≤ 3) ∧ (-3 ≤ b ∧ b ≤ 3) ∧ (-3 ≤ c ∧ c ≤ 3) ∧ (-3 ≤ d ∧ d ≤ 3) := by
  simp only [shapes, List.mem_cons, List.not_mem_nil, or_false] at h
  rcases h with rfl | rfl | rfl | rfl | rfl | rfl <;> exact ⟨_, _, _, _, rfl, by decide, by decide, by decide, by decide⟩
theorem mul_b {a x n m : Int} (ha : -n ≤ a ∧ a ≤ n) (hx : -m ≤ x ∧ x ≤ m) (hn : 0 ≤ n) (hm : 0 ≤ m) : -(n * m) ≤ a * x ∧ a * x ≤ n * m := by
  have h1 : (a * x).natAbs ≤ n.natAbs * m.natAbs := by
    rw [Int.natAbs_mul]
    exact Nat.mul_le_mul (by omega) (by omega)
  have h2 : (n * m).natAbs = n.natAbs * m.natAbs := Int.natAbs_mul n m
  have h3 : 0 ≤ n * m := Int.mul_nonneg hn hm
  omega
theorem mv_sm {a b c d n : Int} {p : TI.P2} (h1 : -3 ≤ a ∧ a ≤ 3) (h2 : -3 ≤ b ∧ b ≤ 3) (h3 : -3 ≤ c ∧ c ≤ 3) (h4 : -3 ≤ d ∧ d ≤ 3) (hn : 0 ≤ n) (hp : Sm n p) : Sm (6 * n) (mv a b c d p) := by
  obtain ⟨x1, x2⟩ := hp
  have e1 := mul_b h1 x1 (by decide) hn
  have e2 := mul_b h2 x2 (by decide) hn
  have e3 := mul_b h3 x1 (by decide) hn
  have e4 := mul_b h4 x2 (by decide) hn
  unfold mv Sm
  dsimp only
  omega
theorem mem_cutD {α : Type} {xs : List α} {lo hi : Option Int} {v : α} (h : v ∈ DL.cutD xs lo hi) : v ∈ xs := List.mem_of_mem_drop (List.mem_of_mem_take h)
theorem rot_len {α : Type} (xs : List α) {n : Nat} (h : n ≤ xs.length) : (DL.cutD xs (some (n : Int)) none ++ DL.cutD xs none (some (n : Int))).length = xs.length := by
  unfold DL.cutD
  rw [HT.sIx_none, HT.sIx_none, HT.sIx_nat, HT.sIx_nat, Nat.min_eq_left h]
  simp only [List.length_append, List.length_take, List.length_drop]
  omega
def ph__law_finished : Ct := fun ds M k _ => ∃ (p : Addr) (b : Bag) (rs : List Gr), ds = [.cel p, .lst (rs.map rowG)] ∧ M p = some b.mo ∧ b.Ok ∧ (∀ r ∈ rs, RowW r) ∧ 1 ≤ rs.length ∧ rs.length ≤ 128 ∧ ∀ (M' : Mm) (b' : Bag) (ts : List TI.Tl), ExtB p M M' b' → (∀ t ∈ ts, TlW t) → 1 ≤ ts.length → ts.length ≤ 128 → k (.tup [.lst (ts.map TI.rowD), .lst []]) M'
theorem ok__law_finished {K : PySem.W.Frag} {mg : Str → Option Value} {ad : Nat → Addr} {fd : Nat → FuncData} {cl : Nat → Addr} {P : Program} {w : World} {base : Heap} (T : Txt K mg ad fd cl) : FnOk P w K mg base (L2.CX P w) 7 (ad 47) (fd 47) ["_law_bag", "_law_rows"] (spD K 2 ph__law_finished) := by
  have G__law_pick := ok__law_pick (P := P) (w := w) (base := base) T
  have G__law_shapes := ok__law_shapes (P := P) (w := w) (base := base) T
  have G__law_pull := ok__law_pull (P := P) (w := w) (base := base) T
  have G__law_new_names := ok__law_new_names (P := P) (w := w) (base := base) T
  have G__law_moved := ok__law_moved (P := P) (w := w) (base := base) T
  have G__law_shuffled := ok__law_shuffled (P := P) (w := w) (base := base) T
  refine fn_D T.F__law_finished sc__law_finished rfl fun cdv A outer s H E hr hp ho => ⟨_, (b_cons (s_set (i := 2) sc__law_finished.nd rfl (Or.inr rfl) (d_call G__law_pick (hr.mono (by decide)) rfl T.m__law_pick T.k__law_pick T.kb__law_pick_2 (by intro _ _ h _; exact h) hp (a_cons (dv 0) (a_cons (d_call0 G__law_shapes (hr.mono (by decide)) rfl T.m__law_shapes T.k__law_shapes T.kb__law_shapes_0 rfl hp) a_nil))))
  (b_cons (s_asg (d_tup (a_cons (d_call G__law_pick (hr.mono (by decide)) rfl T.m__law_pick T.k__law_pick T.kb__law_pick_2 (by intro _ _ h _; exact h) hp (a_cons (dv 0) (a_cons (d_lst (a_cons d_int (a_cons d_int (a_cons d_int (a_cons d_int (a_cons d_int a_nil)))))) a_nil))) (a_cons (d_call G__law_pick (hr.mono (by decide)) rfl T.m__law_pick T.k__law_pick T.kb__law_pick_2 (by intro _ _ h _; exact h) hp (a_cons (dv 0) (a_cons (d_lst (a_cons d_int (a_cons d_int (a_cons d_int a_nil)))) a_nil))) a_nil))) (g_tup (n := 2) rfl (gs_cons (g_name (i := 3) sc__law_finished.nd rfl (Or.inr rfl)) (gs_cons (g_name (i := 4) sc__law_finished.nd rfl (Or.inr rfl)) gs_nil))))
  (b_cons (s_set (i := 5) sc__law_finished.nd rfl (Or.inr rfl) (d_tup (a_cons (d_op o_sub (d_call G__law_pull (hr.mono (by decide)) rfl T.m__law_pull T.k__law_pull T.kb__law_pull_2 (by intro _ _ h _; exact h) hp (a_cons (dv 0) (a_cons d_int a_nil))) d_int) (a_cons (d_op o_sub (d_call G__law_pull (hr.mono (by decide)) rfl T.m__law_pull T.k__law_pull T.kb__law_pull_2 (by intro _ _ h _; exact h) hp (a_cons (dv 0) (a_cons d_int a_nil))) d_int) a_nil))))
  (b_frz 7 (s_par (i := 6) (j := 7) rfl sc__law_finished.nd rfl rfl (by decide) rfl rfl (a_cons (d_call G__law_new_names (hr.mono (by decide)) rfl T.m__law_new_names T.k__law_new_names T.kb__law_new_names_2 (by intro _ _ h _; exact h) hp (a_cons (dv 0) (a_cons (d_callB c_len rfl T.b_len boot_len' (a_cons (dv 1) a_nil)) a_nil))) (a_cons (d_lstM a_nil) a_nil)) rfl) (s_for ho rfl (i_range1 rfl T.b_range (a_cons (d_callB c_len rfl T.b_len boot_len' (a_cons (dv 1) a_nil)) a_nil)) (g_name (i := 8) sc__law_finished.nd rfl (Or.inl rfl))
  (b_cons (s_setLc (i := 9) (own := [("_law_dot", 10)]) rfl sc__law_finished.nd rfl rfl (sw_true rfl rfl rfl (by decide +kernel)) (i_seq (d_ix x_ix (d_ix x_ix (dv 1) (dv 8) (fun _ _ => rfl)) d_int (fun _ _ => rfl))) (blkOk_by (own := [("_law_dot", 10)]) (N := ["_law_bag", "_law_rows", "_law_shape", "_law_size", "_law_gust", "_law_off", "_law_names", "_law_found", "_law_k", "_law_dots", "_law_dot", "_law_by", "_law_gusts", "_law_wind"]) (sc := (defScope st__law_finished)) (by decide +kernel)) (gp_name (by decide)) (fun _ _ _ _ _ => (pg_name (i := 10) sc__law_finished.nd rfl (Or.inl rfl))) (fun _ _ _ _ _ => ts_nil) (fun _ _ _ _ _ => (d_call G__law_moved (hr.mono (by decide)) rfl T.m__law_moved T.k__law_moved T.kb__law_moved_2 (by intro _ _ h _; exact h) passL (a_cons (dv 2) (a_cons (dv 10) a_nil)))))
  (b_cons (s_setLc (i := 9) (own := [("_law_dot", 10)]) rfl sc__law_finished.nd rfl rfl (sw_true rfl rfl rfl (by decide +kernel)) (i_seq (dv 9)) (blkOk_by (own := [("_law_dot", 10)]) (N := ["_law_bag", "_law_rows", "_law_shape", "_law_size", "_law_gust", "_law_off", "_law_names", "_law_found", "_law_k", "_law_dots", "_law_dot", "_law_by", "_law_gusts", "_law_wind"]) (sc := (defScope st__law_finished)) (by decide +kernel)) (gp_name (by decide)) (fun _ _ _ _ _ => (pg_name (i := 10) sc__law_finished.nd rfl (Or.inl rfl))) (fun _ _ _ _ _ => ts_nil) (fun _ _ _ _ _ => (d_tup (a_cons (d_op o_add (d_ix x_ix (dv 5) d_int (fun _ _ => rfl)) (d_op o_mul (dv 3) (d_ix x_ix (dv 10) d_int (fun _ _ => rfl)))) (a_cons (d_op o_add (d_ix x_ix (dv 5) d_int (fun _ _ => rfl)) (d_op o_mul (dv 3) (d_ix x_ix (dv 10) d_int (fun _ _ => rfl)))) a_nil)))))
  (b_cons (s_set (i := 11) sc__law_finished.nd rfl (Or.inl rfl) (d_call G__law_pull (hr.mono (by decide)) rfl T.m__law_pull T.k__law_pull T.kb__law_pull_2 (by intro _ _ h _; exact h) hp (a_cons (dv 0) (a_cons (d_callB c_len rfl T.b_len boot_len' (a_cons (dv 9) a_nil)) a_nil))))
  (b_cons (s_setLc (i := 12) (own := [("_law_wind", 13)]) rfl sc__law_finished.nd rfl rfl (sw_true rfl rfl rfl (by decide +kernel)) (i_seq (d_ix x_ix (d_ix x_ix (dv 1) (dv 8) (fun _ _ => rfl)) d_int (fun _ _ => rfl))) (blkOk_by (own := [("_law_wind", 13)]) (N := ["_law_bag", "_law_rows", "_law_shape", "_law_size", "_law_gust", "_law_off", "_law_names", "_law_found", "_law_k", "_law_dots", "_law_dot", "_law_by", "_law_gusts", "_law_wind"]) (sc := (defScope st__law_finished)) (by decide +kernel)) (gp_name (by decide)) (fun _ _ _ _ _ => (pg_name (i := 13) sc__law_finished.nd rfl (Or.inl rfl))) (fun _ _ _ _ _ => ts_nil) (fun _ _ _ _ _ => (d_call G__law_moved (hr.mono (by decide)) rfl T.m__law_moved T.k__law_moved T.kb__law_moved_2 (by intro _ _ h _; exact h) passL (a_cons (dv 2) (a_cons (dv 13) a_nil)))))
  (b_cons (s_set (i := 12) sc__law_finished.nd rfl (Or.inl rfl) (d_callTy c_tuple rfl T.b_tuple boot_tuple' (a_cons (d_lc (own := [("_law_wind", 13)]) rfl sc__law_finished.nd (i_seq (dv 12)) (blkOk_by (own := [("_law_wind", 13)]) (N := ["_law_bag", "_law_rows", "_law_shape", "_law_size", "_law_gust", "_law_off", "_law_names", "_law_found", "_law_k", "_law_dots", "_law_dot", "_law_by", "_law_gusts", "_law_wind"]) (sc := (defScope st__law_finished)) (by decide +kernel)) (gp_name (by decide)) (fun _ _ _ _ _ => (pg_name (i := 13) sc__law_finished.nd rfl (Or.inl rfl))) (fun _ _ _ _ _ => ts_nil) (fun _ _ _ _ _ => (d_tup (a_cons (d_op o_mul (dv 4) (d_ix x_ix (dv 13) d_int (fun _ _ => rfl))) (a_cons (d_op o_mul (dv 4) (d_ix x_ix (dv 13) d_int (fun _ _ => rfl))) a_nil))))) a_nil)))
  (b_one (s_expr (d_bm PySem.F.plainAttrs_list PySem.F.slot_list_append PySem.F.type_list_append m_append (dv 7) (a_cons (d_tup (a_cons (d_ix x_ix (dv 6) (dv 8) (fun _ _ => rfl)) (a_cons (d_callTy c_tuple rfl T.b_tuple boot_tuple' (a_cons (d_op o_add (d_slice sl_D (dv 9) (o_some (dv 11)) o_none) (d_slice sl_D (dv 9) o_none (o_some (dv 11)))) a_nil)) (a_cons (dv 12) a_nil)))) a_nil))))))))))
  (b_one (s_ret (d_tup (a_cons (d_call G__law_shuffled (hr.mono (by decide)) rfl T.m__law_shuffled T.k__law_shuffled T.kb__law_shuffled_2 (by intro _ _ h _; exact h) hp (a_cons (dv 0) (a_cons (dv 7) a_nil))) (a_cons (d_lst a_nil) a_nil))))))))), ?_⟩
  clear hp ho hr G__law_pick G__law_shapes G__law_pull G__law_new_names G__law_moved G__law_shuffled
  rintro ds M k x hl ⟨p, b, rs, rfl, hm, hb, hr, h1, h2, q⟩
  have big : 1000 ≤ sizeLine := by decide
  refine ⟨_, rfl, rfl, rfl, rfl, pickM hm hb (by decide) (by decide) fun sd hsd b1 hb1 => ?_⟩
  obtain ⟨s, hs, rfl⟩ := List.mem_map.mp hsd
  obtain ⟨sa, sb, sc, sd', rfl, s1, s2, s3, s4⟩ := shape_of hs
  refine ⟨_, rfl, Nat.le_of_ble_eq_true rfl, rfl, pickM mup_same hb1 (by decide) (by decide) fun zd hzd b2 hb2 => ?_⟩
  obtain ⟨z, rfl, z1⟩ : ∃ z : Int, zd = .int z ∧ -20000 ≤ z ∧ z ≤ 20000 := by
    simp only [List.mem_cons, List.not_mem_nil, or_false] at hzd
    rcases hzd with rfl | rfl | rfl | rfl | rfl <;> exact ⟨_, rfl, by decide, by decide⟩
  rw [mup_mup]
  refine ⟨_, rfl, Nat.le_of_ble_eq_true rfl, rfl, pickM mup_same hb2 (by decide) (by decide) fun gd hgd b3 hb3 => ⟨Nat.le_of_ble_eq_true rfl, ?_⟩⟩
  obtain ⟨g, rfl, g1⟩ : ∃ g : Int, gd = .int g ∧ -80000 ≤ g ∧ g ≤ 80000 := by
    simp only [List.mem_cons, List.not_mem_nil, or_false] at hgd
    rcases hgd with rfl | rfl | rfl <;> exact ⟨_, rfl, by decide, by decide⟩
  rw [mup_mup]
  refine ⟨_, rfl, rfl, _, _, rfl, _, _, rfl, rfl, ?_⟩
  refine ⟨_, rfl, rfl, pullM mup_same hb3 (by decide) (by decide) fun o1 b4 o10 o11 hb4 => ?_⟩
  rw [mup_mup]
  refine ⟨_, rfl, rfl, pullM mup_same hb4 (by decide) (by decide) fun o2 b5 o20 o21 hb5 => ⟨Nat.le_of_ble_eq_true rfl, ?_⟩⟩
  rw [mup_mup]
  refine ⟨_, rfl, _, rfl, rfl, p, b5, _, rfl, mup_same, hb5, by rw [List.length_map]; omega, by rw [List.length_map]; omega, fun zs b6 hzl hz8 hb6 => ?_⟩
  rw [mup_mup]
  rw [List.length_map] at hzl
  refine ⟨Nat.zero_le _, fun r hr0 => ⟨_, _, rfl, ?_⟩⟩
  have ne : r ≠ p := fun w => by rw [w, mup_same] at hr0; cases hr0
  have hrM : M r = none := by rw [mup_ne ne] at hr0; exact hr0
  have hrl : (rs.map rowG).length = rs.length := List.length_map ..
  refine ⟨_, rfl, _, rfl, by omega, by omega, ?_⟩
  dsimp only
  rw [hrl, Int.toNat_natCast, upto0]
  refine ForK.of (fun j ρ M' => ∃ (b' : Bag) (ts : List TI.Tl) (r8 r9 r11 r12 : Option D), b'.Ok ∧ M' = mup (mup M p b'.mo) r (.lst (ts.map TI.rowD)) ∧ ts.length = j ∧ (∀ t ∈ ts, TlW t) ∧ ρ = [some (.cel p), some (.lst (rs.map rowG)), some (shD [sa, sb, sc, sd']), some (.int z), some (.int g), some (.tup [.int (o1 - 100000), .int (o2 - 100000)]), some (.lst (zs.map .str)), some (.cel r), r8, r9, none, r11, r12, none]) ⟨b6, [], none, none, none, none, hb6, rfl, rfl, nofun, rfl⟩ ?_ ?_
  · rintro j d ρ M' hj' ⟨b', ts, r8, r9, r11, r12, hb', rfl, htl, htw, rfl⟩
    obtain ⟨j', hj2, rfl⟩ := map_get hj'
    obtain ⟨hj0, hj1⟩ := List.getElem?_eq_some_iff.mp hj2
    rw [List.getElem_range] at hj1
    subst hj1
    have hj : j < rs.length := by rw [List.length_range] at hj0; exact hj0
    obtain ⟨row, hrow⟩ : ∃ row, rs[j]? = some row := ⟨_, List.getElem?_eq_getElem hj⟩
    have hat : atI (rs.map rowG) (j : Int) = some (rowG row) := atI_nat (by rw [List.getElem?_map, hrow]; rfl)
    have rw_ := hr row (List.mem_of_getElem? hrow)
    obtain ⟨zn, hzn⟩ : ∃ zn, zs[j]? = some zn := ⟨_, List.getElem?_eq_getElem (by omega)⟩
    have hzat : atI (zs.map D.str) (j : Int) = some (.str zn) := atI_nat (by rw [List.getElem?_map, hzn]; rfl)
    have hl8 : row.1.length < sizeLine := Nat.lt_of_le_of_lt rw_.hi (by decide)
    refine ⟨_, rfl, _, rfl, _, hat, _, rfl, ?_⟩
    refine lc_mapS (S := row.1) (g := TI.pt) (fun c => TI.pt (mv sa sb sc sd' c)) (by rw [List.length_map]; exact hl8) (fun c hc K hK => ⟨_, rfl, _, rfl, rfl, [sa, sb, sc, sd'], c, sa, sb, sc, sd', rfl, rfl, s1, s2, s3, s4, hK⟩) (fun d K K' => gN_mono K K') ?_
    refine ⟨_, rfl, ?_⟩
    refine lc_mapS (S := row.1) (g := fun c => TI.pt (mv sa sb sc sd' c)) (fun c => TI.pt (o1 - 100000 + z * (mv sa sb sc sd' c).1, o2 - 100000 + z * (mv sa sb sc sd' c).2)) (by rw [List.length_map]; exact hl8) (fun c hc K hK => ?_) (fun d K K' => gN_mono K K') ?_
    · exact ⟨_, rfl, _, rfl, _, rfl, _, rfl, _, rfl, TI.mul2 (by omega) (by omega), _, rfl, _, rfl, _, rfl, _, rfl, _, rfl, TI.mul2 (by omega) (by omega), Nat.le_of_ble_eq_true rfl, hK⟩
    have hdl : (row.1.map fun c => TI.pt (o1 - 100000 + z * (mv sa sb sc sd' c).1, o2 - 100000 + z * (mv sa sb sc sd' c).2)) = (row.1.map fun c => (o1 - 100000 + z * (mv sa sb sc sd' c).1, o2 - 100000 + z * (mv sa sb sc sd' c).2)).map TI.pt := by
      rw [List.map_map]
      rfl
    rw [hdl]
    have hdm : ∀ c ∈ row.1.map (fun c => (o1 - 100000 + z * (mv sa sb sc sd' c).1, o2 - 100000 + z * (mv sa sb sc sd' c).2)), Sm 100000000 c := by
      intro c hc
      obtain ⟨c0, hc0, rfl⟩ := List.mem_map.mp hc
      have h3 := mv_sm s1 s2 s3 s4 (by decide) (rw_.cs c0 hc0)
      have m1 := mul_b z1 h3.1 (by decide) (by decide)
      have m2 := mul_b z1 h3.2 (by decide) (by decide)
      unfold Sm
      dsimp only
      omega
    have hdn : (row.1.map fun c => (o1 - 100000 + z * (mv sa sb sc sd' c).1, o2 - 100000 + z * (mv sa sb sc sd' c).2)).length = row.1.length := List.length_map ..
    generalize (row.1.map fun c => (o1 - 100000 + z * (mv sa sb sc sd' c).1, o2 - 100000 + z * (mv sa sb sc sd' c).2)) = dl at hdm hdn
    have r_lo := rw_.lo
    have r_hi := rw_.hi
    have hpl : (dl.map TI.pt).length = dl.length := List.length_map ..
    refine ⟨_, rfl, _, rfl, rfl, p, b', _, rfl, mup2_at ne, hb', by omega, log2_small (by omega) (by omega), fun by_ b7 y0 y1 hb7 => ?_⟩
    rw [mup2 ne]
    refine ⟨_, rfl, _, rfl, _, hat, _, rfl, ?_⟩
    refine lc_mapS (S := [row.2.1, row.2.2]) (g := TI.pt) (fun c => TI.pt (mv sa sb sc sd' c)) (by show 2 < sizeLine; omega) (fun c hc K hK => ⟨_, rfl, _, rfl, rfl, [sa, sb, sc, sd'], c, sa, sb, sc, sd', rfl, rfl, s1, s2, s3, s4, hK⟩) (fun d K K' => gN_mono K K') ?_
    refine ⟨_, rfl, ?_⟩
    refine lc_mapS (S := [row.2.1, row.2.2]) (g := fun c => TI.pt (mv sa sb sc sd' c)) (fun c => TI.pt (g * (mv sa sb sc sd' c).1, g * (mv sa sb sc sd' c).2)) (by show 2 < sizeLine; omega) (fun c hc K hK => ?_) (fun d K K' => gN_mono K K') ?_
    · exact ⟨_, rfl, _, rfl, _, rfl, TI.mul2 (by omega) (by omega), _, rfl, _, rfl, _, rfl, TI.mul2 (by omega) (by omega), Nat.le_of_ble_eq_true rfl, hK⟩
    obtain ⟨n, rfl⟩ : ∃ n : Nat, by_ = n := ⟨by_.toNat, by omega⟩
    have hrot := rot_len (dl.map TI.pt) (n := n) (by omega)
    have hrot2 := rot_len dl (n := n) (by omega)
    rw [List.length_append] at hrot
    refine ⟨_, rfl, ⟨rfl, _, mup_same⟩, _, rfl, _, rfl, _, hzat, _, rfl, _, rfl, _, rfl, _, rfl, _, rfl, _, rfl, by omega, _, rfl, Nat.le_of_ble_eq_true rfl, _, mup_same, by rw [List.length_map]; omega, ?_⟩
    have hu := mv_sm s1 s2 s3 s4 (by decide) rw_.u
    have hv := mv_sm s1 s2 s3 s4 (by decide) rw_.v
    refine ⟨b7, ts ++ [⟨zn, DL.cutD dl (some (n : Int)) none ++ DL.cutD dl none (some (n : Int)), (g * (mv sa sb sc sd' row.2.1).1, g * (mv sa sb sc sd' row.2.1).2), (g * (mv sa sb sc sd' row.2.2).1, g * (mv sa sb sc sd' row.2.2).2)⟩], _, _, _, _, hb7, ?_, by rw [List.length_append, htl]; rfl, ?_, rfl⟩
    · rw [mup_mup, List.map_append]
      show _ = mup _ r (MO.lst (_ ++ [D.tup [.str zn, .tup ((DL.cutD dl (some (n : Int)) none ++ DL.cutD dl none (some (n : Int))).map TI.pt), _]]))
      rw [List.map_append, ← cutD_map, ← cutD_map]
      rfl
    · intro t ht
      rcases List.mem_append.mp ht with y | y
      · exact htw t y
      · rw [List.mem_singleton.mp y]
        have e1 := mul_b g1 hu.1 (by decide) (by decide)
        have e2 := mul_b g1 hu.2 (by decide) (by decide)
        have e3 := mul_b g1 hv.1 (by decide) (by decide)
        have e4 := mul_b g1 hv.2 (by decide) (by decide)
        refine ⟨(hz8 _ (List.mem_of_getElem? hzn)).1, (hz8 _ (List.mem_of_getElem? hzn)).2, by show 3 ≤ _; rw [hrot2]; omega, by show _ ≤ 8; rw [hrot2]; omega, fun c hc => ?_, ?_, ?_⟩
        · rcases List.mem_append.mp hc with w | w
          · exact hdm c (mem_cutD w)
          · exact hdm c (mem_cutD w)
        · unfold Sm; dsimp only; omega
        · unfold Sm; dsimp only; omega
  · rintro ρ M' ⟨b', ts, r8, r9, r11, r12, hb', rfl, htl, htw, rfl⟩
    rw [List.length_map, List.length_range] at htl
    refine ⟨r, _, by rw [mup_ne ne]; exact hrM, mup_same, rfl, ?_⟩
    rw [mdel_mup (by rw [mup_ne ne]; exact hrM)]
    refine ⟨_, rfl, _, rfl, rfl, p, b', _, rfl, mup_same, hb', by rw [List.length_map]; omega, fun T b'' hb'' hperm => ?_⟩
    rw [mup_mup]
    obtain ⟨ts', rfl, hp'⟩ := perm_map hperm.symm ts rfl
    refine ⟨Nat.zero_le _, Nat.le_of_ble_eq_true rfl, ?_⟩
    have := hp'.length_eq
    exact q _ b'' ts' (.of hb'') (fun t ht => htw t (hp'.mem_iff.mp ht)) (by omega) (by omega)
def ph__law_quarter : Ct := fun ds M k _ => ∃ (p : Addr) (b : Bag) (m : Int) (i j : Nat), ds = [.cel p, .int m, .int i, .int j] ∧ M p = some b.mo ∧ b.Ok ∧ (m = 0 ∨ m = 1 ∨ m = 2) ∧ (m ≠ 0 → i ≤ 1 ∧ j ≤ 1) ∧ i ≤ 8 ∧ ∀ (sx sy : Int) (b' : Bag), (sx = 1 ∨ sx = -1) → (sy = 1 ∨ sy = -1) → b'.Ok → k (.tup [.int sx, .int sy]) (mup M p b'.mo)
theorem ok__law_quarter {K : PySem.W.Frag} {mg : Str → Option Value} {ad : Nat → Addr} {fd : Nat → FuncData} {cl : Nat → Addr} {P : Program} {w : World} {base : Heap} (T : Txt K mg ad fd cl) : FnOk P w K mg base (L2.CX P w) 3 (ad 48) (fd 48) ["_law_bag", "_law_mode", "_law_i", "_law_j"] (spD K 4 ph__law_quarter) := by
  have G__law_pull := ok__law_pull (P := P) (w := w) (base := base) T
  refine fn_D T.F__law_quarter sc__law_quarter rfl fun cdv A outer s H E hr hp ho => ⟨_, (b_cons (s_if (t_cmp (o_eq hr.units) (dv 1) d_int (nomark _)) (b_one (s_ret (d_tup (a_cons (d_op o_sub d_int (d_op o_mul d_int (d_call G__law_pull (hr.mono (by decide)) rfl T.m__law_pull T.k__law_pull T.kb__law_pull_2 (by intro _ _ h _; exact h) hp (a_cons (dv 0) (a_cons d_int a_nil))))) (a_cons (d_op o_sub d_int (d_op o_mul d_int (d_call G__law_pull (hr.mono (by decide)) rfl T.m__law_pull T.k__law_pull T.kb__law_pull_2 (by intro _ _ h _; exact h) hp (a_cons (dv 0) (a_cons d_int a_nil))))) a_nil))))) b_nil)
  (b_cons (s_asg (d_ix x_ix (d_ix x_ix (d_lst (a_cons (d_lst (a_cons (d_tup (a_cons d_int (a_cons (d_op o_sub d_int d_int) a_nil))) (a_cons (d_tup (a_cons (d_op o_sub d_int d_int) (a_cons (d_op o_sub d_int d_int) a_nil))) a_nil))) (a_cons (d_lst (a_cons (d_tup (a_cons d_int (a_cons d_int a_nil))) (a_cons (d_tup (a_cons (d_op o_sub d_int d_int) (a_cons d_int a_nil))) a_nil))) a_nil))) (dv 2) (fun _ _ => rfl)) (dv 3) (fun _ _ => rfl)) (g_tup (n := 2) rfl (gs_cons (g_name (i := 4) sc__law_quarter.nd rfl (Or.inl rfl)) (gs_cons (g_name (i := 5) sc__law_quarter.nd rfl (Or.inl rfl)) gs_nil))))
  (b_one (s_ret (d_if (t_cmp (o_eq hr.units) (dv 1) d_int (nomark _)) (d_tup (a_cons (dv 4) (a_cons (dv 5) a_nil))) (d_tup (a_cons (d_op o_sub d_int (dv 4)) (a_cons (d_op o_sub d_int (dv 5)) a_nil)))))))), ?_⟩
  clear hp ho hr G__law_pull
  rintro ds M k x hl ⟨p, b, m, i, j, rfl, hm, hb, h0, hi, hj, q⟩
  refine ⟨_, rfl, eqI ⟨_, rfl, ?_⟩⟩
  rcases h0 with rfl | h0
  · refine iteT ?_
    refine ⟨_, rfl, rfl, pullM hm hb (by decide) (by decide) fun d b1 d0 d1 hb1 => ?_⟩
    refine ⟨TI.mul2 (by decide) (by decide), _, rfl, rfl, pullM mup_same hb1 (by decide) (by decide) fun e b2 e0 e1 hb2 => ⟨TI.mul2 (by decide) (by decide), Nat.le_of_ble_eq_true rfl, ?_⟩⟩
    rw [mup_mup]
    exact q (1 - 2 * d) (1 - 2 * e) b2 (by omega) (by omega) hb2
  · obtain ⟨hi1, hj1⟩ := hi (by omega)
    rw [decide_eq_false (by omega)]
    refine iteF ?_
    have q' : ∀ (sx sy : Int), (sx = 1 ∨ sx = -1) → (sy = 1 ∨ sy = -1) → k (.tup [.int sx, .int sy]) M := fun sx sy h1 h2 => by
      have := q sx sy b h1 h2 hb
      rw [← mup_of hm] at this
      exact this
    refine ⟨Nat.le_of_ble_eq_true rfl, Nat.le_of_ble_eq_true rfl, Nat.le_of_ble_eq_true rfl, Nat.le_of_ble_eq_true rfl, Nat.le_of_ble_eq_true rfl, Nat.le_of_ble_eq_true rfl, Nat.le_of_ble_eq_true rfl, ?_⟩
    obtain rfl | rfl : i = 0 ∨ i = 1 := by omega
    all_goals obtain rfl | rfl : j = 0 ∨ j = 1 := by omega
    all_goals
      refine ⟨_, rfl, _, rfl, _, rfl, _, rfl, ?_⟩
      refine ⟨_, rfl, rfl, _, _, rfl, _, _, rfl, rfl, ?_⟩
      refine ⟨_, rfl, eqI ⟨_, rfl, ?_⟩⟩
      refine ite_b (fun _ => ?_) (fun _ => ?_)
      · exact ⟨_, rfl, _, rfl, Nat.le_of_ble_eq_true rfl, q' _ _ (by decide) (by decide)⟩
      · exact ⟨_, rfl, _, rfl, Nat.le_of_ble_eq_true rfl, q' _ _ (by decide) (by decide)⟩
def ExD (es : List (NestedKey × D)) : Prop := ∀ k d, dGet es k = some d → ∃ p, d = TI.pt p ∧ Sm 100 p
def ph__law_bordered (w : World) : Ct := fun ds M k _ => ∃ (u : D) (es : List (NestedKey × D)) (dots : List TI.P2), ds = [u, .lst (dots.map TI.pt)] ∧ DicIs u M w es ∧ ExD es ∧ 3 ≤ dots.length ∧ dots.length ≤ 4 ∧ (∀ p ∈ dots, Sm 100 p) ∧ ∀ (M' : Mm) (cs : List TI.P2), Ext M M' → 3 ≤ cs.length → cs.length ≤ 8 → (∀ p ∈ cs, Sm 100 p) → k (.lst (cs.map TI.pt)) M'
theorem ok__law_bordered {K : PySem.W.Frag} {mg : Str → Option Value} {ad : Nat → Addr} {fd : Nat → FuncData} {cl : Nat → Addr} {P : Program} {w : World} {base : Heap} (T : Txt K mg ad fd cl) : FnOk P w K mg base (L2.CX P w) 3 (ad 49) (fd 49) ["_law_extra", "_law_dots"] (spD K 2 (ph__law_bordered w)) := by
  have G__law_key := ok__law_key (P := P) (w := w) (base := base) T
  refine fn_D T.F__law_bordered sc__law_bordered rfl fun cdv A outer s H E hr hp ho => ⟨_, (b_cons (s_set (i := 2) sc__law_bordered.nd rfl (Or.inl rfl) (d_lstM a_nil))
  (b_cons (s_for ho rfl (i_range1 rfl T.b_range (a_cons (d_callB c_len rfl T.b_len boot_len' (a_cons (dv 1) a_nil)) a_nil)) (g_name (i := 3) sc__law_bordered.nd rfl (Or.inl rfl))
  (b_cons (s_expr (d_bm PySem.F.plainAttrs_list PySem.F.slot_list_append PySem.F.type_list_append m_append (dv 2) (a_cons (d_ix x_ix (dv 1) (dv 3) (fun _ _ => rfl)) a_nil)))
  (b_cons (s_set (i := 4) sc__law_bordered.nd rfl (Or.inl rfl) (d_call G__law_key (hr.mono (by decide)) rfl T.m__law_key T.k__law_key T.kb__law_key_2 (by intro _ _ h _; exact h) hp (a_cons (d_ix x_ix (dv 1) (dv 3) (fun _ _ => rfl)) (a_cons (d_ix x_ix (dv 1) (d_op o_mod (d_callTy c_int rfl T.b_int boot_int' (a_cons (d_op o_add (dv 3) d_int) a_nil)) (d_callB c_len rfl T.b_len boot_len' (a_cons (dv 1) a_nil))) (fun _ _ => rfl)) a_nil))))
  (b_one (s_set (i := 2) sc__law_bordered.nd rfl (Or.inl rfl) (d_op o_addM (dv 2) (d_if (t_cmp (o_inN hr.units) (dv 4) (dv 0) rfl) (d_lst (a_cons (d_ix (x_ixN hr.units) (dv 0) (dv 4) (fun _ _ => rfl)) a_nil)) (d_lst a_nil))))))))
  (b_one (s_retZ (dv 2))))), ?_⟩
  clear hp ho hr G__law_key
  rintro ds M k x hl ⟨u, es, dots, rfl, hu, hes, l0, h4, hd, q⟩
  have hz' : (dots.map TI.pt).length = dots.length := List.length_map ..
  refine ⟨Nat.zero_le _, fun r hr => ?_⟩
  refine ⟨_, rfl, _, rfl, by omega, by omega, ?_⟩
  dsimp only
  rw [hz', Int.toNat_natCast, upto0]
  refine ForK.of (fun j ρ M' => ∃ (a : Addr) (cs : List TI.P2) (r3 r4 : Option D), Ext M M' ∧ M a = none ∧ M' a = some (.lst (cs.map TI.pt)) ∧ j ≤ cs.length ∧ cs.length ≤ 2 * j ∧ (∀ p ∈ cs, Sm 100 p) ∧ ρ = [some u, some (.lst (dots.map TI.pt)), some (.cel a), r3, r4]) ?_ ?_ ?_
  · refine ⟨r, [], none, none, fun a mo ha => ?_, hr, mup_same, Nat.le_refl _, Nat.le_refl _, nofun, rfl⟩
    have hne : a ≠ r := fun z => by rw [z, hr] at ha; cases ha
    rw [mup_ne hne]
    exact ha
  · rintro j d ρ M' hj' ⟨a, cs, r3, r4, hE, ha, hMa, c1, c2, c3, rfl⟩
    obtain ⟨j', hj2, rfl⟩ := map_get hj'
    obtain ⟨hj0, hj1⟩ := List.getElem?_eq_some_iff.mp hj2
    rw [List.getElem_range] at hj1
    subst hj1
    have hj : j < dots.length := by rw [List.length_range] at hj0; exact hj0
    have hs8 : ∀ n : Nat, n ≤ 20 → n < sizeLine := fun n h => Nat.lt_of_le_of_lt h (by decide)
    refine ⟨_, rfl, ⟨rfl, _, hMa⟩, _, rfl, _, rfl, _, pairs_at hj, _, hMa, hs8 _ (by rw [List.length_map]; omega), ?_⟩
    refine ⟨_, rfl, _, rfl, _, pairs_at hj, _, rfl, _, rfl, _, rfl, by show ((dots.map TI.pt).length : Int) ≠ 0; omega, _, pairs_nx hj, rfl, dots.getD j (0, 0), dots.getD ((j + 1) % dots.length) (0, 0), rfl, ?_⟩
    have hE1 : Ext M (mup M' a (.lst (cs.map TI.pt ++ [TI.pt (dots.getD j (0, 0))]))) := fun b mo hb => by
      have hne : b ≠ a := fun z => by rw [z, ha] at hb; cases hb
      rw [mup_ne hne]
      exact hE b mo hb
    have hu' := dicIs_ext hu (M' := mup M' a (.lst (cs.map TI.pt ++ [TI.pt (dots.getD j (0, 0))]))) fun b o _ hb => hE1 b o hb
    have hdj : Sm 100 (dots.getD j (0, 0)) := by
      refine hd _ ?_
      rw [List.getD_eq_getElem?_getD, List.getElem?_eq_getElem hj]
      exact List.getElem_mem hj
    refine ⟨_, rfl, _, rfl, _, rfl, TI.sdKs (TI.sideOf (dots.getD j (0, 0)) (dots.getD ((j + 1) % dots.length) (0, 0))), es, (TI.kDs_sd _).symm, TI.sdKs_depth _, hu', ⟨_, rfl, ?_⟩⟩
    have next : ∀ (ys : List TI.P2) (b : Addr), ys.length ≤ 1 → (∀ p ∈ ys, Sm 100 p) → mup M' a (.lst (cs.map TI.pt ++ [TI.pt (dots.getD j (0, 0))])) b = none → ∃ (a' : Addr) (cs' : List TI.P2) (r3 r4 : Option D), Ext M (mup (mup M' a (.lst (cs.map TI.pt ++ [TI.pt (dots.getD j (0, 0))]))) b (.lst ((cs.map TI.pt ++ [TI.pt (dots.getD j (0, 0))]) ++ ys.map TI.pt))) ∧ M a' = none ∧ mup (mup M' a (.lst (cs.map TI.pt ++ [TI.pt (dots.getD j (0, 0))]))) b (.lst ((cs.map TI.pt ++ [TI.pt (dots.getD j (0, 0))]) ++ ys.map TI.pt)) a' = some (.lst (cs'.map TI.pt)) ∧ j + 1 ≤ cs'.length ∧ cs'.length ≤ 2 * (j + 1) ∧ (∀ p ∈ cs', Sm 100 p) ∧ [some u, some (D.lst (dots.map TI.pt)), some (D.cel b), some (D.int (j : Int)), some (TI.sd (TI.sideOf (dots.getD j (0, 0)) (dots.getD ((j + 1) % dots.length) (0, 0))))] = [some u, some (.lst (dots.map TI.pt)), some (.cel a'), r3, r4] := by
      intro ys b hy hys hb
      have hMb : M b = none := by
        cases e : M b with
        | none => rfl
        | some o => rw [hE1 b o e] at hb; cases hb
      refine ⟨b, cs ++ [dots.getD j (0, 0)] ++ ys, _, _, fun c mo hc => ?_, hMb, ?_, ?_, ?_, ?_, rfl⟩
      · have hne : c ≠ b := fun z => by rw [z, hMb] at hc; cases hc
        rw [mup_ne hne]
        exact hE1 c mo hc
      · rw [mup_same, List.map_append, List.map_append]
        rfl
      · simp only [List.length_append, List.length_cons, List.length_nil]; omega
      · simp only [List.length_append, List.length_cons, List.length_nil]; omega
      · intro p hp
        rcases List.mem_append.mp hp with z | z
        · rcases List.mem_append.mp z with y | y
          · exact c3 p y
          · rw [List.mem_singleton.mp y]; exact hdj
        · exact hys p z
    have hlen : (cs.map TI.pt ++ [TI.pt (dots.getD j (0, 0))]).length ≤ 9 := by
      simp only [List.length_append, List.length_map, List.length_cons, List.length_nil]; omega
    have big : 100 ≤ sizeLine := by decide
    cases hg : dGet es (.tup (TI.sdKs (TI.sideOf (dots.getD j (0, 0)) (dots.getD ((j + 1) % dots.length) (0, 0))))) with
    | some d =>
      obtain ⟨p, rfl, hp⟩ := hes _ _ hg
      refine iteT ?_
      refine ⟨_, rfl, _, rfl, TI.sdKs (TI.sideOf (dots.getD j (0, 0)) (dots.getD ((j + 1) % dots.length) (0, 0))), es, _, (TI.kDs_sd _).symm, TI.sdKs_depth _, hu', hg, Nat.le_of_ble_eq_true rfl, ?_⟩
      refine ⟨a, _, _, rfl, mup_same, rfl, by show _ + 1 ≤ _; omega, fun b hb => ?_⟩
      exact next [p] b (Nat.le_refl _) (fun z hz => by rw [List.mem_singleton.mp hz]; exact hp) hb
    | none =>
      refine iteF ?_
      refine ⟨Nat.zero_le _, a, _, _, rfl, mup_same, rfl, by show _ + 0 ≤ _; omega, fun b hb => ?_⟩
      exact next [] b (Nat.zero_le _) nofun hb
  · rintro ρ M' ⟨a, cs, r3, r4, hE, ha, hMa, c1, c2, c3, rfl⟩
    rw [List.length_map, List.length_range] at c1 c2
    refine ⟨_, rfl, a, _, rfl, hMa, ha, ?_⟩
    refine q _ cs (fun b mo hb => ?_) (by omega) (by omega) c3
    have hne : b ≠ a := fun z => by rw [z, ha] at hb; cases hb
    rw [mdel_ne hne]
    exact hE b mo hb
structure Gs (p X Y Z : Addr) (w : World) (M M' : Mm) (b : Bag) (xs ys : List Int) (es : List (NestedKey × D)) : Prop where
  e : ExtB p M M' b
  x : M' X = some (.lst (xs.map .int))
  y : M' Y = some (.lst (ys.map .int))
  z : M' Z = some (.dic Z w es)
structure Ga (p X Y Z : Addr) (M : Mm) : Prop where
  xp : X ≠ p
  yp : Y ≠ p
  zp : Z ≠ p
  xy : X ≠ Y
  xz : X ≠ Z
  yz : Y ≠ Z
  nx : M X = none
  ny : M Y = none
  nz : M Z = none
section
variable {p X Y Z : Addr} {w : World} {M M' : Mm} {b b' : Bag} {xs ys zs : List Int} {es es' : List (NestedKey × D)}
theorem ExtB.new {A : Addr} {o : MO} (h : ExtB p M M' b) (ha : A ≠ p) (hn : M A = none) : ExtB p M (mup M' A o) b := ⟨fun c mo hc e => by
  have : c ≠ A := fun z => by rw [z, hn] at e; cases e
  rw [mup_ne this]
  exact h.1 c mo hc e, by rw [mup_ne (Ne.symm ha)]; exact h.2.1, h.2.2⟩
theorem Gs.pull (h : Gs p X Y Z w M M' b xs ys es) (a : Ga p X Y Z M) (hb : b'.Ok) : Gs p X Y Z w M (mup M' p b'.mo) b' xs ys es := ⟨h.e.up hb, by rw [mup_ne a.xp]; exact h.x, by rw [mup_ne a.yp]; exact h.y, by rw [mup_ne a.zp]; exact h.z⟩
theorem Gs.setX (h : Gs p X Y Z w M M' b xs ys es) (a : Ga p X Y Z M) : Gs p X Y Z w M (mup M' X (.lst (zs.map .int))) b zs ys es := ⟨h.e.new a.xp a.nx, mup_same, by rw [mup_ne (Ne.symm a.xy)]; exact h.y, by rw [mup_ne (Ne.symm a.xz)]; exact h.z⟩
theorem Gs.setY (h : Gs p X Y Z w M M' b xs ys es) (a : Ga p X Y Z M) : Gs p X Y Z w M (mup M' Y (.lst (zs.map .int))) b xs zs es := ⟨h.e.new a.yp a.ny, by rw [mup_ne a.xy]; exact h.x, mup_same, by rw [mup_ne (Ne.symm a.yz)]; exact h.z⟩
theorem Gs.setZ (h : Gs p X Y Z w M M' b xs ys es) (a : Ga p X Y Z M) : Gs p X Y Z w M (mup M' Z (.dic Z w es')) b xs ys es' := ⟨h.e.new a.zp a.nz, by rw [mup_ne a.xz]; exact h.x, by rw [mup_ne a.yz]; exact h.y, mup_same⟩
theorem Gs.ext {M2 : Mm} (h : Gs p X Y Z w M M' b xs ys es) (hE : Ext M' M2) : Gs p X Y Z w M M2 b xs ys es := ⟨h.e.ext hE, hE _ _ h.x, hE _ _ h.y, hE _ _ h.z⟩
end
def Ps (n : Nat) (xs : List Int) : Prop := xs.length = n + 1 ∧ ∀ v ∈ xs, 0 ≤ v ∧ v ≤ 3 * n
theorem at_last {n : Nat} {xs : List Int} (h : Ps n xs) : ∃ v : Int, atI (xs.map D.int) (-1) = some (.int v) ∧ 0 ≤ v ∧ v ≤ 3 * n := by
  obtain ⟨hl, hv⟩ := h
  have h1 : n < xs.length := by omega
  refine ⟨xs[n], ?_, hv _ (List.getElem_mem h1)⟩
  unfold atI ixN
  rw [List.length_map, hl, if_neg (by decide), if_pos (by omega)]
  show (xs.map D.int)[_]? = _
  have e : ((-1 : Int) + ((n + 1 : Nat) : Int)).toNat = n := by omega
  rw [e, List.getElem?_map, List.getElem?_eq_getElem h1]
  rfl
theorem Ps.app {n : Nat} {xs : List Int} {v : Int} (h : Ps n xs) (h0 : 0 ≤ v) (h1 : v ≤ 3 * ((n + 1 : Nat) : Int)) : Ps (n + 1) (xs ++ [v]) := by
  refine ⟨by rw [List.length_append, h.1]; rfl, fun u hu => ?_⟩
  rcases List.mem_append.mp hu with z | z
  · have := h.2 u z
    omega
  · rw [List.mem_singleton.mp z]
    exact ⟨h0, h1⟩
theorem at_ps {n i : Nat} {xs : List Int} (h : Ps n xs) (hi : i ≤ n) : ∃ v : Int, atI (xs.map D.int) (i : Int) = some (.int v) ∧ 0 ≤ v ∧ v ≤ 3 * n := by
  have h1 : i < xs.length := by rw [h.1]; omega
  refine ⟨xs[i], atI_nat ?_, h.2 _ (List.getElem_mem h1)⟩
  rw [List.getElem?_map, List.getElem?_eq_getElem h1]
  rfl
theorem fdiv_nat (k n : Nat) : ((k : Int)).fdiv (n : Int) = ((k / n : Nat) : Int) := by
  rw [Int.fdiv_eq_ediv_of_nonneg _ (Int.natCast_nonneg n)]
  exact_mod_cast rfl
theorem fmod_nat2 (k n : Nat) : ((k : Int)).fmod (n : Int) = ((k % n : Nat) : Int) := by
  rw [Int.fmod_eq_emod_of_nonneg _ (Int.natCast_nonneg n)]
  exact_mod_cast rfl
theorem exD_put {es : List (NestedKey × D)} {k : NestedKey} {p : TI.P2} (h : ExD es) (hp : Sm 100 p) : ExD (dPut es k (TI.pt p)) := by
  intro j d hd
  rw [TI.dGet_put] at hd
  split at hd
  · cases hd
    exact ⟨p, rfl, hp⟩
  · exact h j d hd
theorem divOk {k n : Int} (h0 : 0 < n) (h1 : n ≤ 1000) : DivOk k n := ⟨by omega, log2_small h0 (by omega)⟩
def ph__law_grid (w : World) : Ct := fun ds M k _ => ∃ (p : Addr) (b : Bag) (wd tl : Nat) (m : Int), ds = [.cel p, .int wd, .int tl, .int m] ∧ M p = some b.mo ∧ b.Ok ∧ (1 ≤ wd ∧ wd ≤ 8) ∧ (1 ≤ tl ∧ tl ≤ 8) ∧ (m = 0 ∨ m = 1 ∨ m = 2) ∧ (m ≠ 0 → wd = 2 ∧ tl = 2) ∧ ∀ (M' : Mm) (b' : Bag) (rs : List Gr), ExtB p M M' b' → (∀ r ∈ rs, RowW r) → 1 ≤ rs.length → rs.length ≤ 128 → k (.lst (rs.map rowG)) M'
theorem ok__law_grid {K : PySem.W.Frag} {mg : Str → Option Value} {ad : Nat → Addr} {fd : Nat → FuncData} {cl : Nat → Addr} {P : Program} {w : World} {base : Heap} (T : Txt K mg ad fd cl) : FnOk P w K mg base (L2.CX P w) 5 (ad 50) (fd 50) ["_law_bag", "_law_wide", "_law_tall", "_law_mode"] (spD K 4 (ph__law_grid w)) := by
  have G__law_pull := ok__law_pull (P := P) (w := w) (base := base) T
  have G__law_quarter := ok__law_quarter (P := P) (w := w) (base := base) T
  have G__law_bordered := ok__law_bordered (P := P) (w := w) (base := base) T
  have G__law_winds := ok__law_winds (P := P) (w := w) (base := base) T
  refine fn_D T.F__law_grid sc__law_grid rfl fun cdv A outer s H E hr hp ho => ⟨_, (b_cons (s_asg (d_tup (a_cons (d_lstM (a_cons d_int a_nil)) (a_cons (d_lstM (a_cons d_int a_nil)) (a_cons d_newD (a_cons (d_lst a_nil) a_nil))))) (g_tup (n := 4) rfl (gs_cons (g_name (i := 4) sc__law_grid.nd rfl (Or.inl rfl)) (gs_cons (g_name (i := 5) sc__law_grid.nd rfl (Or.inl rfl)) (gs_cons (g_name (i := 6) sc__law_grid.nd rfl (Or.inr rfl)) (gs_cons (g_name (i := 7) sc__law_grid.nd rfl (Or.inl rfl)) gs_nil))))))
  (b_cons (s_for ho rfl (i_range1 rfl T.b_range (a_cons (dv 1) a_nil)) (g_name (i := 8) sc__law_grid.nd rfl (Or.inl rfl))
  (b_one (s_expr (d_bm PySem.F.plainAttrs_list PySem.F.slot_list_append PySem.F.type_list_append m_append (dv 4) (a_cons (d_op o_add (d_op o_add (d_ix x_ix (dv 4) (d_un o_neg d_int) (fun _ _ => rfl)) d_int) (d_call G__law_pull (hr.mono (by decide)) rfl T.m__law_pull T.k__law_pull T.kb__law_pull_2 (by intro _ _ h _; exact h) hp (a_cons (dv 0) (a_cons d_int a_nil)))) a_nil)))))
  (b_cons (s_for ho rfl (i_range1 rfl T.b_range (a_cons (dv 2) a_nil)) (g_name (i := 8) sc__law_grid.nd rfl (Or.inl rfl))
  (b_one (s_expr (d_bm PySem.F.plainAttrs_list PySem.F.slot_list_append PySem.F.type_list_append m_append (dv 5) (a_cons (d_op o_add (d_op o_add (d_ix x_ix (dv 5) (d_un o_neg d_int) (fun _ _ => rfl)) d_int) (d_call G__law_pull (hr.mono (by decide)) rfl T.m__law_pull T.k__law_pull T.kb__law_pull_2 (by intro _ _ h _; exact h) hp (a_cons (dv 0) (a_cons d_int a_nil)))) a_nil)))))
  (b_cons (s_for ho rfl (i_range1 rfl T.b_range (a_cons (d_op o_mul (dv 1) (d_op o_add (dv 2) d_int)) a_nil)) (g_name (i := 8) sc__law_grid.nd rfl (Or.inl rfl))
  (b_cons (s_par (i := 9) (j := 10) rfl sc__law_grid.nd rfl rfl (by decide) rfl rfl (a_cons (d_op o_fdiv (dv 8) (d_op o_add (dv 2) d_int)) (a_cons (d_op o_mod (d_callTy c_int rfl T.b_int boot_int' (a_cons (dv 8) a_nil)) (d_op o_add (dv 2) d_int)) a_nil)) rfl)
  (b_one (s_if (DPW.t (w_and (t_cmp o_gt (d_op o_sub (d_ix x_ix (dv 4) (d_op o_add (dv 9) d_int) (fun _ _ => rfl)) (d_ix x_ix (dv 4) (dv 9) (fun _ _ => rfl))) d_int (nomark _)) (w_and1 (t_cmp (o_eq hr.units) (d_call G__law_pull (hr.mono (by decide)) rfl T.m__law_pull T.k__law_pull T.kb__law_pull_2 (by intro _ _ h _; exact h) hp (a_cons (dv 0) (a_cons d_int a_nil))) d_int (nomark _))))) (b_cons (s_set (i := 11) sc__law_grid.nd rfl (Or.inl rfl) (d_tup (a_cons (d_op o_add (d_op o_add (d_ix x_ix (dv 4) (dv 9) (fun _ _ => rfl)) d_int) (d_call G__law_pull (hr.mono (by decide)) rfl T.m__law_pull T.k__law_pull T.kb__law_pull_2 (by intro _ _ h _; exact h) hp (a_cons (dv 0) (a_cons (d_op o_sub (d_op o_sub (d_ix x_ix (dv 4) (d_op o_add (dv 9) d_int) (fun _ _ => rfl)) (d_ix x_ix (dv 4) (dv 9) (fun _ _ => rfl))) d_int) a_nil)))) (a_cons (d_ix x_ix (dv 5) (dv 10) (fun _ _ => rfl)) a_nil))))
  (b_one (s_setN hr.units (dv 11) (dv 6) (d_tup (a_cons (d_tup (a_cons (d_ix x_ix (dv 4) (dv 9) (fun _ _ => rfl)) (a_cons (d_ix x_ix (dv 5) (dv 10) (fun _ _ => rfl)) a_nil))) (a_cons (d_tup (a_cons (d_ix x_ix (dv 4) (d_op o_add (dv 9) d_int) (fun _ _ => rfl)) (a_cons (d_ix x_ix (dv 5) (dv 10) (fun _ _ => rfl)) a_nil))) a_nil)))))) b_nil))))
  (b_cons (s_for ho rfl (i_range1 rfl T.b_range (a_cons (d_op o_mul (dv 1) (dv 2)) a_nil)) (g_name (i := 8) sc__law_grid.nd rfl (Or.inl rfl))
  (b_cons (s_par (i := 9) (j := 10) rfl sc__law_grid.nd rfl rfl (by decide) rfl rfl (a_cons (d_op o_fdiv (dv 8) (dv 2)) (a_cons (d_op o_mod (d_callTy c_int rfl T.b_int boot_int' (a_cons (dv 8) a_nil)) (dv 2)) a_nil)) rfl)
  (b_cons (s_par (i := 12) (j := 13) rfl sc__law_grid.nd rfl rfl (by decide) rfl rfl (a_cons (d_tup (a_cons (d_ix x_ix (dv 4) (dv 9) (fun _ _ => rfl)) (a_cons (d_ix x_ix (dv 5) (dv 10) (fun _ _ => rfl)) a_nil))) (a_cons (d_tup (a_cons (d_ix x_ix (dv 4) (d_op o_add (dv 9) d_int) (fun _ _ => rfl)) (a_cons (d_ix x_ix (dv 5) (dv 10) (fun _ _ => rfl)) a_nil))) a_nil)) rfl)
  (b_cons (s_par (i := 14) (j := 15) rfl sc__law_grid.nd rfl rfl (by decide) rfl rfl (a_cons (d_tup (a_cons (d_ix x_ix (dv 4) (d_op o_add (dv 9) d_int) (fun _ _ => rfl)) (a_cons (d_ix x_ix (dv 5) (d_op o_add (dv 10) d_int) (fun _ _ => rfl)) a_nil))) (a_cons (d_tup (a_cons (d_ix x_ix (dv 4) (dv 9) (fun _ _ => rfl)) (a_cons (d_ix x_ix (dv 5) (d_op o_add (dv 10) d_int) (fun _ _ => rfl)) a_nil))) a_nil)) rfl)
  (b_cons (s_asg (d_call G__law_quarter (hr.mono (by decide)) rfl T.m__law_quarter T.k__law_quarter T.kb__law_quarter_4 (by intro _ _ h _; exact h) hp (a_cons (dv 0) (a_cons (dv 3) (a_cons (dv 9) (a_cons (dv 10) a_nil))))) (g_tup (n := 2) rfl (gs_cons (g_name (i := 16) sc__law_grid.nd rfl (Or.inr rfl)) (gs_cons (g_name (i := 17) sc__law_grid.nd rfl (Or.inr rfl)) gs_nil))))
  (b_cons (s_set (i := 18) sc__law_grid.nd rfl (Or.inl rfl) (d_lst (a_cons (d_lst (a_cons (dv 12) (a_cons (dv 13) (a_cons (dv 14) (a_cons (dv 15) a_nil))))) a_nil)))
  (b_cut (s_if (t_cmp (o_eq hr.units) (d_call G__law_pull (hr.mono (by decide)) rfl T.m__law_pull T.k__law_pull T.kb__law_pull_2 (by intro _ _ h _; exact h) hp (a_cons (dv 0) (a_cons d_int a_nil))) d_int (nomark _)) (b_one (s_set (i := 18) sc__law_grid.nd rfl (Or.inl rfl) (d_if (t_cmp (o_ne hr.units) (dv 16) (dv 17) (nomark _)) (d_lst (a_cons (d_lst (a_cons (dv 12) (a_cons (dv 13) (a_cons (dv 14) a_nil)))) (a_cons (d_lst (a_cons (dv 12) (a_cons (dv 14) (a_cons (dv 15) a_nil)))) a_nil))) (d_lst (a_cons (d_lst (a_cons (dv 12) (a_cons (dv 13) (a_cons (dv 15) a_nil)))) (a_cons (d_lst (a_cons (dv 13) (a_cons (dv 14) (a_cons (dv 15) a_nil)))) a_nil)))))) b_nil)
  (b_one (s_set (i := 7) sc__law_grid.nd rfl (Or.inl rfl) (d_op o_add (dv 7) (d_lc (own := [("_law_part", 19)]) rfl sc__law_grid.nd (i_seq (dv 18)) (blkOk_by (own := [("_law_part", 19)]) (N := ["_law_bag", "_law_wide", "_law_tall", "_law_mode", "_law_xs", "_law_ys", "_law_extra", "_law_found", "_law_k", "_law_i", "_law_j", "_law_dot", "_law_a", "_law_b", "_law_c", "_law_d", "_law_sx", "_law_sy", "_law_parts", "_law_part"]) (sc := (defScope st__law_grid)) (by decide +kernel)) (gp_name (by decide)) (fun _ _ _ _ _ => (pg_name (i := 19) sc__law_grid.nd rfl (Or.inl rfl))) (fun _ _ _ _ _ => ts_nil) (fun _ _ _ _ _ => (d_tup (a_cons (d_call G__law_bordered (hr.mono (by decide)) rfl T.m__law_bordered T.k__law_bordered T.kb__law_bordered_2 (by intro _ _ h _; exact h) passL (a_cons (dv 6) (a_cons (dv 19) a_nil))) (a_cons (d_call G__law_winds (hr.mono (by decide)) rfl T.m__law_winds T.k__law_winds T.kb__law_winds_3 (by intro _ _ h _; exact h) passL (a_cons (dv 0) (a_cons (dv 16) (a_cons (dv 17) a_nil)))) a_nil)))))))))))))))
  (b_one (s_ret (dv 7)))))))), ?_⟩
  clear hp ho hr G__law_pull G__law_quarter G__law_bordered G__law_winds
  rintro ds M k x hl ⟨p, b, wd, tl, m, rfl, hm, hb, hw, ht, h0, h1, q⟩
  have big : 1000 ≤ sizeLine := by decide
  refine ⟨Nat.le_of_ble_eq_true rfl, fun X hX => ⟨Nat.le_of_ble_eq_true rfl, fun Y hY => ?_⟩⟩
  intro Z hZ
  have nYX : Y ≠ X := fun z => by rw [z, mup_same] at hY; cases hY
  rw [mup_ne nYX] at hY
  have nZY : Z ≠ Y := fun z => by rw [z, mup_same] at hZ; cases hZ
  rw [mup_ne nZY] at hZ
  have nZX : Z ≠ X := fun z => by rw [z, mup_same] at hZ; cases hZ
  rw [mup_ne nZX] at hZ
  have a : Ga p X Y Z M := ⟨(fun z => by rw [z, hm] at hX; cases hX), (fun z => by rw [z, hm] at hY; cases hY), (fun z => by rw [z, hm] at hZ; cases hZ), Ne.symm nYX, Ne.symm nZX, Ne.symm nZY, hX, hY, hZ⟩
  have g0 : Gs p X Y Z w M (mup (mup (mup M X (.lst ([0].map .int))) Y (.lst ([0].map .int))) Z (.dic Z w [])) b [0] [0] [] := by
    refine ⟨(((ExtB.base hm hb).new a.xp a.nx).new a.yp a.ny).new a.zp a.nz, ?_, ?_, mup_same⟩
    · rw [mup_ne a.xz, mup_ne a.xy]; exact mup_same
    · rw [mup_ne a.yz]; exact mup_same
  have p0 : Ps 0 [0] := ⟨rfl, fun v hv => by rw [List.mem_singleton.mp hv]; exact ⟨by decide, by decide⟩⟩
  refine ⟨Nat.zero_le _, Nat.le_of_ble_eq_true rfl, ?_⟩
  refine ⟨_, rfl, rfl, _, _, rfl, _, _, rfl, _, _, rfl, _, _, rfl, rfl, ?_⟩
  refine ⟨_, rfl, _, rfl, by omega, by omega, ?_⟩
  dsimp only
  rw [Int.toNat_natCast, upto0]
  refine ForK.of (fun j ρ M' => ∃ (b' : Bag) (xs : List Int) (r8 : Option D), Gs p X Y Z w M M' b' xs [0] [] ∧ Ps j xs ∧ j ≤ 8 ∧ ρ = [some (.cel p), some (.int (wd : Int)), some (.int (tl : Int)), some (.int m), some (.cel X), some (.cel Y), some (.cel Z), some (.lst []), r8, none, none, none, none, none, none, none, none, none, none, none]) ⟨b, [0], none, g0, p0, by omega, rfl⟩ ?_ ?_
  · rintro j d ρ M' hd ⟨b', xs, r8, g, px, j8, rfl⟩
    obtain ⟨v, hv, v0, v1⟩ := at_last px
    have jw : j < wd := by
      obtain ⟨h3, _⟩ := List.getElem?_eq_some_iff.mp hd
      rw [List.length_map, List.length_range] at h3
      exact h3
    refine ⟨_, rfl, ⟨rfl, _, g.x⟩, _, rfl, _, g.x, _, hv, _, rfl, rfl, pullM g.e.2.1 g.e.2.2 (by decide) (by decide) fun d b1 d0 d1 hb1 => ?_⟩
    have g1 := g.pull a hb1
    refine ⟨_, g1.x, by rw [List.length_map, px.1]; omega, ?_⟩
    have e : xs.map D.int ++ [D.int (v + 1 + d)] = (xs ++ [v + 1 + d]).map D.int := by rw [List.map_append]; rfl
    rw [e]
    exact ⟨b1, _, _, g1.setX a, px.app (by omega) (by omega), by omega, rfl⟩
  rintro ρ M1 ⟨b1, xs, r8, g1, px, _, rfl⟩
  rw [List.length_map, List.length_range] at px
  refine ⟨_, rfl, _, rfl, by omega, by omega, ?_⟩
  dsimp only
  rw [Int.toNat_natCast, upto0]
  refine ForK.of (fun j ρ M' => ∃ (b' : Bag) (ys : List Int) (r8 : Option D), Gs p X Y Z w M M' b' xs ys [] ∧ Ps j ys ∧ j ≤ 8 ∧ ρ = [some (.cel p), some (.int (wd : Int)), some (.int (tl : Int)), some (.int m), some (.cel X), some (.cel Y), some (.cel Z), some (.lst []), r8, none, none, none, none, none, none, none, none, none, none, none]) ⟨b1, [0], r8, g1, p0, by omega, rfl⟩ ?_ ?_
  · rintro j d ρ M' hd ⟨b', ys, r8, g, py, j8, rfl⟩
    obtain ⟨v, hv, v0, v1⟩ := at_last py
    have jw : j < tl := by
      obtain ⟨h3, _⟩ := List.getElem?_eq_some_iff.mp hd
      rw [List.length_map, List.length_range] at h3
      exact h3
    refine ⟨_, rfl, ⟨rfl, _, g.y⟩, _, rfl, _, g.y, _, hv, _, rfl, rfl, pullM g.e.2.1 g.e.2.2 (by decide) (by decide) fun d b1 d0 d1 hb1 => ?_⟩
    have g1 := g.pull a hb1
    refine ⟨_, g1.y, by rw [List.length_map, py.1]; omega, ?_⟩
    have e : ys.map D.int ++ [D.int (v + 1 + d)] = (ys ++ [v + 1 + d]).map D.int := by rw [List.map_append]; rfl
    rw [e]
    exact ⟨b1, _, _, g1.setY a, py.app (by omega) (by omega), by omega, rfl⟩
  rintro ρ M2 ⟨b2, ys, r8, g2, py, _, rfl⟩
  rw [List.length_map, List.length_range] at py
  have ht1 : ((tl : Int) + 1) = ((tl + 1 : Nat) : Int) := by omega
  have hm8 : ∀ z : Int, DL.MulOk (wd : Int) z := fun z => TI.mul2 (by omega) (by omega)
  have hwt : wd * (tl + 1) ≤ 72 := Nat.le_trans (Nat.mul_le_mul hw.2 (Nat.add_le_add_right ht.2 1)) (by decide)
  have hwt2 : wd * tl ≤ 64 := Nat.le_trans (Nat.mul_le_mul hw.2 ht.2) (by decide)
  have hwt3 : 1 ≤ wd * tl := Nat.le_trans (by decide) (Nat.mul_le_mul hw.1 ht.1)
  have e1 : ((wd : Int) * ((tl : Int) + 1)) = ((wd * (tl + 1) : Nat) : Int) := by rw [ht1]; exact (Int.natCast_mul _ _).symm
  have e2 : ((wd : Int) * (tl : Int)) = ((wd * tl : Nat) : Int) := (Int.natCast_mul _ _).symm
  refine ⟨_, rfl, _, rfl, hm8 _, _, rfl, by rw [e1]; omega, by rw [e1]; omega, ?_⟩
  dsimp only
  rw [e1, Int.toNat_natCast, upto0]
  refine ForK.of (fun j ρ M' => ∃ (b' : Bag) (es : List (NestedKey × D)) (r8 r9 r10 r11 : Option D), Gs p X Y Z w M M' b' xs ys es ∧ ExD es ∧ es.length ≤ j ∧ ρ = [some (.cel p), some (.int (wd : Int)), some (.int (tl : Int)), some (.int m), some (.cel X), some (.cel Y), some (.cel Z), some (.lst []), r8, r9, r10, r11, none, none, none, none, none, none, none, none]) ⟨b2, [], r8, none, none, none, g2, (fun k d h => by cases h), Nat.le_refl _, rfl⟩ ?_ ?_
  · rintro j d ρ M' hd ⟨b', es, r8, r9, r10, r11, g, hex, hel, rfl⟩
    obtain ⟨j', hj2, rfl⟩ := map_get hd
    obtain ⟨hj0, hj1⟩ := List.getElem?_eq_some_iff.mp hj2
    rw [List.getElem_range] at hj1
    subst hj1
    rw [List.length_range] at hj0
    have hi : j / (tl + 1) < wd := Nat.div_lt_of_lt_mul (by rw [Nat.mul_comm]; exact hj0)
    have hk : j % (tl + 1) < tl + 1 := Nat.mod_lt _ (by omega)
    refine ⟨_, rfl, _, rfl, divOk (by omega) (by omega), _, rfl, _, rfl, (by show ((tl : Int) + 1) ≠ 0; omega), .int ((j / (tl + 1) : Nat) : Int), .int ((j % (tl + 1) : Nat) : Int), (by show [D.int ((j : Int).fdiv ((tl : Int) + 1)), D.int ((j : Int).fmod ((tl : Int) + 1))] = _; rw [ht1, fdiv_nat, fmod_nat2]), ?_⟩
    generalize j / (tl + 1) = i at hi
    generalize j % (tl + 1) = c at hk
    obtain ⟨x0, hx0, x00, x01⟩ := at_ps px (i := i) (by omega)
    obtain ⟨x1, hx1, x10, x11⟩ := at_ps px (i := i + 1) (by omega)
    obtain ⟨y, hy, y0, y1⟩ := at_ps py (i := c) (by omega)
    have hx1' : atI (xs.map D.int) ((i : Int) + 1) = some (.int x1) := hx1
    refine ⟨_, rfl, _, rfl, _, g.x, _, hx1', _, rfl, _, rfl, _, g.x, _, hx0, ⟨_, rfl, ?_⟩⟩
    refine ite_b (fun z => ?_) (fun z => ?_)
    · have z := of_decide_eq_true z
      refine ⟨_, rfl, rfl, pullM g.e.2.1 g.e.2.2 (by decide) (by decide) fun f b3 f0 f1 hb3 => eqI ⟨_, rfl, ?_⟩⟩
      have g3 := g.pull a hb3
      refine ite_b (fun _ => ?_) (fun _ => ?_)
      · refine ⟨_, rfl, _, rfl, _, g3.x, _, hx0, _, rfl, _, rfl, _, rfl, _, g3.x, _, hx1', _, rfl, _, rfl, _, g3.x, _, hx0, rfl, pullM g3.e.2.1 g3.e.2.2 (by omega) (by omega) fun f' b4 f0' f1' hb4 => ?_⟩
        have g4 := g3.pull a hb4
        refine ⟨_, rfl, _, rfl, _, g4.y, _, hy, Nat.le_of_ble_eq_true rfl, ?_⟩
        refine ⟨_, rfl, _, rfl, _, rfl, _, rfl, _, g4.x, _, hx0, _, rfl, _, rfl, _, g4.y, _, hy, Nat.le_of_ble_eq_true rfl, _, rfl, _, rfl, _, g4.x, _, hx1', _, rfl, _, rfl, _, g4.y, _, hy, Nat.le_of_ble_eq_true rfl, Nat.le_of_ble_eq_true rfl, ?_⟩
        refine ⟨Z, es, TI.sdKs ((x0, y), (x1, y)), rfl, g4.z, by omega, rfl, TI.sdKs_depth _, ?_⟩
        have hput : ExD (dPut es (.tup (TI.sdKs ((x0, y), (x1, y)))) (TI.pt (x0 + 1 + f', y))) := exD_put hex (by unfold Sm; dsimp only; omega)
        exact ⟨b4, _, _, _, _, _, g4.setZ a, hput, Nat.le_trans (TI.dPut_len _ _ _) (by omega), rfl⟩
      · exact ⟨b3, es, _, _, _, _, g3, hex, by omega, rfl⟩
    · exact ⟨b', es, _, _, _, _, g, hex, by omega, rfl⟩
  rintro ρ M3 ⟨b3, es, r8, r9, r10, r11, g3, hex, hel, rfl⟩
  refine ⟨_, rfl, _, rfl, hm8 _, _, rfl, by rw [e2]; omega, by rw [e2]; omega, ?_⟩
  dsimp only
  rw [e2, Int.toNat_natCast, upto0]
  refine ForK.of (fun j ρ M' => ∃ (b' : Bag) (rs : List Gr) (r8 r9 r10 r12 r13 r14 r15 r16 r17 r18 : Option D), Gs p X Y Z w M M' b' xs ys es ∧ (∀ r ∈ rs, RowW r) ∧ j ≤ rs.length ∧ rs.length ≤ 2 * j ∧ ρ = [some (.cel p), some (.int (wd : Int)), some (.int (tl : Int)), some (.int m), some (.cel X), some (.cel Y), some (.cel Z), some (.lst (rs.map rowG)), r8, r9, r10, r11, r12, r13, r14, r15, r16, r17, r18, none]) ⟨b3, [], r8, r9, r10, none, none, none, none, none, none, none, g3, nofun, Nat.le_refl _, Nat.le_refl _, rfl⟩ ?_ ?_
  · rintro j d ρ M' hd ⟨b', rs, r8, r9, r10, r12, r13, r14, r15, r16, r17, r18, g, hrw, l1, l2, rfl⟩
    obtain ⟨j', hj2, rfl⟩ := map_get hd
    obtain ⟨hj0, hj1⟩ := List.getElem?_eq_some_iff.mp hj2
    rw [List.getElem_range] at hj1
    subst hj1
    rw [List.length_range] at hj0
    have hi : j / tl < wd := Nat.div_lt_of_lt_mul (by rw [Nat.mul_comm]; exact hj0)
    have hk : j % tl < tl := Nat.mod_lt _ (by omega)
    refine ⟨_, rfl, _, rfl, divOk (by omega) (by omega), _, rfl, _, rfl, (by show (tl : Int) ≠ 0; omega), .int ((j / tl : Nat) : Int), .int ((j % tl : Nat) : Int), (by show [D.int ((j : Int).fdiv (tl : Int)), D.int ((j : Int).fmod (tl : Int))] = _; rw [fdiv_nat, fmod_nat2]), ?_⟩
    generalize j / tl = i at hi
    generalize j % tl = c at hk
    obtain ⟨x0, hx0, x00, x01⟩ := at_ps px (i := i) (by omega)
    obtain ⟨x1, hx1, x10, x11⟩ := at_ps px (i := i + 1) (by omega)
    obtain ⟨y0, hy0, y00, y01⟩ := at_ps py (i := c) (by omega)
    obtain ⟨y1, hy1, y10, y11⟩ := at_ps py (i := c + 1) (by omega)
    have hx1' : atI (xs.map D.int) ((i : Int) + 1) = some (.int x1) := hx1
    have hy1' : atI (ys.map D.int) ((c : Int) + 1) = some (.int y1) := hy1
    refine ⟨_, rfl, _, rfl, _, g.x, _, hx0, _, rfl, _, rfl, _, g.y, _, hy0, Nat.le_of_ble_eq_true rfl, _, rfl, _, rfl, _, g.x, _, hx1', _, rfl, _, rfl, _, g.y, _, hy0, Nat.le_of_ble_eq_true rfl, _, _, rfl, ?_⟩
    refine ⟨_, rfl, _, rfl, _, g.x, _, hx1', _, rfl, _, rfl, _, g.y, _, hy1', Nat.le_of_ble_eq_true rfl, _, rfl, _, rfl, _, g.x, _, hx0, _, rfl, _, rfl, _, g.y, _, hy1', Nat.le_of_ble_eq_true rfl, _, _, rfl, ?_⟩
    refine ⟨_, rfl, _, rfl, _, rfl, _, rfl, rfl, p, b', m, i, c, rfl, g.e.2.1, g.e.2.2, h0, fun h => by obtain ⟨z1, z2⟩ := h1 h; omega, by omega, fun sx sy b4 hsx hsy hb4 => ?_⟩
    have g4 := g.pull a hb4
    refine ⟨_, rfl, rfl, _, _, rfl, _, _, rfl, rfl, ?_⟩
    have sA : Sm 100 (x0, y0) := by unfold Sm; dsimp only; omega
    have sB : Sm 100 (x1, y0) := by unfold Sm; dsimp only; omega
    have sC : Sm 100 (x1, y1) := by unfold Sm; dsimp only; omega
    have sD : Sm 100 (x0, y1) := by unfold Sm; dsimp only; omega
    refine ⟨_, rfl, _, rfl, _, rfl, _, rfl, Nat.le_of_ble_eq_true rfl, Nat.le_of_ble_eq_true rfl, ?_⟩
    refine ⟨fun ρ M' => ∃ (b' : Bag) (ps : List (List TI.P2)) (r8 r9 r10 r12 r13 r14 r15 : Option D), Gs p X Y Z w M M' b' xs ys es ∧ 1 ≤ ps.length ∧ ps.length ≤ 2 ∧ (∀ l ∈ ps, 3 ≤ l.length ∧ l.length ≤ 4 ∧ ∀ c ∈ l, Sm 100 c) ∧ ρ = [some (.cel p), some (.int (wd : Int)), some (.int (tl : Int)), some (.int m), some (.cel X), some (.cel Y), some (.cel Z), some (.lst (rs.map rowG)), r8, r9, r10, r11, r12, r13, r14, r15, some (.int sx), some (.int sy), some (.lst (ps.map fun l => D.lst (l.map TI.pt))), none], ?_, ?_⟩
    · have one : ∀ M' b', Gs p X Y Z w M M' b' xs ys es → ∀ (ps : List (List TI.P2)), 1 ≤ ps.length → ps.length ≤ 2 → (∀ l ∈ ps, 3 ≤ l.length ∧ l.length ≤ 4 ∧ ∀ c ∈ l, Sm 100 c) → ∃ (b' : Bag) (ps' : List (List TI.P2)) (r8' r9' r10' r12' r13' r14' r15' : Option D), Gs p X Y Z w M M' b' xs ys es ∧ 1 ≤ ps'.length ∧ ps'.length ≤ 2 ∧ (∀ l ∈ ps', 3 ≤ l.length ∧ l.length ≤ 4 ∧ ∀ c ∈ l, Sm 100 c) ∧ [some (.cel p), some (.int (wd : Int)), some (.int (tl : Int)), some (.int m), some (.cel X), some (.cel Y), some (.cel Z), some (.lst (rs.map rowG)), some (D.int (j : Int)), some (.int (i : Int)), some (.int (c : Int)), r11, some (TI.pt (x0, y0)), some (TI.pt (x1, y0)), some (TI.pt (x1, y1)), some (TI.pt (x0, y1)), some (.int sx), some (.int sy), some (.lst (ps.map fun l => D.lst (l.map TI.pt))), none] = [some (.cel p), some (.int (wd : Int)), some (.int (tl : Int)), some (.int m), some (.cel X), some (.cel Y), some (.cel Z), some (.lst (rs.map rowG)), r8', r9', r10', r11, r12', r13', r14', r15', some (.int sx), some (.int sy), some (.lst (ps'.map fun l => D.lst (l.map TI.pt))), none] := fun M' b' g ps h1 h2 h3 => ⟨b', ps, _, _, _, _, _, _, _, g, h1, h2, h3, rfl⟩
      refine ⟨_, rfl, rfl, pullM g4.e.2.1 g4.e.2.2 (by decide) (by decide) fun f b5 f0 f1 hb5 => eqI ⟨_, rfl, ?_⟩⟩
      have g5 := g4.pull a hb5
      refine ite_b (fun _ => ?_) (fun _ => ?_)
      · refine ⟨_, rfl, _, rfl, neI ⟨_, rfl, ?_⟩⟩
        refine ite_b (fun _ => ?_) (fun _ => ?_)
        · refine ⟨_, rfl, _, rfl, _, rfl, Nat.le_of_ble_eq_true rfl, _, rfl, _, rfl, _, rfl, Nat.le_of_ble_eq_true rfl, Nat.le_of_ble_eq_true rfl, ?_⟩
          exact one _ b5 g5 [[(x0, y0), (x1, y0), (x1, y1)], [(x0, y0), (x1, y1), (x0, y1)]] (Nat.le_of_ble_eq_true rfl) (Nat.le_of_ble_eq_true rfl) (fun l hl => by simp only [List.mem_cons, List.not_mem_nil, or_false] at hl; first | (rcases hl with rfl | rfl <;> exact ⟨Nat.le_of_ble_eq_true rfl, Nat.le_of_ble_eq_true rfl, fun c hc => by simp only [List.mem_cons, List.not_mem_nil, or_false] at hc; rcases hc with rfl | rfl | rfl <;> assumption⟩) | (subst hl; exact ⟨Nat.le_of_ble_eq_true rfl, Nat.le_of_ble_eq_true rfl, fun c hc => by simp only [List.mem_cons, List.not_mem_nil, or_false] at hc; rcases hc with rfl | rfl | rfl | rfl <;> assumption⟩))
        · refine ⟨_, rfl, _, rfl, _, rfl, Nat.le_of_ble_eq_true rfl, _, rfl, _, rfl, _, rfl, Nat.le_of_ble_eq_true rfl, Nat.le_of_ble_eq_true rfl, ?_⟩
          exact one _ b5 g5 [[(x0, y0), (x1, y0), (x0, y1)], [(x1, y0), (x1, y1), (x0, y1)]] (Nat.le_of_ble_eq_true rfl) (Nat.le_of_ble_eq_true rfl) (fun l hl => by simp only [List.mem_cons, List.not_mem_nil, or_false] at hl; first | (rcases hl with rfl | rfl <;> exact ⟨Nat.le_of_ble_eq_true rfl, Nat.le_of_ble_eq_true rfl, fun c hc => by simp only [List.mem_cons, List.not_mem_nil, or_false] at hc; rcases hc with rfl | rfl | rfl <;> assumption⟩) | (subst hl; exact ⟨Nat.le_of_ble_eq_true rfl, Nat.le_of_ble_eq_true rfl, fun c hc => by simp only [List.mem_cons, List.not_mem_nil, or_false] at hc; rcases hc with rfl | rfl | rfl | rfl <;> assumption⟩))
      · exact one _ b5 g5 [[(x0, y0), (x1, y0), (x1, y1), (x0, y1)]] (Nat.le_of_ble_eq_true rfl) (Nat.le_of_ble_eq_true rfl) (fun l hl => by simp only [List.mem_cons, List.not_mem_nil, or_false] at hl; first | (rcases hl with rfl | rfl <;> exact ⟨Nat.le_of_ble_eq_true rfl, Nat.le_of_ble_eq_true rfl, fun c hc => by simp only [List.mem_cons, List.not_mem_nil, or_false] at hc; rcases hc with rfl | rfl | rfl <;> assumption⟩) | (subst hl; exact ⟨Nat.le_of_ble_eq_true rfl, Nat.le_of_ble_eq_true rfl, fun c hc => by simp only [List.mem_cons, List.not_mem_nil, or_false] at hc; rcases hc with rfl | rfl | rfl | rfl <;> assumption⟩))
    · rintro ρ M5 ⟨b5, ps, r8, r9, r10, r12, r13, r14, r15, g5, p1, p2, hp, rfl⟩
      refine ⟨_, rfl, _, rfl, ?_⟩
      refine LcK.of (by rw [List.length_map]; omega) (fun n acc M' => ∃ (b' : Bag) (ss : List Gr), acc = ss.map rowG ∧ ss.length = n ∧ (∀ r ∈ ss, RowW r) ∧ Gs p X Y Z w M M' b' xs ys es) ⟨b5, [], rfl, rfl, nofun, g5⟩ ?_ ?_
      · rintro n d acc M6 hd ⟨b6, ss, rfl, hsl, hss, g6⟩
        obtain ⟨l, hl, rfl⟩ := map_get hd
        obtain ⟨q1, q2, q3⟩ := hp l (List.mem_of_getElem? hl)
        refine lcY ?_
        refine ⟨_, rfl, _, rfl, rfl, _, es, l, rfl, .inr ⟨Z, rfl, g6.z⟩, hex, q1, q2, q3, fun M7 cs hE c1 c2 c3 => ?_⟩
        have g7 := g6.ext hE
        refine ⟨_, rfl, _, rfl, _, rfl, rfl, p, b6, sx, sy, rfl, g7.e.2.1, g7.e.2.2, hsx, hsy, fun u v b8 hb8 hu hv hcr => ⟨Nat.le_of_ble_eq_true rfl, ?_⟩⟩
        have quad : ∀ c : TI.P2, TI.Quad sx sy c → Sm 3 c := fun c hc => by
          obtain ⟨z1, z2⟩ := hc
          unfold Sm
          omega
        refine ⟨b8, ss ++ [(cs, (u, v))], by rw [List.map_append]; rfl, by rw [List.length_append, hsl]; rfl, fun r hr => ?_, g7.pull a hb8⟩
        rcases List.mem_append.mp hr with y | y
        · exact hss r y
        · rw [List.mem_singleton.mp y]
          exact ⟨c1, c2, c3, quad u hu, quad v hv⟩
      · rintro acc M6 ⟨b6, ss, rfl, hsl, hss, g6⟩
        rw [List.length_map] at hsl
        refine ⟨by rw [List.length_map, List.length_map]; omega, ?_⟩
        refine ⟨b6, rs ++ ss, r8, r9, r10, r12, r13, r14, r15, some (.int sx), some (.int sy), some (.lst (ps.map fun l => D.lst (l.map TI.pt))), g6, fun r hr => ?_, by rw [List.length_append]; omega, by rw [List.length_append]; omega, ?_⟩
        · rcases List.mem_append.mp hr with y | y
          · exact hrw r y
          · exact hss r y
        · rw [List.map_append]
          rfl
  rintro ρ M4 ⟨b4, rs, r8, r9, r10, r12, r13, r14, r15, r16, r17, r18, g4, hrw, l1, l2, rfl⟩
  rw [List.length_map, List.length_range] at l1 l2
  exact ⟨_, rfl, q M4 b4 rs g4.e hrw (by omega) (by omega)⟩
def ph__law_drawn : Ct := fun ds M k _ => ∃ (p : Addr) (b : Bag) (wd tl : Nat), ds = [.cel p, .int wd, .int tl] ∧ M p = some b.mo ∧ b.Ok ∧ (1 ≤ wd ∧ wd ≤ 8) ∧ (1 ≤ tl ∧ tl ≤ 8) ∧ ∀ (M' : Mm) (b' : Bag) (ts : List TI.Tl), ExtB p M M' b' → (∀ t ∈ ts, TlW t) → 1 ≤ ts.length → ts.length ≤ 128 → k (.tup [.lst (ts.map TI.rowD), .lst []]) M'
theorem ok__law_drawn {K : PySem.W.Frag} {mg : Str → Option Value} {ad : Nat → Addr} {fd : Nat → FuncData} {cl : Nat → Addr} {P : Program} {w : World} {base : Heap} (T : Txt K mg ad fd cl) : FnOk P w K mg base (L2.CX P w) 9 (ad 51) (fd 51) ["_law_bag", "_law_wide", "_law_tall"] (spD K 3 ph__law_drawn) := by
  have G__law_pick := ok__law_pick (P := P) (w := w) (base := base) T
  have G__law_finished := ok__law_finished (P := P) (w := w) (base := base) T
  have G__law_grid := ok__law_grid (P := P) (w := w) (base := base) T
  refine fn_D T.F__law_drawn sc__law_drawn rfl fun cdv A outer s H E hr hp ho => ⟨_, (b_cons (s_set (i := 3) sc__law_drawn.nd rfl (Or.inl rfl) (d_if (DPW.t (w_and (t_cmp (o_eq hr.units) (dv 1) d_int (nomark _)) (w_and1 (t_cmp (o_eq hr.units) (dv 2) d_int (nomark _))))) (d_call G__law_pick (hr.mono (by decide)) rfl T.m__law_pick T.k__law_pick T.kb__law_pick_2 (by intro _ _ h _; exact h) hp (a_cons (dv 0) (a_cons (d_lst (a_cons d_int (a_cons d_int (a_cons d_int a_nil)))) a_nil))) d_int))
  (b_one (s_ret (d_call G__law_finished (hr.mono (by decide)) rfl T.m__law_finished T.k__law_finished T.kb__law_finished_2 (by intro _ _ h _; exact h) hp (a_cons (dv 0) (a_cons (d_call G__law_grid (hr.mono (by decide)) rfl T.m__law_grid T.k__law_grid T.kb__law_grid_4 (by intro _ _ h _; exact h) hp (a_cons (dv 0) (a_cons (dv 1) (a_cons (dv 2) (a_cons (dv 3) a_nil))))) a_nil)))))), ?_⟩
  clear hp ho hr G__law_pick G__law_finished G__law_grid
  rintro ds M k x hl ⟨p, b, wd, tl, rfl, hm, hb, hw, ht, q⟩
  have rest : ∀ (m : Int) (M1 : Mm) (b1 : Bag), (m = 0 ∨ m = 1 ∨ m = 2) → (m ≠ 0 → wd = 2 ∧ tl = 2) → ExtB p M M1 b1 → dRet (dCall 2 ph__law_finished (fun us x => us) (dCons (dVar 0) (dCons (dCall 4 (ph__law_grid w) (fun us x => us) (dCons (dVar 0) (dCons (dVar 1) (dCons (dVar 2) (dCons (dVar 3) dNil))))) dNil))) { nx := fun x M => k D.non M, rt := k, m0 := M } x [some (.cel p), some (.int (wd : Int)), some (.int (tl : Int)), some (.int m)] M1 := by
    intro m M1 b1 h1 h2 hE
    refine ⟨_, rfl, _, rfl, _, rfl, _, rfl, _, rfl, rfl, p, b1, wd, tl, m, rfl, hE.2.1, hE.2.2, hw, ht, h1, h2, fun M2 b2 rs hE2 hr l1 l2 => ?_⟩
    exact ⟨rfl, p, b2, rs, rfl, hE2.2.1, hE2.2.2, hr, l1, l2, fun M3 b3 ts hE3 h3 l3 l4 => q M3 b3 ts ((hE.trans hE2).trans hE3) h3 l3 l4⟩
  refine ⟨_, rfl, eqI ⟨_, rfl, ?_⟩⟩
  refine ite_b (fun e1 => ?_) (fun e1 => ?_)
  · refine ⟨_, rfl, eqI ⟨_, rfl, ?_⟩⟩
    refine ite_b (fun e2 => ?_) (fun e2 => ?_)
    · have e1 := of_decide_eq_true e1
      have e2 := of_decide_eq_true e2
      refine ⟨_, rfl, Nat.le_of_ble_eq_true rfl, rfl, pickM hm hb (by decide) (by decide) fun d hd b1 hb1 => ?_⟩
      obtain ⟨m, rfl, hm3⟩ : ∃ m : Int, d = .int m ∧ (m = 0 ∨ m = 1 ∨ m = 2) := by
        simp only [List.mem_cons, List.not_mem_nil, or_false] at hd
        rcases hd with rfl | rfl | rfl
        · exact ⟨0, rfl, .inl rfl⟩
        · exact ⟨1, rfl, .inr (.inl rfl)⟩
        · exact ⟨2, rfl, .inr (.inr rfl)⟩
      exact rest m _ b1 hm3 (fun _ => ⟨by omega, by omega⟩) (.of hb1)
    · exact rest 0 M b (.inl rfl) (fun h => absurd rfl h) (.base hm hb)
  · exact rest 0 M b (.inl rfl) (fun h => absurd rfl h) (.base hm hb)
end W12
set_option Elab.async false
set_option linter.all false
set_option maxRecDepth 100000
set_option maxHeartbeats 4000000
set_option pp.deepTerms false
set_option pp.deepTerms.threshold 12
set_option pp.maxSteps 4000
namespace W12
open PySem PySem.Spec PyProof.Rows L2 DL
local macro_rules | `(tactic| walk_at "sc") => `(tactic| first | assumption | rfl | exact Nat.le_of_ble_eq_true rfl | decide | omega | exact mul_small (by omega) (by omega) | exact mul_smallR (by omega) (by omega) | exact ⟨by decide, by decide, by decide⟩ | exact ⟨by omega, by assumption⟩ | exact ⟨by decide, log2_small (by decide) (by decide)⟩)
local macro_rules | `(tactic| walk_at "go1") => `(tactic| first | refine ⟨_, rfl, ?_⟩ | refine ⟨rfl, ?_⟩ | refine ⟨_, by assumption, ?_⟩ | refine ⟨_, mup_same, ?_⟩ | refine eqI ?_ | refine neI ?_ | refine iteT ?_ | refine iteF ?_ | refine ⟨(by walk_at "sc"), ?_⟩)
local macro_rules | `(tactic| walk_at "go") => `(tactic| repeat walk_at "go1")
def LL (n : Nat) (ds : List D) : Prop := ds.length ≤ n ∧ ∀ e ∈ ds, PtV e
theorem LL.cut {n : Nat} {ds : List D} {lo hi : Option Int} (h : LL n ds) : LL n (DL.cutD ds lo hi) := ⟨Nat.le_trans (by unfold DL.cutD; rw [List.length_take, List.length_drop]; omega) h.1, fun e he => h.2 e (mem_cutD he)⟩
theorem LL.app {n m : Nat} {a b : List D} (ha : LL n a) (hb : LL m b) : LL (n + m) (a ++ b) := ⟨by rw [List.length_append]; have := ha.1; have := hb.1; omega, fun e he => by
  rcases List.mem_append.mp he with z | z
  · exact ha.2 e z
  · exact hb.2 e z⟩
theorem LL.one {d : D} (h : PtV d) : LL 1 [d] := ⟨Nat.le_refl _, fun e he => by rw [List.mem_singleton.mp he]; exact h⟩
theorem LL.nil : LL 0 [] := ⟨Nat.le_refl _, nofun⟩
theorem LL.lst {n : Nat} {ds : List D} (h : LL n ds) (hn : n ≤ 100) : LsV (.lst ds) := lsV_lst (Nat.le_trans h.1 hn) h.2
theorem LL.tup {n : Nat} {ds : List D} (h : LL n ds) (hn : n ≤ 100) : LsV (.tup ds) := lsV_tup (Nat.le_trans h.1 hn) h.2
theorem LL.two {a b : D} (ha : PtV a) (hb : PtV b) : LL 2 [a, b] := (LL.one ha).app (LL.one hb)
theorem LL.len {n : Nat} {ds : List D} (h : LL n ds) : ds.length ≤ n := h.1
theorem at_any {cs : List TI.P2} {i : Int} (h0 : -(cs.length : Int) ≤ i) (h1 : i < cs.length) : ∃ c, c ∈ cs ∧ atI (cs.map TI.pt) i = some (TI.pt c) := by
  unfold atI ixN
  rw [List.length_map]
  by_cases z : 0 ≤ i
  · have hl : i.toNat < cs.length := by omega
    refine ⟨cs[i.toNat], List.getElem_mem hl, ?_⟩
    rw [if_pos z, if_pos h1]
    show (cs.map TI.pt)[i.toNat]? = _
    rw [List.getElem?_map, List.getElem?_eq_getElem hl]
    rfl
  · have hl : (i + cs.length).toNat < cs.length := by omega
    refine ⟨cs[(i + cs.length).toNat], List.getElem_mem hl, ?_⟩
    rw [if_neg z, if_pos h0]
    show (cs.map TI.pt)[_]? = _
    rw [List.getElem?_map, List.getElem?_eq_getElem hl]
    rfl
theorem ptV_k {d : D} (h : (kd d).isSome = true) (h2 : ∀ es, d ≠ .tup es) : PtV d := ⟨h, fun es e => absurd e (h2 es)⟩
theorem ptV_t {es : List D} (h : es.length ≤ 100) (h2 : ∀ e ∈ es, (kd e).isSome = true) : PtV (.tup es) := ⟨rfl, fun es' e => by cases e; exact ⟨h, h2⟩⟩
theorem cp6 : CPow 10 6 := ⟨by decide, by decide, by decide⟩
theorem cp5 : CPow 10 5 := ⟨by decide, by decide, by decide⟩
/-- what a law takes as corners -/
def ph__law_bent_dots : Ct := fun ds M k _ => ∃ (p : Addr) (b : Bag) (cs : List TI.P2), ds = [.cel p, .lst (cs.map TI.pt)] ∧ M p = some b.mo ∧ b.Ok ∧ 3 ≤ cs.length ∧ cs.length ≤ 8 ∧ (∀ c ∈ cs, Sm 100000000 c) ∧ ∀ (u : D) (b' : Bag), LsV u → b'.Ok → k u (mup M p b'.mo)
theorem ok__law_bent_dots {K : PySem.W.Frag} {mg : Str → Option Value} {ad : Nat → Addr} {fd : Nat → FuncData} {cl : Nat → Addr} {P : Program} {w : World} {base : Heap} (T : Txt K mg ad fd cl) : FnOk P w K mg base (L2.CX P w) 5 (ad 52) (fd 52) ["_law_bag", "_law_dots"] (spD K 2 ph__law_bent_dots) := by
  have G__law_pull := ok__law_pull (P := P) (w := w) (base := base) T
  have G__law_pick := ok__law_pick (P := P) (w := w) (base := base) T
  refine fn_D T.F__law_bent_dots sc__law_bent_dots rfl fun cdv A outer s H E hr hp ho => ⟨_, (b_cons (s_par (i := 2) (j := 3) rfl sc__law_bent_dots.nd rfl rfl (by decide) rfl rfl (a_cons (d_call G__law_pull (hr.mono (by decide)) rfl T.m__law_pull T.k__law_pull T.kb__law_pull_2 (by intro _ _ h _; exact h) hp (a_cons (dv 0) (a_cons (d_callB c_len rfl T.b_len boot_len' (a_cons (dv 1) a_nil)) a_nil))) (a_cons (d_call G__law_pull (hr.mono (by decide)) rfl T.m__law_pull T.k__law_pull T.kb__law_pull_2 (by intro _ _ h _; exact h) hp (a_cons (dv 0) (a_cons d_int a_nil))) a_nil)) rfl)
  (b_cons (s_asg (d_tup (a_cons (d_ix x_ix (dv 1) (dv 2) (fun _ _ => rfl)) (a_cons (d_ix x_ix (dv 1) (d_op o_sub (dv 2) d_int) (fun _ _ => rfl)) a_nil))) (g_tup (n := 2) rfl (gs_cons (g_name (i := 4) sc__law_bent_dots.nd rfl (Or.inl rfl)) (gs_cons (g_name (i := 5) sc__law_bent_dots.nd rfl (Or.inr rfl)) gs_nil))))
  (b_cons (s_if (t_cmp (o_eq hr.units) (dv 3) d_int (nomark _)) (b_one (s_ret (d_rev (dv 1)))) b_nil)
  (b_cons (s_if (t_cmp (o_eq hr.units) (dv 3) d_int (nomark _)) (b_one (s_ret (d_op o_add (d_op o_add (d_slice sl_D (dv 1) o_none (o_some (dv 2))) (d_lst (a_cons (d_call G__law_pick (hr.mono (by decide)) rfl T.m__law_pick T.k__law_pick T.kb__law_pick_2 (by intro _ _ h _; exact h) hp (a_cons (dv 0) (a_cons (d_lst (a_cons d_non (a_cons (dv 5) (a_cons (d_tup (a_cons d_int a_nil)) (a_cons (d_lst (a_cons d_int (a_cons d_int a_nil))) (a_cons (d_tup (a_cons (d_op o_add (d_op o_pow d_int d_int) d_int) (a_cons d_int a_nil))) (a_cons (d_tup (a_cons d_bl (a_cons d_int a_nil))) (a_cons d_int a_nil)))))))) a_nil))) a_nil))) (d_slice sl_D (dv 1) (o_some (d_op o_add (dv 2) d_int)) o_none)))) b_nil)
  (b_cons (s_if (t_cmp (o_eq hr.units) (dv 3) d_int (nomark _)) (b_one (s_ret (d_op o_add (d_slice sl_D (dv 1) o_none (o_some (dv 2))) (d_slice sl_D (dv 1) (o_some (d_op o_add (dv 2) d_int)) o_none)))) b_nil)
  (b_cons (s_if (t_cmp (o_eq hr.units) (dv 3) d_int (nomark _)) (b_one (s_ret (d_op o_add (d_op o_add (d_slice sl_D (dv 1) o_none (o_some (dv 2))) (d_lst (a_cons (d_tup (a_cons (d_op o_add (d_op o_add (d_ix x_ix (dv 5) d_int (fun _ _ => rfl)) (d_op o_pow d_int d_int)) (dv 2)) (a_cons (d_ix x_ix (dv 5) d_int (fun _ _ => rfl)) a_nil))) a_nil))) (d_slice sl_D (dv 1) (o_some (dv 2)) o_none)))) b_nil)
  (b_cons (s_if (t_cmp (o_eq hr.units) (dv 3) d_int (nomark _)) (b_one (s_ret (d_op o_add (dv 1) (d_lc (own := [("_law_k", 6)]) rfl sc__law_bent_dots.nd (i_range2 rfl T.b_range (a_cons d_int (a_cons d_int a_nil))) (blkOk_by (own := [("_law_k", 6)]) (N := ["_law_bag", "_law_dots", "_law_at", "_law_way", "_law_p", "_law_q", "_law_k"]) (sc := (defScope st__law_bent_dots)) (by decide +kernel)) (gp_name (by decide)) (fun _ _ _ _ _ => (pg_name (i := 6) sc__law_bent_dots.nd rfl (Or.inl rfl))) (fun _ _ _ _ _ => ts_nil) (fun _ _ _ _ _ => (d_tup (a_cons (dv 6) (a_cons (d_op o_sub (d_op o_pow d_int d_int) (d_op o_mul (dv 6) (dv 6))) a_nil)))))))) b_nil)
  (b_cons (s_if (t_cmp (o_eq hr.units) (dv 3) d_int (nomark _)) (b_one (s_ret (d_call G__law_pick (hr.mono (by decide)) rfl T.m__law_pick T.k__law_pick T.kb__law_pick_2 (by intro _ _ h _; exact h) hp (a_cons (dv 0) (a_cons (d_lst (a_cons d_non (a_cons d_int (a_cons d_str (a_cons (d_slice sl_D (dv 1) o_none (o_some d_int)) (a_cons (d_slice sl_D (dv 1) o_none (o_some d_int)) (a_cons (d_lst a_nil) (a_cons (d_tup a_nil) a_nil)))))))) a_nil))))) b_nil)
  (b_cons (s_if (DPW.t (w_and (t_cmp (o_eq hr.units) (dv 3) d_int (nomark _)) (w_and1 (t_cmp o_gt (d_callB c_len rfl T.b_len boot_len' (a_cons (dv 1) a_nil)) d_int (nomark _))))) (b_one (s_ret (d_op o_add (d_op o_add (d_slice sl_D (dv 1) o_none (o_some (dv 2))) (d_lst (a_cons (d_tup (a_cons (d_op o_sub (d_op o_add (d_ix x_ix (dv 4) d_int (fun _ _ => rfl)) (d_call G__law_pull (hr.mono (by decide)) rfl T.m__law_pull T.k__law_pull T.kb__law_pull_2 (by intro _ _ h _; exact h) hp (a_cons (dv 0) (a_cons d_int a_nil)))) d_int) (a_cons (d_op o_sub (d_op o_add (d_ix x_ix (dv 4) d_int (fun _ _ => rfl)) (d_call G__law_pull (hr.mono (by decide)) rfl T.m__law_pull T.k__law_pull T.kb__law_pull_2 (by intro _ _ h _; exact h) hp (a_cons (dv 0) (a_cons d_int a_nil)))) d_int) a_nil))) a_nil))) (d_slice sl_D (dv 1) (o_some (d_op o_add (dv 2) d_int)) o_none)))) b_nil)
  (b_cons (s_if (t_cmp (o_eq hr.units) (dv 3) d_int (nomark _)) (b_one (s_ret (d_lc (own := [("_law_k", 6)]) rfl sc__law_bent_dots.nd (i_range1 rfl T.b_range (a_cons d_int a_nil)) (blkOk_by (own := [("_law_k", 6)]) (N := ["_law_bag", "_law_dots", "_law_at", "_law_way", "_law_p", "_law_q", "_law_k"]) (sc := (defScope st__law_bent_dots)) (by decide +kernel)) (gp_name (by decide)) (fun _ _ _ _ _ => (pg_name (i := 6) sc__law_bent_dots.nd rfl (Or.inl rfl))) (fun _ _ _ _ _ => ts_nil) (fun _ _ _ _ _ => (d_tup (a_cons (d_op o_add (d_ix x_ix (dv 5) d_int (fun _ _ => rfl)) (dv 6)) (a_cons (d_op o_add (d_ix x_ix (dv 5) d_int (fun _ _ => rfl)) (d_op o_mul d_int (dv 6))) a_nil))))))) b_nil)
  (b_one (s_ret (d_callTy c_tuple rfl T.b_tuple boot_tuple' (a_cons (dv 1) a_nil)))))))))))))), ?_⟩
  clear hp ho hr G__law_pull G__law_pick
  rintro ds M k x hl ⟨p, b, cs, rfl, hm, hb, l0, l1, hc, q⟩
  have big : 1000 ≤ sizeLine := by decide
  have hpl : (cs.map TI.pt).length = cs.length := List.length_map ..
  have C : LL 8 (cs.map TI.pt) := ⟨by omega, ptV_map⟩
  refine ⟨_, rfl, _, rfl, rfl, pullM hm hb (by omega) (by omega) fun at_ b1 a0 a1 hb1 => ?_⟩
  refine ⟨_, rfl, rfl, pullM mup_same hb1 (by decide) (by decide) fun wy b2 w0 w1 hb2 => ⟨_, _, rfl, ?_⟩⟩
  rw [mup_mup]
  obtain ⟨c1, _, hc1⟩ := at_any (cs := cs) (i := at_) (by omega) (by omega)
  obtain ⟨c2, _, hc2⟩ := at_any (cs := cs) (i := at_ - 1) (by omega) (by omega)
  refine ⟨_, rfl, _, rfl, _, hc1, _, rfl, _, rfl, _, hc2, Nat.le_of_ble_eq_true rfl, ?_⟩
  refine ⟨_, rfl, rfl, _, _, rfl, _, _, rfl, rfl, ?_⟩
  have A : LL 8 (DL.cutD (cs.map TI.pt) none (some at_)) := C.cut
  have B : LL 8 (DL.cutD (cs.map TI.pt) (some (at_ + 1)) none) := C.cut
  have B' : LL 8 (DL.cutD (cs.map TI.pt) (some at_) none) := C.cut
  have lA := A.len
  have lB := B.len
  have lB' := B'.len
  refine ⟨_, rfl, eqI ⟨_, rfl, ?_⟩⟩
  refine ite_b (fun _ => ?_) (fun _ => ?_)
  · exact ⟨_, rfl, q _ b2 (lsV_lst (by rw [List.length_reverse]; omega) fun e he => C.2 e (List.mem_reverse.mp he)) hb2⟩
  refine ⟨_, rfl, eqI ⟨_, rfl, ?_⟩⟩
  refine ite_b (fun _ => ?_) (fun _ => ?_)
  · refine ⟨_, rfl, _, rfl, _, rfl, _, rfl, _, rfl, Nat.le_of_ble_eq_true rfl, Nat.le_of_ble_eq_true rfl, cp6, Nat.le_of_ble_eq_true rfl, Nat.le_of_ble_eq_true rfl, Nat.le_of_ble_eq_true rfl, rfl, pickM mup_same hb2 (Nat.le_of_ble_eq_true rfl) (Nat.le_of_ble_eq_true rfl) fun d hd b3 hb3 => ?_⟩
    have hdv : PtV d := by
      simp only [List.mem_cons, List.not_mem_nil, or_false] at hd
      rcases hd with rfl | rfl | rfl | rfl | rfl | rfl | rfl
      · exact ptV_k rfl nofun
      · exact ptV_pt _
      · exact ptV_t (Nat.le_of_ble_eq_true rfl) (by simp [kd])
      · exact ptV_k rfl nofun
      · exact ptV_t (Nat.le_of_ble_eq_true rfl) (by simp [kd])
      · exact ptV_t (Nat.le_of_ble_eq_true rfl) (by simp [kd])
      · exact ptV_k rfl nofun
    rw [mup_mup]
    refine ⟨Nat.le_of_ble_eq_true rfl, by show _ + 1 ≤ _; omega, _, rfl, _, rfl, _, rfl, by rw [List.length_append]; show _ + 1 + _ ≤ _; omega, ?_⟩
    exact q _ b3 (((A.app (LL.one hdv)).app B).lst (by decide)) hb3
  refine ⟨_, rfl, eqI ⟨_, rfl, ?_⟩⟩
  refine ite_b (fun _ => ?_) (fun _ => ?_)
  · exact ⟨_, rfl, _, rfl, _, rfl, _, rfl, _, rfl, _, rfl, by omega, q _ b2 ((A.app B).lst (by decide)) hb2⟩
  refine ⟨_, rfl, eqI ⟨_, rfl, ?_⟩⟩
  refine ite_b (fun _ => ?_) (fun _ => ?_)
  · refine ⟨_, rfl, _, rfl, _, rfl, _, rfl, _, rfl, cp5, _, rfl, _, rfl, _, rfl, Nat.le_of_ble_eq_true rfl, Nat.le_of_ble_eq_true rfl, by show _ + 1 ≤ _; omega, _, rfl, _, rfl, _, rfl, by rw [List.length_append]; show _ + 1 + _ ≤ _; omega, ?_⟩
    exact q _ b2 (((A.app (LL.one (ptV_pt (_, _)))).app B').lst (by decide)) hb2
  refine ⟨_, rfl, eqI ⟨_, rfl, ?_⟩⟩
  refine ite_b (fun _ => ?_) (fun _ => ?_)
  · refine ⟨_, rfl, _, _, rfl, ⟨by decide, by decide, by decide, by decide⟩, ?_⟩
    refine LcK.of (by rw [upto_length]; decide) (fun j acc M' => LL j acc ∧ M' = mup M p b2.mo) ⟨LL.nil, rfl⟩ ?_ ?_
    · rintro j d acc M' hd ⟨hacc, rfl⟩
      obtain ⟨hj, rfl⟩ := upto_get hd
      have hj : j < 8 := hj
      refine lcY ?_
      refine ⟨_, rfl, cp6, _, rfl, _, rfl, TI.mul2 (by omega) (by omega), Nat.le_of_ble_eq_true rfl, ?_⟩
      exact ⟨hacc.app (LL.one (ptV_pt (_, _))), rfl⟩
    · rintro acc M' ⟨hacc, rfl⟩
      have h8 : LL 8 acc := hacc
      have l8 := h8.len
      exact ⟨by omega, q _ b2 ((C.app h8).lst (by decide)) hb2⟩
  refine ⟨_, rfl, eqI ⟨_, rfl, ?_⟩⟩
  refine ite_b (fun _ => ?_) (fun _ => ?_)
  · refine ⟨_, rfl, _, rfl, _, rfl, _, rfl, _, rfl, Nat.le_of_ble_eq_true rfl, Nat.le_of_ble_eq_true rfl, Nat.le_of_ble_eq_true rfl, rfl, pickM mup_same hb2 (Nat.le_of_ble_eq_true rfl) (Nat.le_of_ble_eq_true rfl) fun d hd b3 hb3 => ?_⟩
    rw [mup_mup]
    refine q d b3 ?_ hb3
    simp only [List.mem_cons, List.not_mem_nil, or_false] at hd
    rcases hd with rfl | rfl | rfl | rfl | rfl | rfl | rfl
    · exact ⟨rfl, nofun⟩
    · exact ⟨rfl, nofun⟩
    · exact ⟨rfl, nofun⟩
    · exact C.cut.lst (by decide)
    · exact C.cut.lst (by decide)
    · exact LL.nil.lst (by decide)
    · exact LL.nil.tup (by decide)
  refine ⟨_, rfl, eqI ⟨_, rfl, ?_⟩⟩
  refine ite_b (fun _ => ?_) (fun _ => ?_)
  · refine ⟨_, rfl, ⟨_, rfl, ?_⟩⟩
    refine ite_b (fun _ => ?_) (fun _ => ?_)
    · refine ⟨_, rfl, _, rfl, _, rfl, _, rfl, _, rfl, _, rfl, rfl, pullM mup_same hb2 (by decide) (by decide) fun e1 b3 e10 e11 hb3 => ?_⟩
      rw [mup_mup]
      refine ⟨_, rfl, _, rfl, _, rfl, rfl, pullM mup_same hb3 (by decide) (by decide) fun e2 b4 e20 e21 hb4 => ?_⟩
      rw [mup_mup]
      refine ⟨Nat.le_of_ble_eq_true rfl, Nat.le_of_ble_eq_true rfl, by show _ + 1 ≤ _; omega, _, rfl, _, rfl, _, rfl, by rw [List.length_append]; show _ + 1 + _ ≤ _; omega, ?_⟩
      exact q _ b4 (((A.app (LL.one (ptV_pt (_, _)))).app B).lst (by decide)) hb4
    · refine ⟨_, rfl, eqI ⟨_, rfl, ?_⟩⟩
      refine ite_b (fun _ => ?_) (fun _ => ?_)
      · refine ⟨_, rfl, by decide, by decide, ?_⟩
        refine LcK.of (by rw [upto_length]; decide) (fun j acc M' => LL j acc ∧ M' = mup M p b2.mo) ⟨LL.nil, rfl⟩ ?_ ?_
        · rintro j d acc M' hd ⟨hacc, rfl⟩
          obtain ⟨_, rfl⟩ := upto_get hd
          refine lcY ?_
          refine ⟨_, rfl, _, rfl, _, rfl, _, rfl, _, rfl, _, rfl, TI.mul2 (by decide) (by decide), Nat.le_of_ble_eq_true rfl, ?_⟩
          exact ⟨hacc.app (LL.one (ptV_pt (_, _))), rfl⟩
        · rintro acc M' ⟨hacc, rfl⟩
          exact q _ b2 (hacc.lst (by rw [upto_length]; decide)) hb2
      · exact ⟨_, rfl, q _ b2 (C.tup (by decide)) hb2⟩
  · refine ⟨_, rfl, eqI ⟨_, rfl, ?_⟩⟩
    refine ite_b (fun _ => ?_) (fun _ => ?_)
    · refine ⟨_, rfl, by decide, by decide, ?_⟩
      refine LcK.of (by rw [upto_length]; decide) (fun j acc M' => LL j acc ∧ M' = mup M p b2.mo) ⟨LL.nil, rfl⟩ ?_ ?_
      · rintro j d acc M' hd ⟨hacc, rfl⟩
        obtain ⟨_, rfl⟩ := upto_get hd
        refine lcY ?_
        refine ⟨_, rfl, _, rfl, _, rfl, _, rfl, _, rfl, _, rfl, TI.mul2 (by decide) (by decide), Nat.le_of_ble_eq_true rfl, ?_⟩
        exact ⟨hacc.app (LL.one (ptV_pt (_, _))), rfl⟩
      · rintro acc M' ⟨hacc, rfl⟩
        exact q _ b2 (hacc.lst (by rw [upto_length]; decide)) hb2
    · exact ⟨_, rfl, q _ b2 (C.tup (by decide)) hb2⟩
def ph__law_bent_winds : Ct := fun ds M k _ => ∃ (p : Addr) (b : Bag) (u v : TI.P2) (d : D), ds = [.cel p, .tup [TI.pt u, TI.pt v], d] ∧ M p = some b.mo ∧ b.Ok ∧ Sm 100000000 u ∧ Sm 100000000 v ∧ LsV d ∧ ∀ (w : D) (b' : Bag), LsV w → b'.Ok → k w (mup M p b'.mo)
theorem ok__law_bent_winds {K : PySem.W.Frag} {mg : Str → Option Value} {ad : Nat → Addr} {fd : Nat → FuncData} {cl : Nat → Addr} {P : Program} {w : World} {base : Heap} (T : Txt K mg ad fd cl) : FnOk P w K mg base (L2.CX P w) 5 (ad 53) (fd 53) ["_law_bag", "_law_gusts", "_law_dots"] (spD K 3 ph__law_bent_winds) := by
  have G__law_pull := ok__law_pull (P := P) (w := w) (base := base) T
  have G__law_pick := ok__law_pick (P := P) (w := w) (base := base) T
  have G__law_is_dot := ok__law_is_dot (P := P) (w := w) (base := base) T
  have G__law_lead := ok__law_lead (P := P) (w := w) (base := base) T
  have G__law_is_wind := ok__law_is_wind (P := P) (w := w) (base := base) T
  refine fn_D T.F__law_bent_winds sc__law_bent_winds rfl fun cdv A outer s H E hr hp ho => ⟨_, (b_cons (s_asg (dv 1) (g_tup (n := 2) rfl (gs_cons (g_name (i := 3) sc__law_bent_winds.nd rfl (Or.inl rfl)) (gs_cons (g_name (i := 4) sc__law_bent_winds.nd rfl (Or.inl rfl)) gs_nil))))
  (b_cons (s_set (i := 5) sc__law_bent_winds.nd rfl (Or.inl rfl) (d_call G__law_pull (hr.mono (by decide)) rfl T.m__law_pull T.k__law_pull T.kb__law_pull_2 (by intro _ _ h _; exact h) hp (a_cons (dv 0) (a_cons d_int a_nil))))
  (b_cons (s_if (t_cmp (o_eq hr.units) (dv 5) d_int (nomark _)) (b_one (s_ret (d_tup (a_cons (dv 4) (a_cons (dv 3) a_nil))))) b_nil)
  (b_cons (s_if (t_cmp (o_eq hr.units) (dv 5) d_int (nomark _)) (b_one (s_ret (d_tup (a_cons (d_call G__law_pick (hr.mono (by decide)) rfl T.m__law_pick T.k__law_pick T.kb__law_pick_2 (by intro _ _ h _; exact h) hp (a_cons (dv 0) (a_cons (d_lst (a_cons d_non (a_cons (d_tup (a_cons d_int (a_cons d_int a_nil))) (a_cons (d_lst (a_cons d_int (a_cons d_int a_nil))) (a_cons (d_tup (a_cons (d_op o_add (d_op o_pow d_int d_int) d_int) (a_cons d_int a_nil))) (a_cons (d_tup (a_cons d_bl (a_cons d_int a_nil))) (a_cons d_int a_nil))))))) a_nil))) (a_cons (dv 4) a_nil))))) b_nil)
  (b_cons (s_if (t_cmp (o_eq hr.units) (dv 5) d_int (nomark _)) (b_one (s_ret (d_tup (a_cons (dv 3) (a_cons (d_call G__law_pick (hr.mono (by decide)) rfl T.m__law_pick T.k__law_pick T.kb__law_pick_2 (by intro _ _ h _; exact h) hp (a_cons (dv 0) (a_cons (d_lst (a_cons (dv 3) (a_cons (d_tup (a_cons (d_op o_sub d_int (d_ix x_ix (dv 3) d_int (fun _ _ => rfl))) (a_cons (d_op o_sub d_int (d_ix x_ix (dv 3) d_int (fun _ _ => rfl))) a_nil))) (a_cons (d_tup (a_cons d_int (a_cons d_int a_nil))) (a_cons d_str (a_cons (d_tup (a_cons d_int (a_cons d_int (a_cons d_int a_nil)))) a_nil)))))) a_nil))) a_nil))))) b_nil)
  (b_cons (s_if (t_cmp (o_eq hr.units) (dv 5) d_int (nomark _)) (b_one (s_ret (d_call G__law_pick (hr.mono (by decide)) rfl T.m__law_pick T.k__law_pick T.kb__law_pick_2 (by intro _ _ h _; exact h) hp (a_cons (dv 0) (a_cons (d_lst (a_cons d_non (a_cons (d_tup (a_cons (dv 3) a_nil)) (a_cons (d_lst (a_cons (dv 3) (a_cons (dv 4) (a_cons (dv 4) a_nil)))) (a_cons (d_tup a_nil) (a_cons d_int (a_cons d_str a_nil))))))) a_nil))))) b_nil)
  (b_cons (s_if (t_cmp (o_eq hr.units) (dv 5) d_int (nomark _)) (b_one (s_ret (d_lst (a_cons (d_tup (a_cons (d_op o_sub d_int (d_ix x_ix (dv 3) d_int (fun _ _ => rfl))) (a_cons (d_ix x_ix (dv 3) d_int (fun _ _ => rfl)) a_nil))) (a_cons (d_tup (a_cons (d_op o_sub d_int (d_ix x_ix (dv 4) d_int (fun _ _ => rfl))) (a_cons (d_ix x_ix (dv 4) d_int (fun _ _ => rfl)) a_nil))) a_nil))))) b_nil)
  (b_cons (s_if (DPW.t (w_and (t_cmp (o_eq hr.units) (dv 5) d_int (nomark _)) (w_and (t_val (d_isiLT (CS cl) T.isi_list T.isi_tuple rfl T.b_isinstance rfl T.b_list rfl T.b_tuple (dv 2))) (w_and (t_cmp o_gt (d_callB c_len rfl T.b_len boot_len' (a_cons (dv 2) a_nil)) d_int (nomark _)) (w_and (t_val (d_call G__law_is_dot (hr.mono (by decide)) rfl T.m__law_is_dot T.k__law_is_dot T.kb__law_is_dot_1 (by intro _ _ h _; exact h) hp (a_cons (d_ix x_ix (dv 2) d_int (fun _ _ => rfl)) a_nil))) (w_and1 (t_val (d_call G__law_is_dot (hr.mono (by decide)) rfl T.m__law_is_dot T.k__law_is_dot T.kb__law_is_dot_1 (by intro _ _ h _; exact h) hp (a_cons (d_ix x_ix (dv 2) d_int (fun _ _ => rfl)) a_nil))))))))) (b_cons (s_set (i := 6) sc__law_bent_winds.nd rfl (Or.inl rfl) (d_call G__law_lead (hr.mono (by decide)) rfl T.m__law_lead T.k__law_lead T.kb__law_lead_2 (by intro _ _ h _; exact h) hp (a_cons (d_ix x_ix (dv 2) d_int (fun _ _ => rfl)) (a_cons (d_ix x_ix (dv 2) d_int (fun _ _ => rfl)) a_nil))))
  (b_one (s_ret (d_if (t_val (d_call G__law_is_wind (hr.mono (by decide)) rfl T.m__law_is_wind T.k__law_is_wind T.kb__law_is_wind_1 (by intro _ _ h _; exact h) hp (a_cons (dv 6) a_nil))) (d_tup (a_cons (dv 6) (a_cons (dv 4) a_nil))) (d_tup (a_cons (dv 3) (a_cons (dv 4) a_nil))))))) b_nil)
  (b_one (s_ret (d_if (t_cmp (o_eq hr.units) (dv 5) d_int (nomark _)) (d_lst (a_cons (dv 3) (a_cons (d_tup (a_cons (d_op o_add (d_op o_sub d_int (d_ix x_ix (dv 3) d_int (fun _ _ => rfl))) (d_ix x_ix (dv 4) d_int (fun _ _ => rfl))) (a_cons (d_op o_add (d_op o_sub d_int (d_ix x_ix (dv 3) d_int (fun _ _ => rfl))) (d_ix x_ix (dv 4) d_int (fun _ _ => rfl))) a_nil))) a_nil))) (d_lst (a_cons (dv 3) (a_cons (dv 4) a_nil)))))))))))))), ?_⟩
  clear hp ho hr G__law_pull G__law_pick G__law_is_dot G__law_lead G__law_is_wind
  rintro ds M k x hl ⟨p, b, u, v, dt, rfl, hm, hb, hu, hv, hd, q⟩
  have two : ∀ (x y : D) (b' : Bag), b'.Ok → PtV x → PtV y → k (.tup [x, y]) (mup M p b'.mo) := fun x y b' hb' hx hy => q _ b' ((LL.two hx hy).tup (by decide)) hb'
  have twol : ∀ (x y : D) (b' : Bag), b'.Ok → PtV x → PtV y → k (.lst [x, y]) (mup M p b'.mo) := fun x y b' hb' hx hy => q _ b' ((LL.two hx hy).lst (by decide)) hb'
  refine ⟨_, rfl, ⟨_, rfl, rfl, _, _, rfl, _, _, rfl, rfl, ?_⟩⟩
  refine ⟨_, rfl, rfl, pullM hm hb (by decide) (by decide) fun wy b1 w0 w1 hb1 => ?_⟩
  refine ⟨_, rfl, eqI ⟨_, rfl, ?_⟩⟩
  refine ite_b (fun _ => ?_) (fun _ => ?_)
  · exact ⟨_, rfl, _, rfl, Nat.le_of_ble_eq_true rfl, two _ _ b1 hb1 (ptV_pt _) (ptV_pt _)⟩
  refine ⟨_, rfl, eqI ⟨_, rfl, ?_⟩⟩
  refine ite_b (fun _ => ?_) (fun _ => ?_)
  · refine ⟨_, rfl, Nat.le_of_ble_eq_true rfl, Nat.le_of_ble_eq_true rfl, cp6, Nat.le_of_ble_eq_true rfl, Nat.le_of_ble_eq_true rfl, Nat.le_of_ble_eq_true rfl, rfl, pickM mup_same hb1 (Nat.le_of_ble_eq_true rfl) (Nat.le_of_ble_eq_true rfl) fun d hd' b3 hb3 => ?_⟩
    rw [mup_mup]
    refine ⟨_, rfl, Nat.le_of_ble_eq_true rfl, two _ _ b3 hb3 ?_ (ptV_pt _)⟩
    simp only [List.mem_cons, List.not_mem_nil, or_false] at hd'
    rcases hd' with rfl | rfl | rfl | rfl | rfl | rfl
    · exact ptV_k rfl nofun
    · exact ptV_t (Nat.le_of_ble_eq_true rfl) (by simp [kd])
    · exact ptV_k rfl nofun
    · exact ptV_t (Nat.le_of_ble_eq_true rfl) (by simp [kd])
    · exact ptV_t (Nat.le_of_ble_eq_true rfl) (by simp [kd])
    · exact ptV_k rfl nofun
  refine ⟨_, rfl, eqI ⟨_, rfl, ?_⟩⟩
  refine ite_b (fun _ => ?_) (fun _ => ?_)
  · refine ⟨_, rfl, _, rfl, _, rfl, _, rfl, _, rfl, _, rfl, _, rfl, Nat.le_of_ble_eq_true rfl, Nat.le_of_ble_eq_true rfl, Nat.le_of_ble_eq_true rfl, Nat.le_of_ble_eq_true rfl, rfl, pickM mup_same hb1 (Nat.le_of_ble_eq_true rfl) (Nat.le_of_ble_eq_true rfl) fun d hd' b3 hb3 => ?_⟩
    rw [mup_mup]
    refine ⟨Nat.le_of_ble_eq_true rfl, two _ _ b3 hb3 (ptV_pt _) ?_⟩
    simp only [List.mem_cons, List.not_mem_nil, or_false] at hd'
    rcases hd' with rfl | rfl | rfl | rfl | rfl
    · exact ptV_pt _
    · exact ptV_pt (_, _)
    · exact ptV_t (Nat.le_of_ble_eq_true rfl) (by simp [kd])
    · exact ptV_k rfl nofun
    · exact ptV_t (Nat.le_of_ble_eq_true rfl) (by simp [kd])
  refine ⟨_, rfl, eqI ⟨_, rfl, ?_⟩⟩
  refine ite_b (fun _ => ?_) (fun _ => ?_)
  · refine ⟨_, rfl, _, rfl, Nat.le_of_ble_eq_true rfl, _, rfl, _, rfl, _, rfl, Nat.le_of_ble_eq_true rfl, Nat.le_of_ble_eq_true rfl, Nat.le_of_ble_eq_true rfl, rfl, pickM mup_same hb1 (Nat.le_of_ble_eq_true rfl) (Nat.le_of_ble_eq_true rfl) fun d hd' b3 hb3 => ?_⟩
    rw [mup_mup]
    refine q d b3 ?_ hb3
    simp only [List.mem_cons, List.not_mem_nil, or_false] at hd'
    rcases hd' with rfl | rfl | rfl | rfl | rfl | rfl
    · exact ⟨rfl, nofun⟩
    · exact (LL.one (ptV_pt _)).tup (by decide)
    · exact ((LL.one (ptV_pt u)).app ((LL.one (ptV_pt v)).app (LL.one (ptV_pt v)))).lst (by decide)
    · exact LL.nil.tup (by decide)
    · exact ⟨rfl, nofun⟩
    · exact ⟨rfl, nofun⟩
  refine ⟨_, rfl, eqI ⟨_, rfl, ?_⟩⟩
  refine ite_b (fun _ => ?_) (fun _ => ?_)
  · exact ⟨_, rfl, _, rfl, _, rfl, _, rfl, Nat.le_of_ble_eq_true rfl, _, rfl, _, rfl, _, rfl, _, rfl, Nat.le_of_ble_eq_true rfl, Nat.le_of_ble_eq_true rfl, twol _ _ b1 hb1 (ptV_pt (_, _)) (ptV_pt (_, _))⟩
  obtain ⟨hdk, hdv⟩ := hd
  obtain ⟨kv, hkv⟩ := Option.isSome_iff_exists.mp hdk
  refine ⟨_, rfl, eqI ⟨_, rfl, ?_⟩⟩
  refine ite_b (fun _ => ?_) (fun _ => ?_)
  · refine ⟨_, rfl, isiLTk hkv ⟨_, rfl, ?_⟩⟩
    rw [TI.kd_items hkv]
    cases hie : TI.itemsOf dt with
    | none =>
      refine iteF ?_
      · refine ⟨_, rfl, eqI ⟨_, rfl, ?_⟩⟩
        refine ite_b (fun _ => ?_) (fun _ => ?_)
        · exact ⟨_, rfl, _, rfl, _, rfl, _, rfl, _, rfl, _, rfl, _, rfl, _, rfl, _, rfl, Nat.le_of_ble_eq_true rfl, Nat.le_of_ble_eq_true rfl, twol _ _ b1 hb1 (ptV_pt _) (ptV_pt (_, _))⟩
        · exact ⟨_, rfl, _, rfl, Nat.le_of_ble_eq_true rfl, twol _ _ b1 hb1 (ptV_pt _) (ptV_pt _)⟩
    | some es =>
    refine iteT ?_
    rcases items_of hie with rfl | rfl
    · refine ⟨_, rfl, ⟨_, rfl, ?_⟩⟩
      refine ite_b (fun e5 => ?_) (fun e5 => ?_)
      · have e5 := of_decide_eq_true e5
        obtain ⟨_, hpv⟩ := hdv es hie
        match es, e5, hpv with
        | [], e5, _ => exact absurd e5 (by decide)
        | [_], e5, _ => exact absurd e5 (by show ¬ (1 : Int) < 1; decide)
        | x0 :: x1 :: r, _, hpv =>
          refine ⟨_, rfl, _, atI_nat (j := 0) rfl, rfl, x0, rfl, hpv x0 (by simp), ⟨_, rfl, ?_⟩⟩
          refine ite_b (fun i0 => ?_) (fun i0 => ?_)
          · refine ⟨_, rfl, _, at1, rfl, x1, rfl, hpv x1 (by simp), ⟨_, rfl, ?_⟩⟩
            refine ite_b (fun i1 => ?_) (fun i1 => ?_)
            · obtain ⟨c0, rfl, _⟩ := pt_of i0
              obtain ⟨c1, rfl, _⟩ := pt_of i1
              refine ⟨_, rfl, _, atI_nat (j := 0) rfl, _, rfl, _, at1, rfl, c0, c1, rfl, ?_⟩
              refine ⟨_, rfl, rfl, _, rfl, ptV_pt _, ⟨_, rfl, ?_⟩⟩
              refine ite_b (fun _ => ?_) (fun _ => ?_)
              · exact ⟨_, rfl, _, rfl, Nat.le_of_ble_eq_true rfl, two _ _ b1 hb1 (ptV_pt _) (ptV_pt _)⟩
              · exact ⟨_, rfl, _, rfl, Nat.le_of_ble_eq_true rfl, two _ _ b1 hb1 (ptV_pt _) (ptV_pt _)⟩
            · refine ⟨_, rfl, eqI ⟨_, rfl, ?_⟩⟩
              refine ite_b (fun _ => ?_) (fun _ => ?_)
              · exact ⟨_, rfl, _, rfl, _, rfl, _, rfl, _, rfl, _, rfl, _, rfl, _, rfl, _, rfl, Nat.le_of_ble_eq_true rfl, Nat.le_of_ble_eq_true rfl, twol _ _ b1 hb1 (ptV_pt _) (ptV_pt (_, _))⟩
              · exact ⟨_, rfl, _, rfl, Nat.le_of_ble_eq_true rfl, twol _ _ b1 hb1 (ptV_pt _) (ptV_pt _)⟩
          · refine ⟨_, rfl, eqI ⟨_, rfl, ?_⟩⟩
            refine ite_b (fun _ => ?_) (fun _ => ?_)
            · exact ⟨_, rfl, _, rfl, _, rfl, _, rfl, _, rfl, _, rfl, _, rfl, _, rfl, _, rfl, Nat.le_of_ble_eq_true rfl, Nat.le_of_ble_eq_true rfl, twol _ _ b1 hb1 (ptV_pt _) (ptV_pt (_, _))⟩
            · exact ⟨_, rfl, _, rfl, Nat.le_of_ble_eq_true rfl, twol _ _ b1 hb1 (ptV_pt _) (ptV_pt _)⟩
      · refine ⟨_, rfl, eqI ⟨_, rfl, ?_⟩⟩
        refine ite_b (fun _ => ?_) (fun _ => ?_)
        · exact ⟨_, rfl, _, rfl, _, rfl, _, rfl, _, rfl, _, rfl, _, rfl, _, rfl, _, rfl, Nat.le_of_ble_eq_true rfl, Nat.le_of_ble_eq_true rfl, twol _ _ b1 hb1 (ptV_pt _) (ptV_pt (_, _))⟩
        · exact ⟨_, rfl, _, rfl, Nat.le_of_ble_eq_true rfl, twol _ _ b1 hb1 (ptV_pt _) (ptV_pt _)⟩
    · refine ⟨_, rfl, ⟨_, rfl, ?_⟩⟩
      refine ite_b (fun e5 => ?_) (fun e5 => ?_)
      · have e5 := of_decide_eq_true e5
        obtain ⟨_, hpv⟩ := hdv es hie
        match es, e5, hpv with
        | [], e5, _ => exact absurd e5 (by decide)
        | [_], e5, _ => exact absurd e5 (by show ¬ (1 : Int) < 1; decide)
        | x0 :: x1 :: r, _, hpv =>
          refine ⟨_, rfl, _, atI_nat (j := 0) rfl, rfl, x0, rfl, hpv x0 (by simp), ⟨_, rfl, ?_⟩⟩
          refine ite_b (fun i0 => ?_) (fun i0 => ?_)
          · refine ⟨_, rfl, _, at1, rfl, x1, rfl, hpv x1 (by simp), ⟨_, rfl, ?_⟩⟩
            refine ite_b (fun i1 => ?_) (fun i1 => ?_)
            · obtain ⟨c0, rfl, _⟩ := pt_of i0
              obtain ⟨c1, rfl, _⟩ := pt_of i1
              refine ⟨_, rfl, _, atI_nat (j := 0) rfl, _, rfl, _, at1, rfl, c0, c1, rfl, ?_⟩
              refine ⟨_, rfl, rfl, _, rfl, ptV_pt _, ⟨_, rfl, ?_⟩⟩
              refine ite_b (fun _ => ?_) (fun _ => ?_)
              · exact ⟨_, rfl, _, rfl, Nat.le_of_ble_eq_true rfl, two _ _ b1 hb1 (ptV_pt _) (ptV_pt _)⟩
              · exact ⟨_, rfl, _, rfl, Nat.le_of_ble_eq_true rfl, two _ _ b1 hb1 (ptV_pt _) (ptV_pt _)⟩
            · refine ⟨_, rfl, eqI ⟨_, rfl, ?_⟩⟩
              refine ite_b (fun _ => ?_) (fun _ => ?_)
              · exact ⟨_, rfl, _, rfl, _, rfl, _, rfl, _, rfl, _, rfl, _, rfl, _, rfl, _, rfl, Nat.le_of_ble_eq_true rfl, Nat.le_of_ble_eq_true rfl, twol _ _ b1 hb1 (ptV_pt _) (ptV_pt (_, _))⟩
              · exact ⟨_, rfl, _, rfl, Nat.le_of_ble_eq_true rfl, twol _ _ b1 hb1 (ptV_pt _) (ptV_pt _)⟩
          · refine ⟨_, rfl, eqI ⟨_, rfl, ?_⟩⟩
            refine ite_b (fun _ => ?_) (fun _ => ?_)
            · exact ⟨_, rfl, _, rfl, _, rfl, _, rfl, _, rfl, _, rfl, _, rfl, _, rfl, _, rfl, Nat.le_of_ble_eq_true rfl, Nat.le_of_ble_eq_true rfl, twol _ _ b1 hb1 (ptV_pt _) (ptV_pt (_, _))⟩
            · exact ⟨_, rfl, _, rfl, Nat.le_of_ble_eq_true rfl, twol _ _ b1 hb1 (ptV_pt _) (ptV_pt _)⟩
      · refine ⟨_, rfl, eqI ⟨_, rfl, ?_⟩⟩
        refine ite_b (fun _ => ?_) (fun _ => ?_)
        · exact ⟨_, rfl, _, rfl, _, rfl, _, rfl, _, rfl, _, rfl, _, rfl, _, rfl, _, rfl, Nat.le_of_ble_eq_true rfl, Nat.le_of_ble_eq_true rfl, twol _ _ b1 hb1 (ptV_pt _) (ptV_pt (_, _))⟩
        · exact ⟨_, rfl, _, rfl, Nat.le_of_ble_eq_true rfl, twol _ _ b1 hb1 (ptV_pt _) (ptV_pt _)⟩
  · refine ⟨_, rfl, eqI ⟨_, rfl, ?_⟩⟩
    refine ite_b (fun _ => ?_) (fun _ => ?_)
    · exact ⟨_, rfl, _, rfl, _, rfl, _, rfl, _, rfl, _, rfl, _, rfl, _, rfl, _, rfl, Nat.le_of_ble_eq_true rfl, Nat.le_of_ble_eq_true rfl, twol _ _ b1 hb1 (ptV_pt _) (ptV_pt (_, _))⟩
    · exact ⟨_, rfl, _, rfl, Nat.le_of_ble_eq_true rfl, twol _ _ b1 hb1 (ptV_pt _) (ptV_pt _)⟩
end W12
set_option Elab.async false
set_option linter.all false
set_option maxRecDepth 100000
set_option maxHeartbeats 4000000
set_option pp.deepTerms false
set_option pp.deepTerms.threshold 12
set_option pp.maxSteps 4000
namespace W12
open PySem PySem.Spec PyProof.Rows L2 DL
local macro_rules | `(tactic| walk_at "sc") => `(tactic| first | assumption | rfl | exact Nat.le_of_ble_eq_true rfl | decide | omega | exact mul_small (by omega) (by omega) | exact mul_smallR (by omega) (by omega) | exact ⟨by decide, by decide, by decide⟩ | exact ⟨by omega, by assumption⟩ | exact ⟨by decide, log2_small (by decide) (by decide)⟩)
local macro_rules | `(tactic| walk_at "go1") => `(tactic| first | refine ⟨_, rfl, ?_⟩ | refine ⟨rfl, ?_⟩ | refine ⟨_, by assumption, ?_⟩ | refine ⟨_, mup_same, ?_⟩ | refine eqI ?_ | refine neI ?_ | refine iteT ?_ | refine iteF ?_ | refine ⟨(by walk_at "sc"), ?_⟩)
local macro_rules | `(tactic| walk_at "go") => `(tactic| repeat walk_at "go1")
def ph_law (Ps : List Addr) : Ct := fun ds M k _ => ∃ (P0 : Addr) (ns : List Int), Ps = [P0] ∧ ds = [.scr ns] ∧ ns.length ≤ 63 ∧ M P0 = some (.tbl ("law" ++ ".<locals>." ++ "<lambda>")) ∧ ∀ M', k (.bl true) M'
theorem ph_law_of {Ps : List Addr} {ns : List Int} {M : Mm} {kk : DK} {xx : DX} (h1 : ns.length ≤ 63) (h2 : Ps.length = 1) (h3 : ∀ (i : Nat) (P : Addr) (q0 : Str), Ps[i]? = some P → (["law" ++ ".<locals>." ++ "<lambda>"] : List Str)[i]? = some q0 → M P = some (.tbl q0)) (h4 : ∀ M', kk (.bl true) M') : ph_law Ps [.scr ns] M kk xx := by
  match Ps, h2 with
  | [A], _ => exact ⟨A, ns, rfl, rfl, h1, h3 0 A _ rfl rfl, h4⟩
theorem fieldsWinds : DL.fieldsOf "InvalidWinds" [("code", .str "InvalidWinds")] = some [] := by kernel_rfl
theorem fieldsSplit {v : D} : DL.fieldsOf "SplitSide" [("code", .str "SplitSide"), ("side", v)] = some [v] := by kernel_rfl
theorem fieldsName {v : D} : DL.fieldsOf "InvalidName" [("code", .str "InvalidName"), ("name", v)] = some [v] := by kernel_rfl
theorem fieldsCorners {v : D} : DL.fieldsOf "InvalidCorners" [("code", .str "InvalidCorners"), ("at", v)] = some [v] := by kernel_rfl
theorem fieldsConvex : DL.fieldsOf "NotConvex" [("code", .str "NotConvex")] = some [] := by kernel_rfl
/-- a name that a law gives -/
structure NmQ (u : D) : Prop where
  v : NmV u
  pu : pureD 4 u = true
  lay : ∃ P, toP u = some P ∧ P.canLay0 = true ∧ P.depth ≤ 10
/-- what an error tells, as plain data -/
theorem due_lay {nm cs ws : D} {e : TI.Err} (hq : NmQ nm) (h : TI.tileRes nm cs ws = .inl e) : ∃ c : Str, ∃ r : List D, TI.dueD e = .tup (.str c :: r) ∧ pureD 5 (.tup (.str "no" :: .str c :: r)) = true ∧ ∃ P, toP (TI.dueD e) = some (.tuple (.str c :: P)) ∧ SeqAt.shaped (.tuple (.str c :: P)) = true := by
  have hname : ∃ c : Str, ∃ r : List D, TI.dueD (.name nm) = .tup (.str c :: r) ∧ pureD 5 (.tup (.str "no" :: .str c :: r)) = true ∧ ∃ P, toP (TI.dueD (.name nm)) = some (.tuple (.str c :: P)) ∧ SeqAt.shaped (.tuple (.str c :: P)) = true := by
    obtain ⟨P, h1, h2, h3⟩ := hq.lay
    refine ⟨"InvalidName", [nm], rfl, by simp [pureD, pureDs, hq.pu], [P], ?_, TI.shaped_tup fun x hx => ?_⟩
    · show (toPs _).map _ = _
      simp only [toPs, toP, h1]
      rfl
    · simp only [List.mem_cons, List.not_mem_nil, or_false] at hx
      rcases hx with rfl | rfl
      · exact ⟨by decide +kernel, by decide +kernel⟩
      · exact ⟨h2, h3⟩
  cases e with
  | name d =>
    have hd : d = nm := by
      unfold TI.tileRes at h
      split at h
      · split at h
        · split at h
          · rename_i hc
            cases h
            rcases cr_err hc with ⟨_, z⟩ | z <;> cases z
          · split at h
            · cases h
            · split at h <;> cases h
        · cases h; rfl
      · cases h; rfl
    rw [hd]
    exact hname
  | corners a => exact ⟨"InvalidCorners", [.int a], rfl, by simp [pureD, pureDs], [.int a], rfl, TI.shaped_tup fun x hx => by
      simp only [List.mem_cons, List.not_mem_nil, or_false] at hx
      rcases hx with rfl | rfl
      · exact ⟨by decide +kernel, by decide +kernel⟩
      · exact ⟨rfl, Nat.le_of_ble_eq_true rfl⟩⟩
  | convex => exact ⟨"NotConvex", [], rfl, by simp [pureD, pureDs], [], rfl, by decide +kernel⟩
  | winds => exact ⟨"InvalidWinds", [], rfl, by simp [pureD, pureDs], [], rfl, by decide +kernel⟩
  | split s => exact ⟨"SplitSide", [TI.sd s], rfl, by simp [pureD, pureDs, TI.sd, TI.pt], [TI.sdP s], rfl, TI.shaped_tup fun x hx => by
      simp only [List.mem_cons, List.not_mem_nil, or_false] at hx
      rcases hx with rfl | rfl
      · exact ⟨by decide +kernel, by decide +kernel⟩
      · exact ⟨rfl, Nat.le_of_ble_eq_true rfl⟩⟩
/-- an error is told as due -/
theorem no_due {er : Nat → Addr} {e : TI.Err} {x : DX} {M : Mm} (h : ∀ (i : Nat) (c : Str) (fs : List (Str × D)) (vals : List D), i < 6 → List.lookup ("code" : Str) fs = some (.str c) → DL.fieldsOf c fs = some vals → vals.length ≤ 2 → TI.dueD e = .tup (.str c :: vals) → x (er i) fs M) : errK er e x M := by
  cases e with
  | name d => exact h 0 "InvalidName" _ [d] (by decide) rfl fieldsName (Nat.le_of_ble_eq_true rfl) rfl
  | corners a => exact h 1 "InvalidCorners" _ [.int a] (by decide) rfl fieldsCorners (Nat.le_of_ble_eq_true rfl) rfl
  | convex => exact h 2 "NotConvex" _ [] (by decide) rfl fieldsConvex (Nat.le_of_ble_eq_true rfl) rfl
  | winds => exact h 3 "InvalidWinds" _ [] (by decide) rfl fieldsWinds (Nat.le_of_ble_eq_true rfl) rfl
  | split s => exact h 4 "SplitSide" _ [TI.sd s] (by decide) rfl fieldsSplit (Nat.le_of_ble_eq_true rfl) rfl
theorem nmQ_str {z : Str} (h : z.length ≤ 20) (hc : Cok z) : NmQ (.str z) := ⟨⟨rfl, fun z' e => by cases e; omega⟩, rfl, .str z, rfl, by show (z.cps.all (· < 0x110000)) = true; rw [← Array.all_toList]; exact hc, Nat.zero_le _⟩
theorem ok_law {K : PySem.W.Frag} {mg : Str → Option Value} {ad : Nat → Addr} {fd : Nat → FuncData} {cl : Nat → Addr} {P : Program} {w : World} {base : Heap} (T : Txt K mg ad fd cl) {er : Nat → Addr} {xcs : List Value} (ER : ErT P w K mg base er xcs) {c0 P0 g0 : Addr} (TF : TryF P w K mg base xcs g0 (ad 42) (fd 42)) (TB : LamX.TabB base mg c0 P0) (LK : DefL K "law" "law" (defArgs st_law) (defBody st_law) (defScope st_law) (ad 54) c0 (fd 54)) : FnOk P w K mg base (L2.CX P w) 40 (ad 54) (fd 54) ["_law_script"] (spD K 1 (ph_law [P0])) := by
  have G__law_start := ok__law_start (P := P) (w := w) (base := base) T
  have G__law_drawn := ok__law_drawn (P := P) (w := w) (base := base) T
  have G__law_pick := ok__law_pick (P := P) (w := w) (base := base) T
  have G__law_pull := ok__law_pull (P := P) (w := w) (base := base) T
  have G__law_bent_dots := ok__law_bent_dots (P := P) (w := w) (base := base) T
  have G__law_bent_winds := ok__law_bent_winds (P := P) (w := w) (base := base) T
  have G__law_tile_due := ok__law_tile_due (P := P) (w := w) (base := base) T
  have G_Tile___init__ := ok_Tile___init__ (P := P) (w := w) (base := base) T ER
  have G__law_tile_so := ok__law_tile_so (P := P) (w := w) (base := base) T ER
  have G__law_same := ok__law_same (P := P) (w := w) (base := base) T 5
  refine fn_DL2 LK sc_law rfl fun A outer s H E hr hp ho => ⟨_, (b_cons (s_set (i := 1) sc_law.nd rfl (Or.inl rfl) (d_call G__law_start (hr.mono (by decide)) rfl T.m__law_start T.k__law_start T.kb__law_start_1 (by intro _ _ h _; exact h) hp (a_cons (dv 0) a_nil)))
  (b_cons (s_set (i := 2) sc_law.nd rfl (Or.inl rfl) (d_call G__law_drawn (hr.mono (by decide)) rfl T.m__law_drawn T.k__law_drawn T.kb__law_drawn_3 (by intro _ _ h _; exact h) hp (a_cons (dv 1) (a_cons d_int (a_cons d_int a_nil)))))
  (b_cons (s_for ho rfl (i_range1 rfl T.b_range (a_cons d_int a_nil)) (g_name (i := 3) sc_law.nd rfl (Or.inl rfl))
  (b_cons (s_set (i := 4) sc_law.nd rfl (Or.inl rfl) (d_call G__law_pick (hr.mono (by decide)) rfl T.m__law_pick T.k__law_pick T.kb__law_pick_2 (by intro _ _ h _; exact h) hp (a_cons (dv 1) (a_cons (d_ix x_ix (dv 2) d_int (fun _ _ => rfl)) a_nil))))
  (b_cons (s_asg (d_tup (a_cons (d_ix x_ix (dv 4) d_int (fun _ _ => rfl)) (a_cons (d_callTy c_list rfl T.b_list boot_list' (a_cons (d_ix x_ix (dv 4) d_int (fun _ _ => rfl)) a_nil)) (a_cons (d_ix x_ix (dv 4) d_int (fun _ _ => rfl)) a_nil)))) (g_tup (n := 3) rfl (gs_cons (g_name (i := 5) sc_law.nd rfl (Or.inr rfl)) (gs_cons (g_name (i := 6) sc_law.nd rfl (Or.inr rfl)) (gs_cons (g_name (i := 7) sc_law.nd rfl (Or.inr rfl)) gs_nil)))))
  (b_cut (s_if (t_cmp (o_eq hr.units) (d_call G__law_pull (hr.mono (by decide)) rfl T.m__law_pull T.k__law_pull T.kb__law_pull_2 (by intro _ _ h _; exact h) hp (a_cons (dv 1) (a_cons d_int a_nil))) d_int (nomark _)) (b_one (s_set (i := 5) sc_law.nd rfl (Or.inr rfl) (d_call G__law_pick (hr.mono (by decide)) rfl T.m__law_pick T.k__law_pick T.kb__law_pick_2 (by intro _ _ h _; exact h) hp (a_cons (dv 1) (a_cons (d_lst (a_cons d_str (a_cons d_str (a_cons d_str (a_cons d_str (a_cons d_non (a_cons d_int (a_cons (d_tup (a_cons d_str a_nil)) (a_cons d_bl (a_cons d_str a_nil)))))))))) a_nil))))) b_nil)
  (b_cut (s_if (t_cmp (o_eq hr.units) (d_call G__law_pull (hr.mono (by decide)) rfl T.m__law_pull T.k__law_pull T.kb__law_pull_2 (by intro _ _ h _; exact h) hp (a_cons (dv 1) (a_cons d_int a_nil))) d_int (nomark _)) (b_one (s_set (i := 6) sc_law.nd rfl (Or.inr rfl) (d_call G__law_bent_dots (hr.mono (by decide)) rfl T.m__law_bent_dots T.k__law_bent_dots T.kb__law_bent_dots_2 (by intro _ _ h _; exact h) hp (a_cons (dv 1) (a_cons (dv 6) a_nil))))) b_nil)
  (b_cut (s_if (t_cmp (o_eq hr.units) (d_call G__law_pull (hr.mono (by decide)) rfl T.m__law_pull T.k__law_pull T.kb__law_pull_2 (by intro _ _ h _; exact h) hp (a_cons (dv 1) (a_cons d_int a_nil))) d_int (nomark _)) (b_one (s_set (i := 7) sc_law.nd rfl (Or.inr rfl) (d_call G__law_bent_winds (hr.mono (by decide)) rfl T.m__law_bent_winds T.k__law_bent_winds T.kb__law_bent_winds_3 (by intro _ _ h _; exact h) hp (a_cons (dv 1) (a_cons (dv 7) (a_cons (dv 6) a_nil)))))) b_nil)
  (b_cons (s_set (i := 8) sc_law.nd rfl (Or.inl rfl) (d_call G__law_tile_due (hr.mono (by decide)) rfl T.m__law_tile_due T.k__law_tile_due T.kb__law_tile_due_3 (by intro _ _ h _; exact h) hp (a_cons (dv 5) (a_cons (dv 6) (a_cons (dv 7) a_nil)))))
  (b_cons (s_set (i := 9) sc_law.nd rfl (Or.inl rfl) (d_trylam (k := 12) TF rfl TB rfl (hr.mono (by decide)) (LamX.lamS_by (by kernel_rfl)) rfl (fun _ _ _ _ _ => rfl) fun _ _ _ _ _ _ _ hr hp => (d_makeF T.mk_Tile G_Tile___init__ (hr.mono (by decide)) rfl T.m_Tile T.kb_Tile___init___4 (fun us ws h1 h2 => match us, ws, h1, h2 with | [_, _, _, _], [], _, _ => rfl) hp (a_cons (dv 5) (a_cons (dv 6) (a_cons (dv 7) a_nil))) k_nil)))
  (b_one (s_if (t_cmp (o_eq hr.units) (dv 8) (d_tup a_nil) (nomark _)) (b_one (s_if (DPW.t (w_or (t_cmp (o_ne hr.units) (d_ix x_ix (dv 9) d_int (fun _ _ => rfl)) d_str (nomark _)) (w_or1 (t_not (t_val (d_call G__law_tile_so (hr.mono (by decide)) rfl T.m__law_tile_so T.k__law_tile_so T.kb__law_tile_so_2 (by intro _ _ h _; exact h) hp (a_cons (d_ix x_ix (dv 9) d_int (fun _ _ => rfl)) (a_cons (d_tup (a_cons (dv 5) (a_cons (d_callTy c_tuple rfl T.b_tuple boot_tuple' (a_cons (dv 6) a_nil)) (a_cons (d_callTy c_tuple rfl T.b_tuple boot_tuple' (a_cons (dv 7) a_nil)) a_nil)))) a_nil)))))))) (b_one (s_ret d_bl)) b_nil)) (b_one (s_if (t_not (t_val (d_call G__law_same (hr.mono (by decide)) rfl T.m__law_same T.k__law_same T.kb__law_same_2 (by intro _ _ h _; exact h) hp (a_cons (dv 9) (a_cons (d_op o_add (d_tup (a_cons d_str a_nil)) (dv 8)) a_nil))))) (b_one (s_ret d_bl)) b_nil))))))))))))
  (b_one (s_ret d_bl))))), ?_⟩
  clear hp ho hr G__law_start G__law_drawn G__law_pick G__law_pull G__law_bent_dots G__law_bent_winds G__law_tile_due G_Tile___init__ G__law_tile_so G__law_same
  rintro ds M k x hl ⟨P0', ns, hPs, rfl, hn, ht, q⟩
  cases hPs
  refine ⟨_, rfl, rfl, ns, rfl, hn, fun p b hp hb => ?_⟩
  have hP : P0 ≠ p := fun z => by rw [← z, ht] at hp; cases hp
  have ht1 : mup M p b.mo P0 = some (.tbl ("law" ++ ".<locals>." ++ "<lambda>")) := by rw [mup_ne hP]; exact ht
  refine ⟨_, rfl, rfl, p, b, 2, 1, rfl, mup_same, hb, ⟨by decide, by decide⟩, ⟨by decide, by decide⟩, fun M1 b1 ts hE hts l1 l2 => ?_⟩
  have T1 := hE.1 _ _ hP ht1
  refine ⟨_, rfl, by decide, by decide, ?_⟩
  refine ForK.of (fun _ ρ M' => ∃ (b' : Bag) (r3 r4 r5 r6 r7 r8 r9 : Option D), ExtB p M1 M' b' ∧ ρ = [some (.scr ns), some (.cel p), some (.tup [.lst (ts.map TI.rowD), .lst []]), r3, r4, r5, r6, r7, r8, r9]) ⟨b1, _, _, _, _, _, _, _, .base hE.2.1 hE.2.2, rfl⟩ ?_ ?_
  · rintro j d0 ρ M' hd0 ⟨b', r3, r4, r5, r6, r7, r8, r9, g, rfl⟩
    refine ⟨_, rfl, _, rfl, _, rfl, rfl, pickM g.2.1 g.2.2 (by rw [List.length_map]; omega) (by rw [List.length_map]; omega) fun d hd b2 hb2 => ?_⟩
    have g2 := g.up hb2
    obtain ⟨t, hmt, rfl⟩ := List.mem_map.mp hd
    have tw := hts t hmt
    refine ⟨_, rfl, _, rfl, _, rfl, _, rfl, _, rfl, _, rfl, Nat.le_of_ble_eq_true rfl, ?_⟩
    refine ⟨_, rfl, rfl, _, _, rfl, _, _, rfl, _, _, rfl, rfl, ?_⟩
    refine ⟨fun ρ M' => ∃ (b' : Bag) (nm : D) , ExtB p M1 M' b' ∧ NmQ nm ∧ ρ = [some (.scr ns), some (.cel p), some (.tup [.lst (ts.map TI.rowD), .lst []]), some d0, some (TI.rowD t), some nm, some (.lst (t.cs.map TI.pt)), some (.tup [TI.pt t.u, TI.pt t.v]), r8, r9], ?_, ?_⟩
    · refine ⟨_, rfl, rfl, pullM g2.2.1 g2.2.2 (by decide) (by decide) fun e b3 e0 e1 hb3 => eqI ⟨_, rfl, ?_⟩⟩
      have g3 := g2.up hb3
      refine ite_b (fun _ => ?_) (fun _ => ?_)
      · refine ⟨_, rfl, Nat.le_of_ble_eq_true rfl, Nat.le_of_ble_eq_true rfl, rfl, pickM g3.2.1 g3.2.2 (by decide) (by decide) fun d hd b4 hb4 => ?_⟩
        refine ⟨b4, d, g3.up hb4, ?_, rfl⟩
        simp only [List.mem_cons, List.not_mem_nil, or_false] at hd
        rcases hd with rfl | rfl | rfl | rfl | rfl | rfl | rfl | rfl | rfl
        · exact nmQ_str (by decide +kernel) (by unfold Cok; decide +kernel)
        · exact nmQ_str (by decide +kernel) (by unfold Cok; decide +kernel)
        · exact nmQ_str (by decide +kernel) (by unfold Cok; decide +kernel)
        · exact nmQ_str (by decide +kernel) (by unfold Cok; decide +kernel)
        · exact ⟨⟨rfl, nofun⟩, rfl, .none, rfl, rfl, Nat.zero_le _⟩
        · exact ⟨⟨rfl, nofun⟩, rfl, .int 3, rfl, rfl, Nat.zero_le _⟩
        · exact ⟨⟨rfl, nofun⟩, by decide +kernel, .tuple [.str "a"], rfl, by decide +kernel, by decide +kernel⟩
        · exact ⟨⟨rfl, nofun⟩, rfl, .bool true, rfl, rfl, Nat.zero_le _⟩
        · exact nmQ_str (by decide +kernel) (by unfold Cok; decide +kernel)
      · exact ⟨b3, _, g3, nmQ_str tw.nm tw.ck, rfl⟩
    · rintro ρ M2 ⟨b3, nm, g3, hnm, rfl⟩
      refine ⟨fun ρ M' => ∃ (b' : Bag) (dots : D), ExtB p M1 M' b' ∧ LsV dots ∧ ρ = [some (.scr ns), some (.cel p), some (.tup [.lst (ts.map TI.rowD), .lst []]), some d0, some (TI.rowD t), some nm, some dots, some (.tup [TI.pt t.u, TI.pt t.v]), r8, r9], ?_, ?_⟩
      · refine ⟨_, rfl, rfl, pullM g3.2.1 g3.2.2 (by decide) (by decide) fun e b4 e0 e1 hb4 => eqI ⟨_, rfl, ?_⟩⟩
        have g4 := g3.up hb4
        refine ite_b (fun _ => ?_) (fun _ => ?_)
        · exact ⟨_, rfl, _, rfl, rfl, p, b4, t.cs, rfl, g4.2.1, g4.2.2, tw.lo, tw.hi, tw.cs, fun u b5 hu hb5 => ⟨b5, u, g4.up hb5, hu, rfl⟩⟩
        · exact ⟨b4, _, g4, lsV_lst (by rw [List.length_map]; exact Nat.le_trans tw.hi (by decide)) ptV_map, rfl⟩
      · rintro ρ M3 ⟨b4, dots, g4, hdots, rfl⟩
        refine ⟨fun ρ M' => ∃ (b' : Bag) (ws : D), ExtB p M1 M' b' ∧ LsV ws ∧ ρ = [some (.scr ns), some (.cel p), some (.tup [.lst (ts.map TI.rowD), .lst []]), some d0, some (TI.rowD t), some nm, some dots, some ws, r8, r9], ?_, ?_⟩
        · refine ⟨_, rfl, rfl, pullM g4.2.1 g4.2.2 (by decide) (by decide) fun e b5 e0 e1 hb5 => eqI ⟨_, rfl, ?_⟩⟩
          have g5 := g4.up hb5
          refine ite_b (fun _ => ?_) (fun _ => ?_)
          · exact ⟨_, rfl, _, rfl, _, rfl, rfl, p, b5, t.u, t.v, dots, rfl, g5.2.1, g5.2.2, tw.u, tw.v, hdots, fun u b6 hu hb6 => ⟨b6, u, g5.up hb6, hu, rfl⟩⟩
          · exact ⟨b5, _, g5, (LL.two (ptV_pt _) (ptV_pt _)).tup (by decide), rfl⟩
        · rintro ρ M4 ⟨b5, ws, g5, hws, rfl⟩
          refine ⟨_, rfl, _, rfl, _, rfl, rfl, nm, dots, ws, rfl, hnm.v, hdots, hws, ?_⟩
          have T4 := g5.1 _ _ hP T1
          refine ⟨T4, _, rfl, _, rfl, _, rfl, rfl, rfl, ?_⟩
          refine mkT (fun _ => rfl) hnm.v hdots hws ?_
          cases h : TI.tileRes nm dots ws with
          | inl e =>
            obtain ⟨c, r, e1, e2, P, e3, e4⟩ := due_lay hnm h
            refine fun M5 hM5 => no_due fun i c' fs r' z1 z2 z3 z4 e5 => ⟨ER.gd i z1, c', r', z2, z3, z4, ?_⟩
            have g6 := g5.ext hM5
            rw [e1] at e5
            cases e5
            have e6 : TI.dueS (α := TI.Tl) (.inl e) = .tup (.str c :: r) := e1
            rw [e6]
            refine ⟨_, rfl, Nat.zero_le _, eqP (e1 ▸ e3) rfl e4 rfl ⟨_, rfl, ?_⟩⟩
            have e7 : PyData.eqv (.tuple (.str c :: P)) (.tuple []) = false := rfl
            rw [e7]
            refine iteF ?_
            refine ⟨_, rfl, Nat.le_of_ble_eq_true rfl, _, rfl, ?_, rfl, sameK rfl e2 ⟨_, rfl, iteF ⟨b5, _, _, _, _, _, _, _, g6, rfl⟩⟩⟩
            have hl5 : (r.length + 1) + 1 ≤ 100000 := by
              have e2 : (pureDs 4 (.str "no" :: .str c :: r) && decide ((.str "no" :: .str c :: r : List D).length ≤ 100000)) = true := e2
              rw [Bool.and_eq_true] at e2
              exact of_decide_eq_true e2.2
            have big : 100000 ≤ sizeLine := by decide
            show 1 + (r.length + 1) ≤ sizeLine
            omega
          | inr t' =>
            obtain ⟨ok, rfl, hi1, hi2⟩ := TI.tileRes_ok h
            refine ⟨_, rfl, Nat.zero_le _, eqP rfl rfl rfl rfl ⟨_, rfl, iteT ?_⟩⟩
            refine ⟨_, rfl, _, rfl, .of (eqD_str _ _) ⟨_, rfl, ?_⟩⟩
            rw [decide_eq_true rfl]
            refine iteF ?_
            rcases items_of hi1 with rfl | rfl <;> rcases items_of hi2 with rfl | rfl <;> exact ⟨_, rfl, _, rfl, _, rfl, _, rfl, _, rfl, Nat.le_of_ble_eq_true rfl, rfl, t', rfl, ok, ⟨_, rfl, iteF ⟨b5, _, _, _, _, _, _, _, g5, rfl⟩⟩⟩
  · rintro ρ M' ⟨b', r3, r4, r5, r6, r7, r8, r9, g, rfl⟩
    exact q M'
end W12
set_option Elab.async false
set_option linter.all false
set_option maxRecDepth 100000
set_option maxHeartbeats 4000000
set_option pp.deepTerms false
set_option pp.deepTerms.threshold 12
set_option pp.maxSteps 4000
namespace W12
open PySem PySem.Spec PyProof.Rows L2 DL
local macro_rules | `(tactic| walk_at "sc") => `(tactic| first | assumption | rfl | exact Nat.le_of_ble_eq_true rfl | decide | omega | exact mul_small (by omega) (by omega) | exact mul_smallR (by omega) (by omega) | exact ⟨by decide, by decide, by decide⟩ | exact ⟨by omega, by assumption⟩ | exact ⟨by decide, log2_small (by decide) (by decide)⟩)
local macro_rules | `(tactic| walk_at "go1") => `(tactic| first | refine ⟨_, rfl, ?_⟩ | refine ⟨rfl, ?_⟩ | refine ⟨_, by assumption, ?_⟩ | refine ⟨_, mup_same, ?_⟩ | refine eqI ?_ | refine neI ?_ | refine iteT ?_ | refine iteF ?_ | refine ⟨(by walk_at "sc"), ?_⟩)
local macro_rules | `(tactic| walk_at "go") => `(tactic| repeat walk_at "go1")
/-- what the written part says of an error's class -/
def oxB (K : PySem.W.Frag) (B : String) (C : Addr) : Bool := decide (PySem.W.findIn K (.ref C) "__setattr__" = some (some (.builtin "object.__setattr__"))) && (decide (PySem.W.subIn K (.ref C) (.type "BaseException") = some true) && (decide (PySem.W.typeIn K (.ref C) = some (.type "type")) && (PySem.W.keepIn K (.ref C) && ((PySem.W.clsIn K C).isSome && (decide (PySem.W.mroIn K C (.ref C) = some true) && (decide (PySem.W.ks_superIn K C C "__init__" = some (some (.builtin (B ++ ".__init__")))) && (decide (PySem.W.subIn K (.ref C) (.type B) = some true) && (decide (PySem.W.findIn K (.ref C) "__class__" = some (some (.builtin "object.__class__"))) && decide (PySem.W.mroIn K C (.type "object") = some true)))))))))
structure OxB (K : PySem.W.Frag) (B : String) (C : Addr) : Prop where
  sa : PySem.W.findIn K (.ref C) "__setattr__" = some (some (.builtin "object.__setattr__"))
  exC : PySem.W.subIn K (.ref C) (.type "BaseException") = some true
  tyC : PySem.W.typeIn K (.ref C) = some (.type "type")
  kC : PySem.W.keepIn K (.ref C) = true
  cl : (PySem.W.clsIn K C).isSome = true
  CD : PySem.W.mroIn K C (.ref C) = some true
  al : PySem.W.ks_superIn K C C "__init__" = some (some (.builtin (B ++ ".__init__")))
  VE : PySem.W.subIn K (.ref C) (.type B) = some true
  ha : PySem.W.findIn K (.ref C) "__class__" = some (some (.builtin "object.__class__"))
  hm : PySem.W.mroIn K C (.type "object") = some true
theorem oxB_ok {K : PySem.W.Frag} {B : String} {C : Addr} (h : oxB K B C = true) : OxB K B C := by
  simp only [oxB, Bool.and_eq_true, decide_eq_true_eq] at h
  obtain ⟨h1, h2, h3, h4, h5, h6, h7, h8, h9, h10⟩ := h
  exact ⟨h1, h2, h3, h4, h5, h6, h7, h8, h9, h10⟩
def noB (K : PySem.W.Frag) (C : Addr) (ns : List Str) : Bool := ns.all fun n => decide (PySem.W.findIn K (.ref C) n = some none)
theorem noB_ok {K : PySem.W.Frag} {C : Addr} {ns : List Str} (h : noB K C ns = true) : ∀ n ∈ ns, PySem.W.findIn K (.ref C) n = some none := fun n hn => of_decide_eq_true (List.all_eq_true.mp h n hn)
abbrev NOSX : List Str := ["code", "given", "line", "index", "at", "name", "side", "most", "one", "other", "value", "corner"]
theorem err_InvalidName {P : Program} {w : World} {K : PySem.W.Frag} {mg : Str → Option Value} {base : Heap} {CR fX cdX ccX : Addr} {ocX kVX dcX pmX ctX eX clX : Value} {odX anX deX cldX : Option Addr} {slX sX cslX : Array (Option Value)} {vsX : Array Value} {fileX : Str} {tfX : Tok}
    (m : mg "InvalidName" = some (.ref CR)) (T : XG.OexB K "ValueError.__new__" [.type "ValueError", .type "Exception", .type "BaseException", .type "object"] CR) (iX : PySem.W.findIn K (.ref CR) "__init__" = some (some (.ref fX))) (tiX : PySem.W.typeIn K (.ref fX) = some (.type "function"))
    (lfX : K.lookup fX = some ⟨ocX, odX, .func (PySem.W.ksFn "__init__" "InvalidName.__init__" (defArgs st_InvalidName___init__) (defBody st_InvalidName___init__) (defScope st_InvalidName___init__) .none kVX dcX pmX anX (.ref cdX) ctX ccX), slX⟩)
    (lcX : K.lookup cdX = some ⟨eX, deX, .fields vsX, sX⟩) (h2X : vsX[2]? = some (.str fileX tfX)) (hfX : ((P.main.file : Str) == fileX) = true) (lccX : K.lookup ccX = some ⟨clX, cldX, .cell (some (.ref CR)), cslX⟩) (cX : PySem.W.codeIn K (.ref cdX) "InvalidName.__init__" = true)
    (tpX : (P.main.scope.names.lookup ("super" : Str)).isSome = false) (su : mg "super" = none) (op : PySem.W.nsIn K cStatics "thirdparty.any" = some none) (OB : OxB K "ValueError" CR) (no : ∀ n ∈ NOSX, PySem.W.findIn K (.ref CR) n = some none) : ErrF P w K mg base "InvalidName" CR 1 [] (XI.fl1 "InvalidName" "name") := by
  refine ⟨m, "ValueError", _, _, _, fX, _, ["self", "name"], XG.basV, T, iX, tiX, ⟨?_, fun r1 r2 => r1.append r2⟩, XG.fn_exc1 (k := 0) ⟨⟨_, _, _, _, _, _, _, _, _, _, _, _, _, _, _, _, _, _, rfl, lfX, lcX, h2X, hfX, lccX⟩, cX, tpX⟩ ss_InvalidName XG.basV ⟨T, su, op, OB.cl, OB.CD, OB.al, OB.VE⟩ (no _ (by simp))  (no _ (by simp)) (by decide) (by decide) (fun _ => rfl) (fun _ => rfl) (fun _ => rfl) ⟩
  intro s us ws _ h1 h2
  match us, ws, h1, h2 with
  | [a0, a1], [], _, _ => exact .of_eq rfl
theorem err_InvalidCorners {P : Program} {w : World} {K : PySem.W.Frag} {mg : Str → Option Value} {base : Heap} {CR fX cdX ccX : Addr} {ocX kVX dcX pmX ctX eX clX : Value} {odX anX deX cldX : Option Addr} {slX sX cslX : Array (Option Value)} {vsX : Array Value} {fileX : Str} {tfX : Tok}
    (m : mg "InvalidCorners" = some (.ref CR)) (T : XG.OexB K "ValueError.__new__" [.type "ValueError", .type "Exception", .type "BaseException", .type "object"] CR) (iX : PySem.W.findIn K (.ref CR) "__init__" = some (some (.ref fX))) (tiX : PySem.W.typeIn K (.ref fX) = some (.type "function"))
    (lfX : K.lookup fX = some ⟨ocX, odX, .func (PySem.W.ksFn "__init__" "InvalidCorners.__init__" (defArgs st_InvalidCorners___init__) (defBody st_InvalidCorners___init__) (defScope st_InvalidCorners___init__) .none kVX dcX pmX anX (.ref cdX) ctX ccX), slX⟩)
    (lcX : K.lookup cdX = some ⟨eX, deX, .fields vsX, sX⟩) (h2X : vsX[2]? = some (.str fileX tfX)) (hfX : ((P.main.file : Str) == fileX) = true) (lccX : K.lookup ccX = some ⟨clX, cldX, .cell (some (.ref CR)), cslX⟩) (cX : PySem.W.codeIn K (.ref cdX) "InvalidCorners.__init__" = true)
    (tpX : (P.main.scope.names.lookup ("super" : Str)).isSome = false) (su : mg "super" = none) (op : PySem.W.nsIn K cStatics "thirdparty.any" = some none) (OB : OxB K "ValueError" CR) (no : ∀ n ∈ NOSX, PySem.W.findIn K (.ref CR) n = some none) : ErrF P w K mg base "InvalidCorners" CR 1 [] (XI.fl1 "InvalidCorners" "at") := by
  refine ⟨m, "ValueError", _, _, _, fX, _, ["self", "at"], XG.basV, T, iX, tiX, ⟨?_, fun r1 r2 => r1.append r2⟩, XG.fn_exc1 (k := 0) ⟨⟨_, _, _, _, _, _, _, _, _, _, _, _, _, _, _, _, _, _, rfl, lfX, lcX, h2X, hfX, lccX⟩, cX, tpX⟩ ss_InvalidCorners XG.basV ⟨T, su, op, OB.cl, OB.CD, OB.al, OB.VE⟩ (no _ (by simp))  (no _ (by simp)) (by decide) (by decide) (fun _ => rfl) (fun _ => rfl) (fun _ => rfl) ⟩
  intro s us ws _ h1 h2
  match us, ws, h1, h2 with
  | [a0, a1], [], _, _ => exact .of_eq rfl
theorem err_NotConvex {P : Program} {w : World} {K : PySem.W.Frag} {mg : Str → Option Value} {base : Heap} {CR fX cdX ccX : Addr} {ocX kVX dcX pmX ctX eX clX : Value} {odX anX deX cldX : Option Addr} {slX sX cslX : Array (Option Value)} {vsX : Array Value} {fileX : Str} {tfX : Tok}
    (m : mg "NotConvex" = some (.ref CR)) (T : XG.OexB K "ValueError.__new__" [.type "ValueError", .type "Exception", .type "BaseException", .type "object"] CR) (iX : PySem.W.findIn K (.ref CR) "__init__" = some (some (.ref fX))) (tiX : PySem.W.typeIn K (.ref fX) = some (.type "function"))
    (lfX : K.lookup fX = some ⟨ocX, odX, .func (PySem.W.ksFn "__init__" "NotConvex.__init__" (defArgs st_NotConvex___init__) (defBody st_NotConvex___init__) (defScope st_NotConvex___init__) .none kVX dcX pmX anX (.ref cdX) ctX ccX), slX⟩)
    (lcX : K.lookup cdX = some ⟨eX, deX, .fields vsX, sX⟩) (h2X : vsX[2]? = some (.str fileX tfX)) (hfX : ((P.main.file : Str) == fileX) = true) (lccX : K.lookup ccX = some ⟨clX, cldX, .cell (some (.ref CR)), cslX⟩) (cX : PySem.W.codeIn K (.ref cdX) "NotConvex.__init__" = true)
    (tpX : (P.main.scope.names.lookup ("super" : Str)).isSome = false) (su : mg "super" = none) (op : PySem.W.nsIn K cStatics "thirdparty.any" = some none) (OB : OxB K "ValueError" CR) (no : ∀ n ∈ NOSX, PySem.W.findIn K (.ref CR) n = some none) : ErrF P w K mg base "NotConvex" CR 0 [] (XI.fl0 "NotConvex") := by
  refine ⟨m, "ValueError", _, _, _, fX, _, ["self"], XG.basV, T, iX, tiX, ⟨?_, fun r1 r2 => r1.append r2⟩, XG.fn_exc0 (k := 0) ⟨⟨_, _, _, _, _, _, _, _, _, _, _, _, _, _, _, _, _, _, rfl, lfX, lcX, h2X, hfX, lccX⟩, cX, tpX⟩ ss_NotConvex XG.basV ⟨T, su, op, OB.cl, OB.CD, OB.al, OB.VE⟩  (no _ (by simp)) (fun _ => rfl) (fun _ => rfl) ⟩
  intro s us ws _ h1 h2
  match us, ws, h1, h2 with
  | [a0], [], _, _ => exact .of_eq rfl
theorem err_InvalidWinds {P : Program} {w : World} {K : PySem.W.Frag} {mg : Str → Option Value} {base : Heap} {CR fX cdX ccX : Addr} {ocX kVX dcX pmX ctX eX clX : Value} {odX anX deX cldX : Option Addr} {slX sX cslX : Array (Option Value)} {vsX : Array Value} {fileX : Str} {tfX : Tok}
    (m : mg "InvalidWinds" = some (.ref CR)) (T : XG.OexB K "ValueError.__new__" [.type "ValueError", .type "Exception", .type "BaseException", .type "object"] CR) (iX : PySem.W.findIn K (.ref CR) "__init__" = some (some (.ref fX))) (tiX : PySem.W.typeIn K (.ref fX) = some (.type "function"))
    (lfX : K.lookup fX = some ⟨ocX, odX, .func (PySem.W.ksFn "__init__" "InvalidWinds.__init__" (defArgs st_InvalidWinds___init__) (defBody st_InvalidWinds___init__) (defScope st_InvalidWinds___init__) .none kVX dcX pmX anX (.ref cdX) ctX ccX), slX⟩)
    (lcX : K.lookup cdX = some ⟨eX, deX, .fields vsX, sX⟩) (h2X : vsX[2]? = some (.str fileX tfX)) (hfX : ((P.main.file : Str) == fileX) = true) (lccX : K.lookup ccX = some ⟨clX, cldX, .cell (some (.ref CR)), cslX⟩) (cX : PySem.W.codeIn K (.ref cdX) "InvalidWinds.__init__" = true)
    (tpX : (P.main.scope.names.lookup ("super" : Str)).isSome = false) (su : mg "super" = none) (op : PySem.W.nsIn K cStatics "thirdparty.any" = some none) (OB : OxB K "ValueError" CR) (no : ∀ n ∈ NOSX, PySem.W.findIn K (.ref CR) n = some none) : ErrF P w K mg base "InvalidWinds" CR 0 [] (XI.fl0 "InvalidWinds") := by
  refine ⟨m, "ValueError", _, _, _, fX, _, ["self"], XG.basV, T, iX, tiX, ⟨?_, fun r1 r2 => r1.append r2⟩, XG.fn_exc0 (k := 0) ⟨⟨_, _, _, _, _, _, _, _, _, _, _, _, _, _, _, _, _, _, rfl, lfX, lcX, h2X, hfX, lccX⟩, cX, tpX⟩ ss_InvalidWinds XG.basV ⟨T, su, op, OB.cl, OB.CD, OB.al, OB.VE⟩  (no _ (by simp)) (fun _ => rfl) (fun _ => rfl) ⟩
  intro s us ws _ h1 h2
  match us, ws, h1, h2 with
  | [a0], [], _, _ => exact .of_eq rfl
theorem err_SplitSide {P : Program} {w : World} {K : PySem.W.Frag} {mg : Str → Option Value} {base : Heap} {CR fX cdX ccX : Addr} {ocX kVX dcX pmX ctX eX clX : Value} {odX anX deX cldX : Option Addr} {slX sX cslX : Array (Option Value)} {vsX : Array Value} {fileX : Str} {tfX : Tok}
    (m : mg "SplitSide" = some (.ref CR)) (T : XG.OexB K "ValueError.__new__" [.type "ValueError", .type "Exception", .type "BaseException", .type "object"] CR) (iX : PySem.W.findIn K (.ref CR) "__init__" = some (some (.ref fX))) (tiX : PySem.W.typeIn K (.ref fX) = some (.type "function"))
    (lfX : K.lookup fX = some ⟨ocX, odX, .func (PySem.W.ksFn "__init__" "SplitSide.__init__" (defArgs st_SplitSide___init__) (defBody st_SplitSide___init__) (defScope st_SplitSide___init__) .none kVX dcX pmX anX (.ref cdX) ctX ccX), slX⟩)
    (lcX : K.lookup cdX = some ⟨eX, deX, .fields vsX, sX⟩) (h2X : vsX[2]? = some (.str fileX tfX)) (hfX : ((P.main.file : Str) == fileX) = true) (lccX : K.lookup ccX = some ⟨clX, cldX, .cell (some (.ref CR)), cslX⟩) (cX : PySem.W.codeIn K (.ref cdX) "SplitSide.__init__" = true)
    (tpX : (P.main.scope.names.lookup ("super" : Str)).isSome = false) (su : mg "super" = none) (op : PySem.W.nsIn K cStatics "thirdparty.any" = some none) (OB : OxB K "ValueError" CR) (no : ∀ n ∈ NOSX, PySem.W.findIn K (.ref CR) n = some none) : ErrF P w K mg base "SplitSide" CR 1 [] (XI.fl1 "SplitSide" "side") := by
  refine ⟨m, "ValueError", _, _, _, fX, _, ["self", "side"], XG.basV, T, iX, tiX, ⟨?_, fun r1 r2 => r1.append r2⟩, XG.fn_exc1 (k := 0) ⟨⟨_, _, _, _, _, _, _, _, _, _, _, _, _, _, _, _, _, _, rfl, lfX, lcX, h2X, hfX, lccX⟩, cX, tpX⟩ ss_SplitSide XG.basV ⟨T, su, op, OB.cl, OB.CD, OB.al, OB.VE⟩ (no _ (by simp))  (no _ (by simp)) (by decide) (by decide) (fun _ => rfl) (fun _ => rfl) (fun _ => rfl) ⟩
  intro s us ws _ h1 h2
  match us, ws, h1, h2 with
  | [a0, a1], [], _, _ => exact .of_eq rfl
theorem err_UnknownSide {P : Program} {w : World} {K : PySem.W.Frag} {mg : Str → Option Value} {base : Heap} {CR fX cdX ccX : Addr} {ocX kVX dcX pmX ctX eX clX : Value} {odX anX deX cldX : Option Addr} {slX sX cslX : Array (Option Value)} {vsX : Array Value} {fileX : Str} {tfX : Tok}
    (m : mg "UnknownSide" = some (.ref CR)) (T : XG.OexB K "LookupError.__new__" [.type "LookupError", .type "Exception", .type "BaseException", .type "object"] CR) (iX : PySem.W.findIn K (.ref CR) "__init__" = some (some (.ref fX))) (tiX : PySem.W.typeIn K (.ref fX) = some (.type "function"))
    (lfX : K.lookup fX = some ⟨ocX, odX, .func (PySem.W.ksFn "__init__" "UnknownSide.__init__" (defArgs st_UnknownSide___init__) (defBody st_UnknownSide___init__) (defScope st_UnknownSide___init__) .none kVX dcX pmX anX (.ref cdX) ctX ccX), slX⟩)
    (lcX : K.lookup cdX = some ⟨eX, deX, .fields vsX, sX⟩) (h2X : vsX[2]? = some (.str fileX tfX)) (hfX : ((P.main.file : Str) == fileX) = true) (lccX : K.lookup ccX = some ⟨clX, cldX, .cell (some (.ref CR)), cslX⟩) (cX : PySem.W.codeIn K (.ref cdX) "UnknownSide.__init__" = true)
    (tpX : (P.main.scope.names.lookup ("super" : Str)).isSome = false) (su : mg "super" = none) (op : PySem.W.nsIn K cStatics "thirdparty.any" = some none) (OB : OxB K "LookupError" CR) (no : ∀ n ∈ NOSX, PySem.W.findIn K (.ref CR) n = some none) : ErrF P w K mg base "UnknownSide" CR 1 [] (XI.fl1 "UnknownSide" "side") := by
  refine ⟨m, "LookupError", _, _, _, fX, _, ["self", "side"], XG.basL, T, iX, tiX, ⟨?_, fun r1 r2 => r1.append r2⟩, XG.fn_exc1 (k := 0) ⟨⟨_, _, _, _, _, _, _, _, _, _, _, _, _, _, _, _, _, _, rfl, lfX, lcX, h2X, hfX, lccX⟩, cX, tpX⟩ ss_UnknownSide XG.basL ⟨T, su, op, OB.cl, OB.CD, OB.al, OB.VE⟩ (no _ (by simp))  (no _ (by simp)) (by decide) (by decide) (fun _ => rfl) (fun _ => rfl) (fun _ => rfl) ⟩
  intro s us ws _ h1 h2
  match us, ws, h1, h2 with
  | [a0, a1], [], _, _ => exact .of_eq rfl
theorem try_mk {K : PySem.W.Frag} {mg : Str → Option Value} {ad : Nat → Addr} {fd : Nat → FuncData} {cl : Nat → Addr} {P : Program} {w : World} {base : Heap} (T : Txt K mg ad fd cl) {fT : Addr} {G1 G2 G3 : Value} {ocT kVT dcT pmT cdT ctT : Value} {odT anT : Option Addr} {slT : Array (Option Value)}
    (m : mg "_law_try" = some (.ref fT)) (g1 : mg "GustError" = some G1) (g2 : mg "Missing" = some G2) (g3 : mg "NothingLeft" = some G3) (kT : PySem.W.keepIn K (.ref fT) = true)
    (lT : K.lookup fT = some ⟨ocT, odT, .func (PySem.W.fnOf "_law_try" "_law_try" (defArgs st__law_try) (defBody st__law_try) (defScope st__law_try) .none kVT dcT pmT anT cdT ctT), slT⟩) (cT : PySem.W.codeIn K cdT "_law_try" = true) : TryF P w K mg base [G1, G2, G3] fT (ad 42) (fd 42) := by
  refine ⟨m, kT, ⟨_, _, _, _, _, _, _, _, _, _, _, _, _, _, _, _, _, _, _, _, _, _, _, _, _, _, _, _, _, _, _, _, _, _, _, _, _, lT, cT, ?_, sc__law_try, rfl, rfl, rfl, rfl, rfl, rfl⟩, ⟨_, _, _, rfl, g1, g2, g3⟩, T.m__law_fields, T.k__law_fields, T.bb__law_fields, ok__law_fields T⟩
  intro s us _ hl
  match us, hl with
  | [a], _ => exact .of_eq rfl
end W12
set_option Elab.async false
set_option linter.all false
set_option maxRecDepth 100000
set_option maxHeartbeats 2000000
namespace HK
open PySem PySem.Spec PyProof.Rows L2
/-- the objects that an object names -/
def refsK (o : Obj) : List Addr := match o.data with
  | .seq its _ => its.toList.flatMap He.refV
  | .dict es _ => es.toList.flatMap fun e => He.refV e.val
  | .func fd => He.refV fd.code ++ (He.refV fd.defaults ++ (He.refV fd.kwdefaults ++ fd.closure.map (·.2)))
  | .cls cd => cd.ns :: cd.mro.flatMap He.refV
  | .cell (some v) => He.refV v
  | .fields vs => (match o.cls with
    | .type n => if n = "property" ∨ n = "staticmethod" ∨ n = "classmethod" then vs.toList.flatMap He.refV else []
    | _ => [])
  | _ => []
def lvls (g : Addr → Option Obj) : Nat → List Addr → List Addr
  | 0, as => as
  | n + 1, as => as ++ lvls g n (as.flatMap fun a => match g a with
    | some o => refsK o
    | none => [])
def frK (g : Addr → Option Obj) : PySem.W.Frag := He.frG g (cStatics :: lvls g 5 [mainGlobals])
def recAt (K : PySem.W.Frag) (p : Addr) (n : String) : Addr := match PySem.W.recIn K p n with
  | some (.ref f :: _) => f
  | _ => 0
def recTl (K : PySem.W.Frag) (p : Addr) (n : String) : List Value := match PySem.W.recIn K p n with
  | some (_ :: r) => r
  | _ => []
def fdAt (K : PySem.W.Frag) (f : Addr) : FuncData := match K.lookup f with
  | some ⟨_, _, .func fd, _⟩ => fd
  | _ => default
def adV : Value → Addr
  | .ref a => a
  | _ => 0
def cdAt (K : PySem.W.Frag) (f : Addr) : Addr := adV (fdAt K f).code
def ccAt (K : PySem.W.Frag) (f : Addr) : Addr := match (fdAt K f).closure with
  | (_, c) :: _ => c
  | _ => 0
def fsAt (K : PySem.W.Frag) (c : Addr) : Array Value := match K.lookup c with
  | some ⟨_, _, .fields vs, _⟩ => vs
  | _ => #[]
def tbAt (K : PySem.W.Frag) (c : Addr) : Addr := adV ((fsAt K c)[11]?.getD .none)
abbrev FnV : Type := Option (Str × Str × Arguments × FuncBody × Scope × Addr × List Str × Addr)
def fnAt (K : PySem.W.Frag) (a : Addr) : FnV := match K.lookup a with
  | some ⟨_, _, .func fd, _⟩ => some (fd.name, fd.qualname, fd.params, fd.body, fd.scope, fd.globals, fd.closure.map (·.1), fd.builtins)
  | _ => none
structure Df where
  at_ : PySem.W.Frag → Addr
  name : Str
  qual : Str
  params : Arguments
  body : List Stmt
  scope : Scope
  clo : List Str := []
def Df.val (d : Df) : FnV := some (d.name, d.qual, d.params, .stmts d.body, d.scope, mainGlobals, d.clo, builtinsNs)
def Df.ok (K : PySem.W.Frag) (d : Df) : Bool := PySem.W.codeIn K (fdAt K (d.at_ K)).code d.qual
theorem fn0 {K : PySem.W.Frag} {d : Df} (e : fnAt K (d.at_ K) = d.val) (hc : d.clo = []) : ∃ oc od osl, K.lookup (d.at_ K) = some ⟨oc, od, .func (PySem.W.fnOf d.name d.qual d.params d.body d.scope (fdAt K (d.at_ K)).defaults (fdAt K (d.at_ K)).kwdefaults (fdAt K (d.at_ K)).doc (fdAt K (d.at_ K)).pyModule (fdAt K (d.at_ K)).annotations (fdAt K (d.at_ K)).code (fdAt K (d.at_ K)).closureTuple), osl⟩ := by
  unfold fnAt at e
  unfold fdAt
  cases q : K.lookup (d.at_ K) with
  | none => rw [q] at e; cases e
  | some o =>
    obtain ⟨oc, od, dt, osl⟩ := o
    rw [q] at e
    cases dt with
    | func fd =>
      obtain ⟨n1, n2, n3, n4, n5, n6, n7, n8, n9, n10, n11, n12, n13, n14, n15⟩ := fd
      have e2 : (some (n1, n2, n3, n4, n5, n6, n7.map (·.1), n15) : FnV) = some (d.name, d.qual, d.params, .stmts d.body, d.scope, mainGlobals, d.clo, builtinsNs) := e
      rw [hc] at e2
      simp only [Option.some.injEq, Prod.mk.injEq, List.map_eq_nil_iff] at e2
      obtain ⟨h1, h2, h3, h4, h5, h6, h7, h8⟩ := e2
      subst h1 h2 h3 h4 h5 h6 h7 h8
      exact ⟨oc, od, osl, rfl⟩
    | _ => cases e
theorem fn1 {K : PySem.W.Frag} {d : Df} {n : Str} (e : fnAt K (d.at_ K) = d.val) (hc : d.clo = [n]) : ∃ oc od osl, K.lookup (d.at_ K) = some ⟨oc, od, .func (PySem.W.fnX d.name d.qual d.params d.body d.scope [(n, ccAt K (d.at_ K))] (fdAt K (d.at_ K)).defaults (fdAt K (d.at_ K)).kwdefaults (fdAt K (d.at_ K)).doc (fdAt K (d.at_ K)).pyModule (fdAt K (d.at_ K)).annotations (fdAt K (d.at_ K)).code (fdAt K (d.at_ K)).closureTuple), osl⟩ := by
  unfold fnAt at e
  unfold ccAt fdAt
  cases q : K.lookup (d.at_ K) with
  | none => rw [q] at e; cases e
  | some o =>
    obtain ⟨oc, od, dt, osl⟩ := o
    rw [q] at e
    cases dt with
    | func fd =>
      obtain ⟨n1, n2, n3, n4, n5, n6, n7, n8, n9, n10, n11, n12, n13, n14, n15⟩ := fd
      have e2 : (some (n1, n2, n3, n4, n5, n6, n7.map (·.1), n15) : FnV) = some (d.name, d.qual, d.params, .stmts d.body, d.scope, mainGlobals, d.clo, builtinsNs) := e
      rw [hc] at e2
      simp only [Option.some.injEq, Prod.mk.injEq] at e2
      obtain ⟨h1, h2, h3, h4, h5, h6, h7, h8⟩ := e2
      subst h1 h2 h3 h4 h5 h6 h8
      match n7, h7 with
      | [(m, c)], h7 =>
        obtain rfl : m = n := by simpa using h7
        exact ⟨oc, od, osl, rfl⟩
    | _ => cases e
abbrev Al : Type := Bool × List FnV
def obsK (fs : List (List (PySem.W.Frag → Bool))) (ds : List Df) (K : PySem.W.Frag) : Al := ((fs.all fun ch => ch.all fun f => f K) && ds.all fun d => d.ok K, ds.map fun d => fnAt K (d.at_ K))
def valK (ds : List Df) : Al := (true, ds.map Df.val)
def Says (fs : List (List (PySem.W.Frag → Bool))) (ds : List Df) (K : PySem.W.Frag) : Prop := obsK fs ds K = valK ds
def hookK (fs : List (List (PySem.W.Frag → Bool))) (ds : List Df) : PySem.W.Hook where
  α := Al
  obs := fun s => obsK fs ds (frK s.heap.get?)
  val := fun _ => valK ds
  says := fun _ h => ∃ K : PySem.W.Frag, K.In h ∧ Says fs ds K
  of := fun _ _ e => ⟨_, He.frG_in, e⟩
  keeps := fun _ _ _ ⟨K, hK, c⟩ k => ⟨K, PySem.W.Frag.In.keeps hK k, c⟩
def obK (fs : List (List (PySem.W.Frag → Bool))) (ds : List Df) (s : PySem.W.SharedT) : Al := obsK fs ds (frK (HandSHeadRun.getT s))
theorem obK_eq (fs : List (List (PySem.W.Frag → Bool))) (ds : List Df) (s : PySem.W.SharedT) : obK fs ds s = (hookK fs ds).obs s.abs := by
  have e : HandSHeadRun.getT s = s.abs.heap.get? := funext (HandSHeadRun.getT_eq s)
  show obsK fs ds (frK (HandSHeadRun.getT s)) = obsK fs ds (frK s.abs.heap.get?)
  rw [e]
section
variable {fs : List (List (PySem.W.Frag → Bool))} {ds : List Df} {K : PySem.W.Frag}
theorem Says.fact (c : Says fs ds K) (i j : Nat) {ch : List (PySem.W.Frag → Bool)} {f : PySem.W.Frag → Bool} (h : fs[i]? = some ch) (h2 : ch[j]? = some f) : f K = true := by
  have c1 := (He.ba (show ((fs.all fun ch => ch.all fun f => f K) && ds.all fun d => d.ok K) = true from congrArg (fun z : Al => z.1) c)).1
  exact List.all_eq_true.mp (List.all_eq_true.mp c1 ch (List.mem_of_getElem? h)) f (List.mem_of_getElem? h2)
theorem Says.ok (c : Says fs ds K) (i : Nat) {d : Df} (h : ds[i]? = some d) : d.ok K = true := by
  have c1 := (He.ba (show ((fs.all fun ch => ch.all fun f => f K) && ds.all fun d => d.ok K) = true from congrArg (fun z : Al => z.1) c)).2
  exact List.all_eq_true.mp c1 d (List.mem_of_getElem? h)
theorem Says.val (c : Says fs ds K) (i : Nat) {d : Df} (h : ds[i]? = some d) : fnAt K (d.at_ K) = d.val := by
  have e : ds.map (fun d => fnAt K (d.at_ K)) = ds.map Df.val := congrArg (fun z : Al => z.2) c
  have e2 : (ds.map fun d => fnAt K (d.at_ K))[i]? = (ds.map Df.val)[i]? := by rw [e]
  rw [List.getElem?_map, List.getElem?_map, h] at e2
  exact Option.some.inj e2
/-- a def, its defaults, its code -/
theorem Says.fn (c : Says fs ds K) (i : Nat) {d : Df} {dV kV cdv : Value} (h : ds[i]? = some d) (hc : d.clo = []) (h1 : (fdAt K (d.at_ K)).defaults = dV) (h2 : (fdAt K (d.at_ K)).kwdefaults = kV) (h3 : (fdAt K (d.at_ K)).code = cdv) :
    (∃ oc od osl doc pm an ct, K.lookup (d.at_ K) = some ⟨oc, od, .func (PySem.W.fnOf d.name d.qual d.params d.body d.scope dV kV doc pm an cdv ct), osl⟩) ∧ PySem.W.codeIn K cdv d.qual = true := by
  subst h1 h2 h3
  obtain ⟨oc, od, osl, e⟩ := fn0 (c.val i h) hc
  exact ⟨⟨oc, od, osl, _, _, _, _, e⟩, c.ok i h⟩
theorem Says.fnC (c : Says fs ds K) (i : Nat) {d : Df} {n : Str} {dV kV cdv : Value} (h : ds[i]? = some d) (hc : d.clo = [n]) (h1 : (fdAt K (d.at_ K)).defaults = dV) (h2 : (fdAt K (d.at_ K)).kwdefaults = kV) (h3 : (fdAt K (d.at_ K)).code = cdv) :
    (∃ oc od osl doc pm an ct, K.lookup (d.at_ K) = some ⟨oc, od, .func (PySem.W.fnX d.name d.qual d.params d.body d.scope [(n, ccAt K (d.at_ K))] dV kV doc pm an cdv ct), osl⟩) ∧ PySem.W.codeIn K cdv d.qual = true := by
  subst h1 h2 h3
  obtain ⟨oc, od, osl, e⟩ := fn1 (c.val i h) hc
  exact ⟨⟨oc, od, osl, _, _, _, _, e⟩, c.ok i h⟩
end
def isFields (K : PySem.W.Frag) (c : Addr) : Bool := match K.lookup c with
  | some ⟨_, _, .fields _, _⟩ => true
  | _ => false
theorem isFields_ok {K : PySem.W.Frag} {c : Addr} (h : isFields K c = true) : ∃ e dd sl, K.lookup c = some ⟨e, dd, .fields (fsAt K c), sl⟩ := by
  unfold isFields at h
  unfold fsAt
  cases q : K.lookup c with
  | none => rw [q] at h; cases h
  | some o =>
    obtain ⟨oc, od, dt, osl⟩ := o
    rw [q] at h
    cases dt with
    | fields vs => exact ⟨oc, od, osl, rfl⟩
    | _ => cases h
def exB (K : PySem.W.Frag) (C : Addr) (bmB : List Value) (newId : String) : Bool := match K.lookup C with
  | some ⟨.type t, _, .cls cd, sl⟩ => (match cd.mro, sl.toList with
    | .ref C' :: bm, [_, _, _, _, some (.builtin n), _] => t == "type" && (C' == C && (n == newId && ((!cd.hasDel) && (cd.hasDict && PySem.W.excTail bmB bm))))
    | _, _ => false)
  | _ => false
theorem exB_ok {K : PySem.W.Frag} {C : Addr} {bmB : List Value} {newId : String} (q : exB K C bmB newId = true) : ∃ nm qn N bs bm sn sub ab col dd k0 k1 k2 k3 k5,
    K.lookup C = some (excClassObj nm qn C N bs bm true sn sub ab col dd k0 k1 k2 k3 k5 newId) ∧ PySem.W.excTail bmB bm = true := by
  unfold exB at q
  split at q
  · rename_i tn dd cd sl ho
    split at q
    · rename_i C' bm k0 k1 k2 k3 n k5 hm hs
      simp only [Bool.and_eq_true, beq_iff_eq, Bool.not_eq_true'] at q
      obtain ⟨rfl, rfl, rfl, hdel, hdi, ht⟩ := q
      obtain ⟨nm, bs, mro, ns, qn, hd, sn, sub, ab, col, del⟩ := cd
      dsimp only at hm hdel hdi
      subst hm hdel hdi
      have hsl : sl = #[k0, k1, k2, k3, some (.builtin n), k5] := by
        obtain ⟨l⟩ := sl
        simp only at hs
        rw [hs]
      subst hsl
      exact ⟨_, _, _, _, _, _, _, _, _, _, _, _, _, _, _, ho, ht⟩
    · cases q
  · cases q
def fileB (K : PySem.W.Frag) (file : Str) (c : Addr) : Bool := match ((fsAt K c)[2]? : Option Value) with
  | some (.str f _) => file == f
  | _ => false
theorem fileB_ok {K : PySem.W.Frag} {file : Str} {c : Addr} (h : fileB K file c = true) : ∃ f t, (fsAt K c)[2]? = some (.str f t) ∧ (file == f) = true := by
  unfold fileB at h
  split at h
  · rename_i f t e
    exact ⟨f, t, e, h⟩
  · cases h
def cellB (K : PySem.W.Frag) (c C : Addr) : Bool := match K.lookup c with
  | some ⟨_, _, .cell (some (.ref C')), _⟩ => C' == C
  | _ => false
theorem cellB_ok {K : PySem.W.Frag} {c C : Addr} (h : cellB K c C = true) : ∃ e d s, K.lookup c = some ⟨e, d, .cell (some (.ref C)), s⟩ := by
  unfold cellB at h
  split at h
  · rename_i e d C' s ho
    cases beq_iff_eq.mp h
    exact ⟨_, _, _, ho⟩
  · cases h
def tkV : Value → Tok
  | .int _ t => t
  | .str _ t => t
  | _ => default
def nsV (K : PySem.W.Frag) (D : Addr) (x : Str) : Value := match PySem.W.nsIn K D x with
  | some (some v) => v
  | _ => .none
theorem noB {K : PySem.W.Frag} {P : Addr} (h : (K.lookup P).isNone = true) : K.lookup P = none := Option.isNone_iff_eq_none.mp h
theorem dB {p : Prop} [Decidable p] (h : decide p = true) : p := of_decide_eq_true h
end HK
namespace DL
open PySem PySem.Spec PyProof.Rows L2
theorem walk_DTsE {l : PySem.W.OpenLaw} {k : Nat} {q : Program} {loose : List Str} {XP : (Str → Option Value) → Heap → Prop} {YP : World → Heap → Prop} {d : DefRec} {φ : List Addr → Ct} {x : Str} (qs : List Str)
    (hn : l.most = some 63) (hdf : d.params.defaults = []) (hr : Room k callerA)
    (hφ : ∀ (Ps : List Addr) (ns : List Int) (M : Mm) (kk : DK) (xx : DX), ns.length ≤ 63 → (∀ z ∈ ns, Builtin.Int.intBits z ≤ 1048576) → Ps.Nodup → Ps.length = qs.length → (∀ (i : Nat) (P : Addr) (q0 : Str), Ps[i]? = some P → qs[i]? = some q0 → M P = some (.tbl q0)) → (∀ a, a ∉ Ps → M a = none) → (∀ M', kk (.bl true) M') → φ Ps [.scr ns] M kk xx)
    (F : ∀ (w : World) (mg : Str → Option Value) (fa : Addr) (h : Heap), YP w h → h.Ns mainGlobals mg → mg d.name = some (.ref fa) →
      ∃ (K : PySem.W.Frag) (_ : K.In h) (fd : FuncData) (cs : List (Addr × Addr)), (cs.map (·.2)).Nodup ∧ cs.length = qs.length ∧
        (∀ p ∈ cs, K.lookup p.2 = none ∧ PySem.W.codeHdIn K p.1 p.2 = true ∧ ∃ (nm : Str) (f : Addr) (o : Obj) (fd : FuncData) (e : Value) (dd : Option Addr) (vs : Array Value) (sl : Array (Option Value)), ((recsOf q).any fun e => e.name == nm) = true ∧ mg nm = some (.ref f) ∧ K.lookup f = some o ∧ o.data = .func fd ∧ fd.code = .ref p.1 ∧ K.lookup p.1 = some ⟨e, dd, .fields vs, sl⟩ ∧ vs[11]? = some (.ref p.2)) ∧
        (∀ (s : Shared) (u : Value), BindsTo s fd ⟨[u], []⟩ [(x, u)]) ∧
        ∀ base : Heap, K.In base → base.Ns mainGlobals mg → (∀ p ∈ cs, LamX.TabB base mg p.1 p.2) → FnOk l.prog w K mg base (L2.CX l.prog w) k fa fd [x] (spD K 1 (φ (cs.map (·.2))))) :
    PySem.W.WalkO q loose XP YP l.row.toRowW d [] (fun f vs => PySem.call f vs) := by
  refine Att.attach_callB hn hdf fun w s₀ s₁ mg mb fa o pm cd doc a vs ns G Y ho hd hcd hmg hobj hints hlen hbits hg => ?_
  obtain ⟨K, KX, fd, cs, hnd, hcl, hcs, hb, hF⟩ := F w mg fa s₁.heap Y G.T.g hmg
  have hP : ∀ p ∈ cs, s₁.heap.get? p.2 = some { cls := .none, data := .fields #[] } := fun p hp => by
    obtain ⟨_, _, nm, f, o1, fd1, e, dd, vs1, sl, hrec, hm, k1, k2, k3, k4, k5⟩ := hcs p hp
    obtain ⟨dL, hm', hn1⟩ := List.any_eq_true.mp hrec
    have hn2 : dL.name = nm := beq_iff_eq.mp hn1
    obtain ⟨a', o', fd', c', P', h1, h2, h3, h4, h5, h6⟩ := G.T.tab dL hm'
    rw [hn2, hm] at h1
    cases h1
    have g1 := KX _ _ k1
    rw [g1] at h2
    cases h2
    rw [k2] at h3
    cases h3
    rw [k3] at h4
    cases h4
    obtain ⟨⟨oc, vc, e1, _, e3, e4⟩, hP⟩ := h6
    have g2 := KX _ _ k4
    rw [g2] at e1
    cases e1
    cases e3
    rw [k5] at e4
    cases e4
    exact hP
  refine LamX.law_callTs (sp := spD K 1 (φ (cs.map (·.2)))) (x := x) (cs := cs) KX G.T.g G.T.b G.T.builtins G.T.nolimit hg hP (fun p hp => (hcs p hp).1) (fun p hp => PySem.W.codeHd_of_K KX (hcs p hp).2.1) G.T.bmain hobj hints (Nat.le_trans hlen (by decide)) hr hF hb (fun H hT hS => ?_) fun H e s' h => by
    obtain ⟨_, _, _, _, _, _, _, _, _, _, _, _, z⟩ := h
    exact z
  -- the state: the tables change, the rest stays
  let tb : Addr → Option MO := fun b => ((cs.map (·.2)).zip qs).lookup b |>.map MO.tbl
  have tb_none : ∀ b, b ∉ cs.map (·.2) → tb b = none := fun b hb => by
    have : ((cs.map (·.2)).zip qs).lookup b = none := by
      rw [List.lookup_eq_none_iff]
      intro p hp
      have : p.1 ∈ cs.map (·.2) := (List.of_mem_zip hp).1
      simp only [bne_iff_ne, ne_eq, beq_eq_false_iff_ne]
      intro e
      exact hb (e ▸ this)
    show (List.lookup b _).map MO.tbl = none
    rw [this]; rfl
  have look : ∀ (Ps : List Addr) (qs : List Str), Ps.Nodup → ∀ (i : Nat) (P : Addr) (q0 : Str), Ps[i]? = some P → qs[i]? = some q0 → (Ps.zip qs).lookup P = some q0 := by
    intro Ps
    induction Ps with
    | nil => intro qs _ i P q0 h; simp at h
    | cons A Ps ih =>
      intro qs hnd i P q0 h1 h2
      cases qs with
      | nil => simp at h2
      | cons B qs =>
        cases i with
        | zero =>
          simp at h1 h2
          subst h1 h2
          simp [List.lookup_cons]
        | succ i =>
          simp only [List.getElem?_cons_succ] at h1 h2
          have hne : P ≠ A := fun e => by
            rw [e] at h1
            exact (List.nodup_cons.mp hnd).1 (List.mem_of_getElem? h1)
          rw [List.zip_cons_cons, List.lookup_cons, beq_false_of_ne hne]
          exact ih qs (List.nodup_cons.mp hnd).2 i P q0 h1 h2
  have eT : ∀ b mo, tb b = some mo → ∃ q0, mo = .tbl q0 ∧ H b = some (.tbl #[]) ∧ b ∈ cs.map (·.2) := fun b mo z => by
    by_cases hb : b ∈ cs.map (·.2)
    · obtain ⟨p, hp, rfl⟩ := List.mem_map.mp hb
      have z' : (List.lookup p.2 ((cs.map (·.2)).zip qs)).map MO.tbl = some mo := z
      cases hq : List.lookup p.2 ((cs.map (·.2)).zip qs) with
      | none => rw [hq] at z'; cases z'
      | some q0 =>
        rw [hq] at z'
        cases z'
        exact ⟨q0, rfl, hT p hp, hb⟩
    · rw [tb_none b hb] at z; cases z
  have ne : ∀ u, H a = some u → (∀ ps, u ≠ .tbl ps) → a ∉ cs.map (·.2) := fun u e1 e2 z => by
    obtain ⟨p, hp, z2⟩ := List.mem_map.mp z
    rw [← z2, hT p hp] at e1
    exact e2 _ (Option.some.inj e1).symm
  have hG : ∀ u, H a = some u → (∀ ps, u ≠ .tbl ps) → (fun b => if b ∈ cs.map (·.2) then none else H b : Hp) a = some u := fun u e1 e2 => by
    show (if a ∈ cs.map (·.2) then none else H a) = some u
    rw [if_neg (ne u e1 e2)]
    exact e1
  have hS2 : SqL K (fun b => if b ∈ cs.map (·.2) then none else H b) a (ns.map V.int) := by
    rcases hS with (z | ⟨o2, z⟩) | z
    · exact .inl (.inl (hG _ z fun ps y => by cases y))
    · exact .inl (.inr ⟨o2, hG _ z fun ps y => by cases y⟩)
    · exact .inr z
  refine ⟨⟨H, fun b => if b ∈ cs.map (·.2) then none else H b, tb⟩, [.scr ns], fun d _ => d = .bl true, fun _ _ _ => False, rfl, ⟨fun b u z => ?_, fun b mo z => ?_, fun b mo z => ?_⟩, .cons (.scr hS2) .nil, rfl,
    hφ (cs.map (·.2)) ns _ _ _ hlen hbits hnd (by rw [List.length_map]; exact hcl) (fun i P q0 h1 h2 => ?_) (fun b hb => tb_none b hb) (fun _ => rfl), fun d t e _ _ v r => by subst e; cases r; rfl, fun C fs t h => h.elim⟩
  · have z' : (if b ∈ cs.map (·.2) then none else H b) = some u := z
    split at z'
    · cases z'
    · exact z'
  · obtain ⟨_, _, _, hb⟩ := eT b mo z
    show (if b ∈ cs.map (·.2) then none else H b) = none
    rw [if_pos hb]
  · obtain ⟨q0, rfl, eP, _⟩ := eT b mo z
    show MRep _ _ (H b) _
    rw [eP]
    exact ⟨#[], rfl, True.intro, fun pos cv hc => by simp [codeAmong] at hc⟩
  · show (List.lookup P _).map MO.tbl = some _
    rw [look _ _ hnd i P q0 h1 h2]
    rfl
end DL
set_option Elab.async false
set_option linter.all false
set_option maxRecDepth 100000
set_option maxHeartbeats 4000000
set_option pp.deepTerms false
set_option pp.deepTerms.threshold 12
set_option pp.maxSteps 4000
namespace W12
open PySem PySem.Spec PyProof.Rows L2 DL
theorem all_mk {l : PySem.W.OpenLaw} {w : World} {K : PySem.W.Frag} {h : Heap} {mg : Str → Option Value} {fa f0 f1 f2 f3 f4 f5 f6 f7 f8 f9 f10 f11 f12 f13 f14 f15 f16 f17 f18 f19 f20 f21 f22 f23 f24 f25 f26 f27 f28 f29 f30 f31 f32 f33 f34 f35 f36 f37 f38 f39 f40 f41 f42 f43 f44 f45 f46 f47 f48 f49 f50 f51 f52 f53 f54 C0 : Addr} (X : K.In h) (G : h.Ns mainGlobals mg) (hfa : mg "law" = some (.ref fa))
    {od0 an0 od1 an1 od2 an2 od3 an3 od4 an4 od5 an5 od6 an6 od7 an7 od8 an8 od9 an9 od10 an10 od11 an11 od12 an12 od13 an13 od14 an14 od15 an15 od16 an16 od17 an17 od18 an18 od19 an19 od20 an20 od21 an21 od22 an22 od23 an23 od24 an24 od25 an25 od26 an26 od27 an27 od28 an28 od29 an29 od30 an30 od31 an31 od32 an32 od33 an33 od34 an34 od35 an35 od36 an36 od37 an37 od38 an38 od39 an39 od40 an40 od41 an41 od42 an42 od43 an43 od44 an44 od45 an45 od46 an46 od47 an47 od48 an48 od49 an49 od50 an50 od51 an51 od52 an52 od53 an53 od54 an54 : Option Addr} {sl0 sl1 sl2 sl3 sl4 sl5 sl6 sl7 sl8 sl9 sl10 sl11 sl12 sl13 sl14 sl15 sl16 sl17 sl18 sl19 sl20 sl21 sl22 sl23 sl24 sl25 sl26 sl27 sl28 sl29 sl30 sl31 sl32 sl33 sl34 sl35 sl36 sl37 sl38 sl39 sl40 sl41 sl42 sl43 sl44 sl45 sl46 sl47 sl48 sl49 sl50 sl51 sl52 sl53 sl54 : Array (Option Value)} {oc0 dc0 pm0 cd0 ct0 oc1 dc1 pm1 cd1 ct1 oc2 dc2 pm2 cd2 ct2 oc3 dc3 pm3 cd3 ct3 oc4 dc4 pm4 cd4 ct4 oc5 dc5 pm5 cd5 ct5 oc6 dc6 pm6 cd6 ct6 oc7 dc7 pm7 cd7 ct7 oc8 dc8 pm8 cd8 ct8 oc9 dc9 pm9 cd9 ct9 oc10 dc10 pm10 cd10 ct10 oc11 dc11 pm11 cd11 ct11 oc12 dc12 pm12 cd12 ct12 oc13 dc13 pm13 cd13 ct13 oc14 dc14 pm14 cd14 ct14 oc15 dc15 pm15 cd15 ct15 oc16 dc16 pm16 cd16 ct16 oc17 dc17 pm17 cd17 ct17 oc18 dc18 pm18 cd18 ct18 oc19 dc19 pm19 cd19 ct19 oc20 dc20 pm20 cd20 ct20 oc21 dc21 pm21 cd21 ct21 oc22 dc22 pm22 cd22 ct22 oc23 dc23 pm23 cd23 ct23 oc24 dc24 pm24 cd24 ct24 oc25 dc25 pm25 cd25 ct25 oc26 dc26 pm26 cd26 ct26 oc27 dc27 pm27 cd27 ct27 oc28 dc28 pm28 cd28 ct28 oc29 dc29 pm29 cd29 ct29 oc30 dc30 pm30 cd30 ct30 oc31 dc31 pm31 cd31 ct31 oc32 dc32 pm32 cd32 ct32 oc33 dc33 pm33 cd33 ct33 oc34 dc34 pm34 cd34 ct34 oc35 dc35 pm35 cd35 ct35 oc36 dc36 pm36 cd36 ct36 oc37 dc37 pm37 cd37 ct37 oc38 dc38 pm38 cd38 ct38 oc39 dc39 pm39 cd39 ct39 oc40 dc40 pm40 cd40 ct40 oc41 dc41 pm41 cd41 ct41 oc42 dc42 pm42 cd42 ct42 oc43 dc43 pm43 cd43 ct43 oc44 dc44 pm44 cd44 ct44 oc45 dc45 pm45 cd45 ct45 oc46 dc46 pm46 cd46 ct46 oc47 dc47 pm47 cd47 ct47 oc48 dc48 pm48 cd48 ct48 oc49 dc49 pm49 cd49 ct49 oc50 dc50 pm50 cd50 ct50 oc51 dc51 pm51 cd51 ct51 oc52 dc52 pm52 cd52 ct52 oc53 dc53 pm53 cd53 ct53 oc54 dc54 pm54 ct54 : Value}
    {kV0 : Value} {kV1 : Value} {kV2 : Value} {kV3 : Value} {kV4 : Value} {kV5 : Value} {kV6 : Value} {kV7 : Value} {kV8 : Value} {kV9 : Value} {kV10 : Value} {kV11 : Value} {kV12 : Value} {kV13 : Value} {p14 : Addr} {rest14 : List Value} {kV14 : Value} {p15 : Addr} {rest15 : List Value} {kV15 : Value} {p16 : Addr} {rest16 : List Value} {kV16 : Value} {kV17 : Value} {kV18 : Value} {kV19 : Value} {kV20 : Value} {kV21 : Value} {kV22 : Value} {kV23 : Value} {kV24 : Value} {kV25 : Value} {kV26 : Value} {kV27 : Value} {kV28 : Value} {kV29 : Value} {kV30 : Value} {kV31 : Value} {kV32 : Value} {kV33 : Value} {kV34 : Value} {kV35 : Value} {kV36 : Value} {kV37 : Value} {kV38 : Value} {kV39 : Value} {kV40 : Value} {kV41 : Value} {kV42 : Value} {kV43 : Value} {kV44 : Value} {kV45 : Value} {kV46 : Value} {kV47 : Value} {kV48 : Value} {kV49 : Value} {kV50 : Value} {kV51 : Value} {kV52 : Value} {kV53 : Value} {kV54 : Value} {t_FARTHEST : _} {t_FEWEST : _} {t_LETTERS : _} {t_LONGEST_NAME : _} {t_MOST_CORNERS : _}
    {q : Program} {fT : Addr} {ocT kVT dcT pmT cdT ctT : Value} {odT anT : Option Addr} {slT : Array (Option Value)} {G1 G2 G3 : Addr} {cL54 PL54 : Addr} {eL54 : Value} {deL54 : Option Addr} {vsL54 : Array Value} {sL54 : Array (Option Value)}
    {CX0 fX0 cdX0 ccX0 : Addr} {ocX0 kVX0 dcX0 pmX0 ctX0 eX0 clX0 : Value} {odX0 anX0 deX0 cldX0 : Option Addr} {slX0 sX0 cslX0 : Array (Option Value)} {vsX0 : Array Value} {fileX0 : Str} {tfX0 : Tok} {nmX0 : _} {qX0 : _} {NX0 : _} {bsX0 : _} {bmX0 : _} {snX0 : _} {subX0 : _} {abX0 : _} {colX0 : _} {ddX0 : _} {k0X0 : _} {k1X0 : _} {k2X0 : _} {k3X0 : _} {k5X0 : _}
    {CX1 fX1 cdX1 ccX1 : Addr} {ocX1 kVX1 dcX1 pmX1 ctX1 eX1 clX1 : Value} {odX1 anX1 deX1 cldX1 : Option Addr} {slX1 sX1 cslX1 : Array (Option Value)} {vsX1 : Array Value} {fileX1 : Str} {tfX1 : Tok} {nmX1 : _} {qX1 : _} {NX1 : _} {bsX1 : _} {bmX1 : _} {snX1 : _} {subX1 : _} {abX1 : _} {colX1 : _} {ddX1 : _} {k0X1 : _} {k1X1 : _} {k2X1 : _} {k3X1 : _} {k5X1 : _}
    {CX2 fX2 cdX2 ccX2 : Addr} {ocX2 kVX2 dcX2 pmX2 ctX2 eX2 clX2 : Value} {odX2 anX2 deX2 cldX2 : Option Addr} {slX2 sX2 cslX2 : Array (Option Value)} {vsX2 : Array Value} {fileX2 : Str} {tfX2 : Tok} {nmX2 : _} {qX2 : _} {NX2 : _} {bsX2 : _} {bmX2 : _} {snX2 : _} {subX2 : _} {abX2 : _} {colX2 : _} {ddX2 : _} {k0X2 : _} {k1X2 : _} {k2X2 : _} {k3X2 : _} {k5X2 : _}
    {CX3 fX3 cdX3 ccX3 : Addr} {ocX3 kVX3 dcX3 pmX3 ctX3 eX3 clX3 : Value} {odX3 anX3 deX3 cldX3 : Option Addr} {slX3 sX3 cslX3 : Array (Option Value)} {vsX3 : Array Value} {fileX3 : Str} {tfX3 : Tok} {nmX3 : _} {qX3 : _} {NX3 : _} {bsX3 : _} {bmX3 : _} {snX3 : _} {subX3 : _} {abX3 : _} {colX3 : _} {ddX3 : _} {k0X3 : _} {k1X3 : _} {k2X3 : _} {k3X3 : _} {k5X3 : _}
    {CX4 fX4 cdX4 ccX4 : Addr} {ocX4 kVX4 dcX4 pmX4 ctX4 eX4 clX4 : Value} {odX4 anX4 deX4 cldX4 : Option Addr} {slX4 sX4 cslX4 : Array (Option Value)} {vsX4 : Array Value} {fileX4 : Str} {tfX4 : Tok} {nmX4 : _} {qX4 : _} {NX4 : _} {bsX4 : _} {bmX4 : _} {snX4 : _} {subX4 : _} {abX4 : _} {colX4 : _} {ddX4 : _} {k0X4 : _} {k1X4 : _} {k2X4 : _} {k3X4 : _} {k5X4 : _}
    {CX5 fX5 cdX5 ccX5 : Addr} {ocX5 kVX5 dcX5 pmX5 ctX5 eX5 clX5 : Value} {odX5 anX5 deX5 cldX5 : Option Addr} {slX5 sX5 cslX5 : Array (Option Value)} {vsX5 : Array Value} {fileX5 : Str} {tfX5 : Tok} {nmX5 : _} {qX5 : _} {NX5 : _} {bsX5 : _} {bmX5 : _} {snX5 : _} {subX5 : _} {abX5 : _} {colX5 : _} {ddX5 : _} {k0X5 : _} {k1X5 : _} {k2X5 : _} {k3X5 : _} {k5X5 : _}
    (aC0 : PySem.W.nsIn K mainGlobals "Tile" = some (some (.ref C0)))
    (pg0 : PySem.W.plainGet K C0 Str.empty = true)
    (hd0 : PySem.W.hasDictIn K C0 = true)
    (po0 : PySem.W.plainOver K C0 = true)
    (sa0 : PySem.W.findIn K (.ref C0) "__setattr__" = some (some (.builtin "object.__setattr__")))
    (ha0 : PySem.W.findIn K (.ref C0) "__class__" = some (some (.builtin "object.__class__")))
    (hm0 : PySem.W.mroIn K C0 (.type "object") = some true)
    (ic0 : PySem.W.isClsIn K C0 = true)
    (ty0 : PySem.W.typeIn K (.ref C0) = some (.type "type"))
    (sf0 : PySem.W.selfFirst K C0 = true)
    (kb0_non : PySem.W.subIn K (.type "NoneType") (.ref C0) = some false)
    (kb0_bl : PySem.W.subIn K (.type "bool") (.ref C0) = some false)
    (kb0_int : PySem.W.subIn K (.type "int") (.ref C0) = some false)
    (kb0_str : PySem.W.subIn K (.type "str") (.ref C0) = some false)
    (kb0_lst : PySem.W.subIn K (.type "list") (.ref C0) = some false)
    (kb0_tup : PySem.W.subIn K (.type "tuple") (.ref C0) = some false)
    (ki0_bool : PySem.W.subIn K (.ref C0) (.type "bool") = some false)
    (ki0_int : PySem.W.subIn K (.ref C0) (.type "int") = some false)
    (ki0_list : PySem.W.subIn K (.ref C0) (.type "list") = some false)
    (ki0_str : PySem.W.subIn K (.ref C0) (.type "str") = some false)
    (ki0_tuple : PySem.W.subIn K (.ref C0) (.type "tuple") = some false)
    (hn : PySem.W.specialIn K (.builtin "object.__class__") "__get__" = some (some (.builtin "getset_descriptor.__get__")))
    (htk : PySem.W.takesIn K (.builtin "object.__class__") = some true)
    (na_Tile_inward : PySem.W.findIn K (.ref C0) "inward" = some none)
    (na_Tile_own_corners : PySem.W.findIn K (.ref C0) "own_corners" = some none)
    (na_Tile_own_name : PySem.W.findIn K (.ref C0) "own_name" = some none)
    (na_Tile_own_winds : PySem.W.findIn K (.ref C0) "own_winds" = some none)
    (a0 : PySem.W.nsIn K mainGlobals "is_number" = some (some (.ref f0)))
    (l0 : K.lookup f0 = some ⟨oc0, od0, .func (PySem.W.fnOf "is_number" "is_number" (defArgs st_is_number) (defBody st_is_number) (defScope st_is_number) .none kV0 dc0 pm0 an0 cd0 ct0), sl0⟩)
    (c0 : PySem.W.codeIn K cd0 "is_number" = true)
    (k0 : PySem.W.keepIn K (.ref f0) = true)
    (a1 : PySem.W.nsIn K mainGlobals "is_name" = some (some (.ref f1)))
    (l1 : K.lookup f1 = some ⟨oc1, od1, .func (PySem.W.fnOf "is_name" "is_name" (defArgs st_is_name) (defBody st_is_name) (defScope st_is_name) .none kV1 dc1 pm1 an1 cd1 ct1), sl1⟩)
    (c1 : PySem.W.codeIn K cd1 "is_name" = true)
    (k1 : PySem.W.keepIn K (.ref f1) = true)
    (a2 : PySem.W.nsIn K mainGlobals "is_point" = some (some (.ref f2)))
    (l2 : K.lookup f2 = some ⟨oc2, od2, .func (PySem.W.fnOf "is_point" "is_point" (defArgs st_is_point) (defBody st_is_point) (defScope st_is_point) .none kV2 dc2 pm2 an2 cd2 ct2), sl2⟩)
    (c2 : PySem.W.codeIn K cd2 "is_point" = true)
    (k2 : PySem.W.keepIn K (.ref f2) = true)
    (a3 : PySem.W.nsIn K mainGlobals "is_wind" = some (some (.ref f3)))
    (l3 : K.lookup f3 = some ⟨oc3, od3, .func (PySem.W.fnOf "is_wind" "is_wind" (defArgs st_is_wind) (defBody st_is_wind) (defScope st_is_wind) .none kV3 dc3 pm3 an3 cd3 ct3), sl3⟩)
    (c3 : PySem.W.codeIn K cd3 "is_wind" = true)
    (k3 : PySem.W.keepIn K (.ref f3) = true)
    (a4 : PySem.W.nsIn K mainGlobals "is_listed" = some (some (.ref f4)))
    (l4 : K.lookup f4 = some ⟨oc4, od4, .func (PySem.W.fnOf "is_listed" "is_listed" (defArgs st_is_listed) (defBody st_is_listed) (defScope st_is_listed) .none kV4 dc4 pm4 an4 cd4 ct4), sl4⟩)
    (c4 : PySem.W.codeIn K cd4 "is_listed" = true)
    (k4 : PySem.W.keepIn K (.ref f4) = true)
    (a5 : PySem.W.nsIn K mainGlobals "cross" = some (some (.ref f5)))
    (l5 : K.lookup f5 = some ⟨oc5, od5, .func (PySem.W.fnOf "cross" "cross" (defArgs st_cross) (defBody st_cross) (defScope st_cross) .none kV5 dc5 pm5 an5 cd5 ct5), sl5⟩)
    (c5 : PySem.W.codeIn K cd5 "cross" = true)
    (k5 : PySem.W.keepIn K (.ref f5) = true)
    (a6 : PySem.W.nsIn K mainGlobals "towards" = some (some (.ref f6)))
    (l6 : K.lookup f6 = some ⟨oc6, od6, .func (PySem.W.fnOf "towards" "towards" (defArgs st_towards) (defBody st_towards) (defScope st_towards) .none kV6 dc6 pm6 an6 cd6 ct6), sl6⟩)
    (c6 : PySem.W.codeIn K cd6 "towards" = true)
    (k6 : PySem.W.keepIn K (.ref f6) = true)
    (a7 : PySem.W.nsIn K mainGlobals "turning" = some (some (.ref f7)))
    (l7 : K.lookup f7 = some ⟨oc7, od7, .func (PySem.W.fnOf "turning" "turning" (defArgs st_turning) (defBody st_turning) (defScope st_turning) .none kV7 dc7 pm7 an7 cd7 ct7), sl7⟩)
    (c7 : PySem.W.codeIn K cd7 "turning" = true)
    (k7 : PySem.W.keepIn K (.ref f7) = true)
    (a8 : PySem.W.nsIn K mainGlobals "side_of" = some (some (.ref f8)))
    (l8 : K.lookup f8 = some ⟨oc8, od8, .func (PySem.W.fnOf "side_of" "side_of" (defArgs st_side_of) (defBody st_side_of) (defScope st_side_of) .none kV8 dc8 pm8 an8 cd8 ct8), sl8⟩)
    (c8 : PySem.W.codeIn K cd8 "side_of" = true)
    (k8 : PySem.W.keepIn K (.ref f8) = true)
    (a9 : PySem.W.nsIn K mainGlobals "is_side" = some (some (.ref f9)))
    (l9 : K.lookup f9 = some ⟨oc9, od9, .func (PySem.W.fnOf "is_side" "is_side" (defArgs st_is_side) (defBody st_is_side) (defScope st_is_side) .none kV9 dc9 pm9 an9 cd9 ct9), sl9⟩)
    (c9 : PySem.W.codeIn K cd9 "is_side" = true)
    (k9 : PySem.W.keepIn K (.ref f9) = true)
    (a10 : PySem.W.nsIn K mainGlobals "corner_pairs" = some (some (.ref f10)))
    (l10 : K.lookup f10 = some ⟨oc10, od10, .func (PySem.W.fnOf "corner_pairs" "corner_pairs" (defArgs st_corner_pairs) (defBody st_corner_pairs) (defScope st_corner_pairs) .none kV10 dc10 pm10 an10 cd10 ct10), sl10⟩)
    (c10 : PySem.W.codeIn K cd10 "corner_pairs" = true)
    (k10 : PySem.W.keepIn K (.ref f10) = true)
    (a11 : PySem.W.nsIn K mainGlobals "check_corners" = some (some (.ref f11)))
    (l11 : K.lookup f11 = some ⟨oc11, od11, .func (PySem.W.fnOf "check_corners" "check_corners" (defArgs st_check_corners) (defBody st_check_corners) (defScope st_check_corners) .none kV11 dc11 pm11 an11 cd11 ct11), sl11⟩)
    (c11 : PySem.W.codeIn K cd11 "check_corners" = true)
    (k11 : PySem.W.keepIn K (.ref f11) = true)
    (a12 : PySem.W.nsIn K mainGlobals "check_winds" = some (some (.ref f12)))
    (l12 : K.lookup f12 = some ⟨oc12, od12, .func (PySem.W.fnOf "check_winds" "check_winds" (defArgs st_check_winds) (defBody st_check_winds) (defScope st_check_winds) .none kV12 dc12 pm12 an12 cd12 ct12), sl12⟩)
    (c12 : PySem.W.codeIn K cd12 "check_winds" = true)
    (k12 : PySem.W.keepIn K (.ref f12) = true)
    (a13 : PySem.W.findIn K (.ref C0) "__init__" = some (some (.ref f13)))
    (i13 : PySem.W.isFn K (.ref f13) = true)
    (l13 : K.lookup f13 = some ⟨oc13, od13, .func (PySem.W.fnOf "__init__" "Tile.__init__" (defArgs st_Tile___init__) (defBody st_Tile___init__) (defScope st_Tile___init__) .none kV13 dc13 pm13 an13 cd13 ct13), sl13⟩)
    (c13 : PySem.W.codeIn K cd13 "Tile.__init__" = true)
    (k13 : PySem.W.keepIn K (.ref f13) = true)
    (a14 : PySem.W.findIn K (.ref C0) "label" = some (some (.ref p14)))
    (g14 : PySem.W.specialIn K (.ref p14) "__get__" = some (some (.builtin "property.__get__")))
    (t14 : PySem.W.takesIn K (.ref p14) = some true)
    (r14 : PySem.W.recIn K p14 "property" = some (.ref f14 :: rest14))
    (l14 : K.lookup f14 = some ⟨oc14, od14, .func (PySem.W.fnOf "label" "Tile.label" (defArgs st_Tile_label) (defBody st_Tile_label) (defScope st_Tile_label) .none kV14 dc14 pm14 an14 cd14 ct14), sl14⟩)
    (c14 : PySem.W.codeIn K cd14 "Tile.label" = true)
    (k14 : PySem.W.keepIn K (.ref f14) = true)
    (a15 : PySem.W.findIn K (.ref C0) "corners" = some (some (.ref p15)))
    (g15 : PySem.W.specialIn K (.ref p15) "__get__" = some (some (.builtin "property.__get__")))
    (t15 : PySem.W.takesIn K (.ref p15) = some true)
    (r15 : PySem.W.recIn K p15 "property" = some (.ref f15 :: rest15))
    (l15 : K.lookup f15 = some ⟨oc15, od15, .func (PySem.W.fnOf "corners" "Tile.corners" (defArgs st_Tile_corners) (defBody st_Tile_corners) (defScope st_Tile_corners) .none kV15 dc15 pm15 an15 cd15 ct15), sl15⟩)
    (c15 : PySem.W.codeIn K cd15 "Tile.corners" = true)
    (k15 : PySem.W.keepIn K (.ref f15) = true)
    (a16 : PySem.W.findIn K (.ref C0) "winds" = some (some (.ref p16)))
    (g16 : PySem.W.specialIn K (.ref p16) "__get__" = some (some (.builtin "property.__get__")))
    (t16 : PySem.W.takesIn K (.ref p16) = some true)
    (r16 : PySem.W.recIn K p16 "property" = some (.ref f16 :: rest16))
    (l16 : K.lookup f16 = some ⟨oc16, od16, .func (PySem.W.fnOf "winds" "Tile.winds" (defArgs st_Tile_winds) (defBody st_Tile_winds) (defScope st_Tile_winds) .none kV16 dc16 pm16 an16 cd16 ct16), sl16⟩)
    (c16 : PySem.W.codeIn K cd16 "Tile.winds" = true)
    (k16 : PySem.W.keepIn K (.ref f16) = true)
    (a17 : PySem.W.findIn K (.ref C0) "sides" = some (some (.ref f17)))
    (i17 : PySem.W.isFn K (.ref f17) = true)
    (l17 : K.lookup f17 = some ⟨oc17, od17, .func (PySem.W.fnOf "sides" "Tile.sides" (defArgs st_Tile_sides) (defBody st_Tile_sides) (defScope st_Tile_sides) .none kV17 dc17 pm17 an17 cd17 ct17), sl17⟩)
    (c17 : PySem.W.codeIn K cd17 "Tile.sides" = true)
    (k17 : PySem.W.keepIn K (.ref f17) = true)
    (a18 : PySem.W.findIn K (.ref C0) "has_side" = some (some (.ref f18)))
    (i18 : PySem.W.isFn K (.ref f18) = true)
    (l18 : K.lookup f18 = some ⟨oc18, od18, .func (PySem.W.fnOf "has_side" "Tile.has_side" (defArgs st_Tile_has_side) (defBody st_Tile_has_side) (defScope st_Tile_has_side) .none kV18 dc18 pm18 an18 cd18 ct18), sl18⟩)
    (c18 : PySem.W.codeIn K cd18 "Tile.has_side" = true)
    (k18 : PySem.W.keepIn K (.ref f18) = true)
    (a19 : PySem.W.findIn K (.ref C0) "lets_in" = some (some (.ref f19)))
    (i19 : PySem.W.isFn K (.ref f19) = true)
    (l19 : K.lookup f19 = some ⟨oc19, od19, .func (PySem.W.fnOf "lets_in" "Tile.lets_in" (defArgs st_Tile_lets_in) (defBody st_Tile_lets_in) (defScope st_Tile_lets_in) .none kV19 dc19 pm19 an19 cd19 ct19), sl19⟩)
    (c19 : PySem.W.codeIn K cd19 "Tile.lets_in" = true)
    (k19 : PySem.W.keepIn K (.ref f19) = true)
    (a20 : PySem.W.findIn K (.ref C0) "__len__" = some (some (.ref f20)))
    (i20 : PySem.W.isFn K (.ref f20) = true)
    (l20 : K.lookup f20 = some ⟨oc20, od20, .func (PySem.W.fnOf "__len__" "Tile.__len__" (defArgs st_Tile___len__) (defBody st_Tile___len__) (defScope st_Tile___len__) .none kV20 dc20 pm20 an20 cd20 ct20), sl20⟩)
    (c20 : PySem.W.codeIn K cd20 "Tile.__len__" = true)
    (k20 : PySem.W.keepIn K (.ref f20) = true)
    (a21 : PySem.W.findIn K (.ref C0) "__repr__" = some (some (.ref f21)))
    (i21 : PySem.W.isFn K (.ref f21) = true)
    (l21 : K.lookup f21 = some ⟨oc21, od21, .func (PySem.W.fnOf "__repr__" "Tile.__repr__" (defArgs st_Tile___repr__) (defBody st_Tile___repr__) (defScope st_Tile___repr__) .none kV21 dc21 pm21 an21 cd21 ct21), sl21⟩)
    (c21 : PySem.W.codeIn K cd21 "Tile.__repr__" = true)
    (k21 : PySem.W.keepIn K (.ref f21) = true)
    (a22 : PySem.W.nsIn K mainGlobals "_law_is_name" = some (some (.ref f22)))
    (l22 : K.lookup f22 = some ⟨oc22, od22, .func (PySem.W.fnOf "_law_is_name" "_law_is_name" (defArgs st__law_is_name) (defBody st__law_is_name) (defScope st__law_is_name) .none kV22 dc22 pm22 an22 cd22 ct22), sl22⟩)
    (c22 : PySem.W.codeIn K cd22 "_law_is_name" = true)
    (k22 : PySem.W.keepIn K (.ref f22) = true)
    (a23 : PySem.W.nsIn K mainGlobals "_law_is_dot" = some (some (.ref f23)))
    (l23 : K.lookup f23 = some ⟨oc23, od23, .func (PySem.W.fnOf "_law_is_dot" "_law_is_dot" (defArgs st__law_is_dot) (defBody st__law_is_dot) (defScope st__law_is_dot) .none kV23 dc23 pm23 an23 cd23 ct23), sl23⟩)
    (c23 : PySem.W.codeIn K cd23 "_law_is_dot" = true)
    (k23 : PySem.W.keepIn K (.ref f23) = true)
    (a24 : PySem.W.nsIn K mainGlobals "_law_border" = some (some (.ref f24)))
    (l24 : K.lookup f24 = some ⟨oc24, od24, .func (PySem.W.fnOf "_law_border" "_law_border" (defArgs st__law_border) (defBody st__law_border) (defScope st__law_border) .none kV24 dc24 pm24 an24 cd24 ct24), sl24⟩)
    (c24 : PySem.W.codeIn K cd24 "_law_border" = true)
    (k24 : PySem.W.keepIn K (.ref f24) = true)
    (a25 : PySem.W.nsIn K mainGlobals "_law_cross" = some (some (.ref f25)))
    (l25 : K.lookup f25 = some ⟨oc25, od25, .func (PySem.W.fnOf "_law_cross" "_law_cross" (defArgs st__law_cross) (defBody st__law_cross) (defScope st__law_cross) .none kV25 dc25 pm25 an25 cd25 ct25), sl25⟩)
    (c25 : PySem.W.codeIn K cd25 "_law_cross" = true)
    (k25 : PySem.W.keepIn K (.ref f25) = true)
    (a26 : PySem.W.nsIn K mainGlobals "_law_lead" = some (some (.ref f26)))
    (l26 : K.lookup f26 = some ⟨oc26, od26, .func (PySem.W.fnOf "_law_lead" "_law_lead" (defArgs st__law_lead) (defBody st__law_lead) (defScope st__law_lead) .none kV26 dc26 pm26 an26 cd26 ct26), sl26⟩)
    (c26 : PySem.W.codeIn K cd26 "_law_lead" = true)
    (k26 : PySem.W.keepIn K (.ref f26) = true)
    (a27 : PySem.W.nsIn K mainGlobals "_law_turn" = some (some (.ref f27)))
    (l27 : K.lookup f27 = some ⟨oc27, od27, .func (PySem.W.fnOf "_law_turn" "_law_turn" (defArgs st__law_turn) (defBody st__law_turn) (defScope st__law_turn) .none kV27 dc27 pm27 an27 cd27 ct27), sl27⟩)
    (c27 : PySem.W.codeIn K cd27 "_law_turn" = true)
    (k27 : PySem.W.keepIn K (.ref f27) = true)
    (a28 : PySem.W.nsIn K mainGlobals "_law_dots_due" = some (some (.ref f28)))
    (l28 : K.lookup f28 = some ⟨oc28, od28, .func (PySem.W.fnOf "_law_dots_due" "_law_dots_due" (defArgs st__law_dots_due) (defBody st__law_dots_due) (defScope st__law_dots_due) .none kV28 dc28 pm28 an28 cd28 ct28), sl28⟩)
    (c28 : PySem.W.codeIn K cd28 "_law_dots_due" = true)
    (k28 : PySem.W.keepIn K (.ref f28) = true)
    (a29 : PySem.W.nsIn K mainGlobals "_law_is_wind" = some (some (.ref f29)))
    (l29 : K.lookup f29 = some ⟨oc29, od29, .func (PySem.W.fnOf "_law_is_wind" "_law_is_wind" (defArgs st__law_is_wind) (defBody st__law_is_wind) (defScope st__law_is_wind) .none kV29 dc29 pm29 an29 cd29 ct29), sl29⟩)
    (c29 : PySem.W.codeIn K cd29 "_law_is_wind" = true)
    (k29 : PySem.W.keepIn K (.ref f29) = true)
    (a30 : PySem.W.nsIn K mainGlobals "_law_key" = some (some (.ref f30)))
    (l30 : K.lookup f30 = some ⟨oc30, od30, .func (PySem.W.fnOf "_law_key" "_law_key" (defArgs st__law_key) (defBody st__law_key) (defScope st__law_key) .none kV30 dc30 pm30 an30 cd30 ct30), sl30⟩)
    (c30 : PySem.W.codeIn K cd30 "_law_key" = true)
    (k30 : PySem.W.keepIn K (.ref f30) = true)
    (a31 : PySem.W.nsIn K mainGlobals "_law_winds_due" = some (some (.ref f31)))
    (l31 : K.lookup f31 = some ⟨oc31, od31, .func (PySem.W.fnOf "_law_winds_due" "_law_winds_due" (defArgs st__law_winds_due) (defBody st__law_winds_due) (defScope st__law_winds_due) .none kV31 dc31 pm31 an31 cd31 ct31), sl31⟩)
    (c31 : PySem.W.codeIn K cd31 "_law_winds_due" = true)
    (k31 : PySem.W.keepIn K (.ref f31) = true)
    (a32 : PySem.W.nsIn K mainGlobals "_law_tile_due" = some (some (.ref f32)))
    (l32 : K.lookup f32 = some ⟨oc32, od32, .func (PySem.W.fnOf "_law_tile_due" "_law_tile_due" (defArgs st__law_tile_due) (defBody st__law_tile_due) (defScope st__law_tile_due) .none kV32 dc32 pm32 an32 cd32 ct32), sl32⟩)
    (c32 : PySem.W.codeIn K cd32 "_law_tile_due" = true)
    (k32 : PySem.W.keepIn K (.ref f32) = true)
    (a33 : PySem.W.nsIn K mainGlobals "_law_start" = some (some (.ref f33)))
    (l33 : K.lookup f33 = some ⟨oc33, od33, .func (PySem.W.fnOf "_law_start" "_law_start" (defArgs st__law_start) (defBody st__law_start) (defScope st__law_start) .none kV33 dc33 pm33 an33 cd33 ct33), sl33⟩)
    (c33 : PySem.W.codeIn K cd33 "_law_start" = true)
    (k33 : PySem.W.keepIn K (.ref f33) = true)
    (a34 : PySem.W.nsIn K mainGlobals "_law_pull" = some (some (.ref f34)))
    (l34 : K.lookup f34 = some ⟨oc34, od34, .func (PySem.W.fnOf "_law_pull" "_law_pull" (defArgs st__law_pull) (defBody st__law_pull) (defScope st__law_pull) .none kV34 dc34 pm34 an34 cd34 ct34), sl34⟩)
    (c34 : PySem.W.codeIn K cd34 "_law_pull" = true)
    (k34 : PySem.W.keepIn K (.ref f34) = true)
    (a35 : PySem.W.nsIn K mainGlobals "_law_pick" = some (some (.ref f35)))
    (l35 : K.lookup f35 = some ⟨oc35, od35, .func (PySem.W.fnOf "_law_pick" "_law_pick" (defArgs st__law_pick) (defBody st__law_pick) (defScope st__law_pick) .none kV35 dc35 pm35 an35 cd35 ct35), sl35⟩)
    (c35 : PySem.W.codeIn K cd35 "_law_pick" = true)
    (k35 : PySem.W.keepIn K (.ref f35) = true)
    (a36 : PySem.W.nsIn K mainGlobals "_law_winds" = some (some (.ref f36)))
    (l36 : K.lookup f36 = some ⟨oc36, od36, .func (PySem.W.fnOf "_law_winds" "_law_winds" (defArgs st__law_winds) (defBody st__law_winds) (defScope st__law_winds) .none kV36 dc36 pm36 an36 cd36 ct36), sl36⟩)
    (c36 : PySem.W.codeIn K cd36 "_law_winds" = true)
    (k36 : PySem.W.keepIn K (.ref f36) = true)
    (a37 : PySem.W.nsIn K mainGlobals "_law_keys" = some (some (.ref f37)))
    (l37 : K.lookup f37 = some ⟨oc37, od37, .func (PySem.W.fnOf "_law_keys" "_law_keys" (defArgs st__law_keys) (defBody st__law_keys) (defScope st__law_keys) .none kV37 dc37 pm37 an37 cd37 ct37), sl37⟩)
    (c37 : PySem.W.codeIn K cd37 "_law_keys" = true)
    (k37 : PySem.W.keepIn K (.ref f37) = true)
    (a38 : PySem.W.nsIn K mainGlobals "_law_sort" = some (some (.ref f38)))
    (l38 : K.lookup f38 = some ⟨oc38, od38, .func (PySem.W.fnOf "_law_sort" "_law_sort" (defArgs st__law_sort) (defBody st__law_sort) (defScope st__law_sort) .none kV38 dc38 pm38 an38 cd38 ct38), sl38⟩)
    (c38 : PySem.W.codeIn K cd38 "_law_sort" = true)
    (k38 : PySem.W.keepIn K (.ref f38) = true)
    (a39 : PySem.W.nsIn K mainGlobals "_law_same" = some (some (.ref f39)))
    (l39 : K.lookup f39 = some ⟨oc39, od39, .func (PySem.W.fnOf "_law_same" "_law_same" (defArgs st__law_same) (defBody st__law_same) (defScope st__law_same) .none kV39 dc39 pm39 an39 cd39 ct39), sl39⟩)
    (c39 : PySem.W.codeIn K cd39 "_law_same" = true)
    (k39 : PySem.W.keepIn K (.ref f39) = true)
    (a40 : PySem.W.nsIn K mainGlobals "_law_lets" = some (some (.ref f40)))
    (l40 : K.lookup f40 = some ⟨oc40, od40, .func (PySem.W.fnOf "_law_lets" "_law_lets" (defArgs st__law_lets) (defBody st__law_lets) (defScope st__law_lets) .none kV40 dc40 pm40 an40 cd40 ct40), sl40⟩)
    (c40 : PySem.W.codeIn K cd40 "_law_lets" = true)
    (k40 : PySem.W.keepIn K (.ref f40) = true)
    (a41 : PySem.W.nsIn K mainGlobals "_law_tile_so" = some (some (.ref f41)))
    (l41 : K.lookup f41 = some ⟨oc41, od41, .func (PySem.W.fnOf "_law_tile_so" "_law_tile_so" (defArgs st__law_tile_so) (defBody st__law_tile_so) (defScope st__law_tile_so) .none kV41 dc41 pm41 an41 cd41 ct41), sl41⟩)
    (c41 : PySem.W.codeIn K cd41 "_law_tile_so" = true)
    (k41 : PySem.W.keepIn K (.ref f41) = true)
    (a42 : PySem.W.nsIn K mainGlobals "_law_fields" = some (some (.ref f42)))
    (l42 : K.lookup f42 = some ⟨oc42, od42, .func (PySem.W.fnOf "_law_fields" "_law_fields" (defArgs st__law_fields) (defBody st__law_fields) (defScope st__law_fields) .none kV42 dc42 pm42 an42 cd42 ct42), sl42⟩)
    (c42 : PySem.W.codeIn K cd42 "_law_fields" = true)
    (k42 : PySem.W.keepIn K (.ref f42) = true)
    (a43 : PySem.W.nsIn K mainGlobals "_law_shapes" = some (some (.ref f43)))
    (l43 : K.lookup f43 = some ⟨oc43, od43, .func (PySem.W.fnOf "_law_shapes" "_law_shapes" (defArgs st__law_shapes) (defBody st__law_shapes) (defScope st__law_shapes) .none kV43 dc43 pm43 an43 cd43 ct43), sl43⟩)
    (c43 : PySem.W.codeIn K cd43 "_law_shapes" = true)
    (k43 : PySem.W.keepIn K (.ref f43) = true)
    (a44 : PySem.W.nsIn K mainGlobals "_law_new_names" = some (some (.ref f44)))
    (l44 : K.lookup f44 = some ⟨oc44, od44, .func (PySem.W.fnOf "_law_new_names" "_law_new_names" (defArgs st__law_new_names) (defBody st__law_new_names) (defScope st__law_new_names) .none kV44 dc44 pm44 an44 cd44 ct44), sl44⟩)
    (c44 : PySem.W.codeIn K cd44 "_law_new_names" = true)
    (k44 : PySem.W.keepIn K (.ref f44) = true)
    (a45 : PySem.W.nsIn K mainGlobals "_law_moved" = some (some (.ref f45)))
    (l45 : K.lookup f45 = some ⟨oc45, od45, .func (PySem.W.fnOf "_law_moved" "_law_moved" (defArgs st__law_moved) (defBody st__law_moved) (defScope st__law_moved) .none kV45 dc45 pm45 an45 cd45 ct45), sl45⟩)
    (c45 : PySem.W.codeIn K cd45 "_law_moved" = true)
    (k45 : PySem.W.keepIn K (.ref f45) = true)
    (a46 : PySem.W.nsIn K mainGlobals "_law_shuffled" = some (some (.ref f46)))
    (l46 : K.lookup f46 = some ⟨oc46, od46, .func (PySem.W.fnOf "_law_shuffled" "_law_shuffled" (defArgs st__law_shuffled) (defBody st__law_shuffled) (defScope st__law_shuffled) .none kV46 dc46 pm46 an46 cd46 ct46), sl46⟩)
    (c46 : PySem.W.codeIn K cd46 "_law_shuffled" = true)
    (k46 : PySem.W.keepIn K (.ref f46) = true)
    (a47 : PySem.W.nsIn K mainGlobals "_law_finished" = some (some (.ref f47)))
    (l47 : K.lookup f47 = some ⟨oc47, od47, .func (PySem.W.fnOf "_law_finished" "_law_finished" (defArgs st__law_finished) (defBody st__law_finished) (defScope st__law_finished) .none kV47 dc47 pm47 an47 cd47 ct47), sl47⟩)
    (c47 : PySem.W.codeIn K cd47 "_law_finished" = true)
    (k47 : PySem.W.keepIn K (.ref f47) = true)
    (a48 : PySem.W.nsIn K mainGlobals "_law_quarter" = some (some (.ref f48)))
    (l48 : K.lookup f48 = some ⟨oc48, od48, .func (PySem.W.fnOf "_law_quarter" "_law_quarter" (defArgs st__law_quarter) (defBody st__law_quarter) (defScope st__law_quarter) .none kV48 dc48 pm48 an48 cd48 ct48), sl48⟩)
    (c48 : PySem.W.codeIn K cd48 "_law_quarter" = true)
    (k48 : PySem.W.keepIn K (.ref f48) = true)
    (a49 : PySem.W.nsIn K mainGlobals "_law_bordered" = some (some (.ref f49)))
    (l49 : K.lookup f49 = some ⟨oc49, od49, .func (PySem.W.fnOf "_law_bordered" "_law_bordered" (defArgs st__law_bordered) (defBody st__law_bordered) (defScope st__law_bordered) .none kV49 dc49 pm49 an49 cd49 ct49), sl49⟩)
    (c49 : PySem.W.codeIn K cd49 "_law_bordered" = true)
    (k49 : PySem.W.keepIn K (.ref f49) = true)
    (a50 : PySem.W.nsIn K mainGlobals "_law_grid" = some (some (.ref f50)))
    (l50 : K.lookup f50 = some ⟨oc50, od50, .func (PySem.W.fnOf "_law_grid" "_law_grid" (defArgs st__law_grid) (defBody st__law_grid) (defScope st__law_grid) .none kV50 dc50 pm50 an50 cd50 ct50), sl50⟩)
    (c50 : PySem.W.codeIn K cd50 "_law_grid" = true)
    (k50 : PySem.W.keepIn K (.ref f50) = true)
    (a51 : PySem.W.nsIn K mainGlobals "_law_drawn" = some (some (.ref f51)))
    (l51 : K.lookup f51 = some ⟨oc51, od51, .func (PySem.W.fnOf "_law_drawn" "_law_drawn" (defArgs st__law_drawn) (defBody st__law_drawn) (defScope st__law_drawn) .none kV51 dc51 pm51 an51 cd51 ct51), sl51⟩)
    (c51 : PySem.W.codeIn K cd51 "_law_drawn" = true)
    (k51 : PySem.W.keepIn K (.ref f51) = true)
    (a52 : PySem.W.nsIn K mainGlobals "_law_bent_dots" = some (some (.ref f52)))
    (l52 : K.lookup f52 = some ⟨oc52, od52, .func (PySem.W.fnOf "_law_bent_dots" "_law_bent_dots" (defArgs st__law_bent_dots) (defBody st__law_bent_dots) (defScope st__law_bent_dots) .none kV52 dc52 pm52 an52 cd52 ct52), sl52⟩)
    (c52 : PySem.W.codeIn K cd52 "_law_bent_dots" = true)
    (k52 : PySem.W.keepIn K (.ref f52) = true)
    (a53 : PySem.W.nsIn K mainGlobals "_law_bent_winds" = some (some (.ref f53)))
    (l53 : K.lookup f53 = some ⟨oc53, od53, .func (PySem.W.fnOf "_law_bent_winds" "_law_bent_winds" (defArgs st__law_bent_winds) (defBody st__law_bent_winds) (defScope st__law_bent_winds) .none kV53 dc53 pm53 an53 cd53 ct53), sl53⟩)
    (c53 : PySem.W.codeIn K cd53 "_law_bent_winds" = true)
    (k53 : PySem.W.keepIn K (.ref f53) = true)
    (a54 : PySem.W.nsIn K mainGlobals "law" = some (some (.ref f54)))
    (l54 : K.lookup f54 = some ⟨oc54, od54, .func (PySem.W.fnOf "law" "law" (defArgs st_law) (defBody st_law) (defScope st_law) .none kV54 dc54 pm54 an54 (.ref cL54) ct54), sl54⟩)
    (c54 : PySem.W.codeIn K (.ref cL54) "law" = true)
    (k54 : PySem.W.keepIn K (.ref f54) = true)
    (mk0 : PySem.W.makesIn K C0 = true)
    (kc0 : PySem.W.keepIn K (.ref C0) = true)
    (b_abs : PySem.W.nsIn K mainGlobals "abs" = some none)
    (b_all : PySem.W.nsIn K mainGlobals "all" = some none)
    (b_bool : PySem.W.nsIn K mainGlobals "bool" = some none)
    (b_enumerate : PySem.W.nsIn K mainGlobals "enumerate" = some none)
    (b_int : PySem.W.nsIn K mainGlobals "int" = some none)
    (b_isinstance : PySem.W.nsIn K mainGlobals "isinstance" = some none)
    (b_len : PySem.W.nsIn K mainGlobals "len" = some none)
    (b_list : PySem.W.nsIn K mainGlobals "list" = some none)
    (b_max : PySem.W.nsIn K mainGlobals "max" = some none)
    (b_min : PySem.W.nsIn K mainGlobals "min" = some none)
    (b_range : PySem.W.nsIn K mainGlobals "range" = some none)
    (b_repr : PySem.W.nsIn K mainGlobals "repr" = some none)
    (b_str : PySem.W.nsIn K mainGlobals "str" = some none)
    (b_tuple : PySem.W.nsIn K mainGlobals "tuple" = some none)
    (b_zip : PySem.W.nsIn K mainGlobals "zip" = some none)
    (c_FARTHEST : PySem.W.nsIn K mainGlobals "FARTHEST" = some (some (.int 1000000 t_FARTHEST)))
    (c_FEWEST : PySem.W.nsIn K mainGlobals "FEWEST" = some (some (.int 3 t_FEWEST)))
    (c_LETTERS : PySem.W.nsIn K mainGlobals "LETTERS" = some (some (.str "abcdefghijklmnopqrstuvwxyz" t_LETTERS)))
    (c_LONGEST_NAME : PySem.W.nsIn K mainGlobals "LONGEST_NAME" = some (some (.int 8 t_LONGEST_NAME)))
    (c_MOST_CORNERS : PySem.W.nsIn K mainGlobals "MOST_CORNERS" = some (some (.int 8 t_MOST_CORNERS)))
    (lcL54 : K.lookup cL54 = some ⟨eL54, deL54, .fields vsL54, sL54⟩)
    (pL54 : vsL54[11]? = some (.ref PL54))
    (nPL54 : K.lookup PL54 = none)
    (hdL54 : PySem.W.codeHdIn K cL54 PL54 = true)
    (rc54 : ((recsOf q).any fun e => e.name == "law") = true)
    (aT : PySem.W.nsIn K mainGlobals "_law_try" = some (some (.ref fT)))
    (kT : PySem.W.keepIn K (.ref fT) = true)
    (lT : K.lookup fT = some ⟨ocT, odT, .func (PySem.W.fnOf "_law_try" "_law_try" (defArgs st__law_try) (defBody st__law_try) (defScope st__law_try) .none kVT dcT pmT anT cdT ctT), slT⟩)
    (cT : PySem.W.codeIn K cdT "_law_try" = true)
    (ga : PySem.W.nsIn K mainGlobals "GustError" = some (some (.ref G1)))
    (gb : PySem.W.nsIn K mainGlobals "Missing" = some (some (.ref G2)))
    (gc : PySem.W.nsIn K mainGlobals "NothingLeft" = some (some (.ref G3)))
    (suX : PySem.W.nsIn K mainGlobals "super" = some none)
    (opX : PySem.W.nsIn K cStatics "thirdparty.any" = some none)
    (tpX : (l.prog.main.scope.names.lookup ("super" : Str)).isSome = false)
    (aX0 : PySem.W.nsIn K mainGlobals "InvalidName" = some (some (.ref CX0)))
    (lX0 : K.lookup CX0 = some (excClassObj nmX0 qX0 CX0 NX0 bsX0 bmX0 true snX0 subX0 abX0 colX0 ddX0 k0X0 k1X0 k2X0 k3X0 k5X0 "ValueError.__new__"))
    (rvX0 : PySem.W.excTail [.type "ValueError", .type "Exception", .type "BaseException", .type "object"] bmX0 = true)
    (obX0 : oxB K "ValueError" CX0 = true)
    (iX0 : PySem.W.findIn K (.ref CX0) "__init__" = some (some (.ref fX0)))
    (tiX0 : PySem.W.typeIn K (.ref fX0) = some (.type "function"))
    (lfX0 : K.lookup fX0 = some ⟨ocX0, odX0, .func (PySem.W.ksFn "__init__" "InvalidName.__init__" (defArgs st_InvalidName___init__) (defBody st_InvalidName___init__) (defScope st_InvalidName___init__) .none kVX0 dcX0 pmX0 anX0 (.ref cdX0) ctX0 ccX0), slX0⟩)
    (lcX0 : K.lookup cdX0 = some ⟨eX0, deX0, .fields vsX0, sX0⟩)
    (h2X0 : vsX0[2]? = some (.str fileX0 tfX0))
    (hfX0 : ((l.prog.main.file : Str) == fileX0) = true)
    (lccX0 : K.lookup ccX0 = some ⟨clX0, cldX0, .cell (some (.ref CX0)), cslX0⟩)
    (cc'X0 : PySem.W.codeIn K (.ref cdX0) "InvalidName.__init__" = true)
    (xfX0 : xfB K CX0 = true)
    (noX0 : noB K CX0 NOSX = true)
    (emX0 : PySem.W.exmAny K (.ref CX0) [.ref G1, .ref G2, .ref G3] = some true)
    (aX1 : PySem.W.nsIn K mainGlobals "InvalidCorners" = some (some (.ref CX1)))
    (lX1 : K.lookup CX1 = some (excClassObj nmX1 qX1 CX1 NX1 bsX1 bmX1 true snX1 subX1 abX1 colX1 ddX1 k0X1 k1X1 k2X1 k3X1 k5X1 "ValueError.__new__"))
    (rvX1 : PySem.W.excTail [.type "ValueError", .type "Exception", .type "BaseException", .type "object"] bmX1 = true)
    (obX1 : oxB K "ValueError" CX1 = true)
    (iX1 : PySem.W.findIn K (.ref CX1) "__init__" = some (some (.ref fX1)))
    (tiX1 : PySem.W.typeIn K (.ref fX1) = some (.type "function"))
    (lfX1 : K.lookup fX1 = some ⟨ocX1, odX1, .func (PySem.W.ksFn "__init__" "InvalidCorners.__init__" (defArgs st_InvalidCorners___init__) (defBody st_InvalidCorners___init__) (defScope st_InvalidCorners___init__) .none kVX1 dcX1 pmX1 anX1 (.ref cdX1) ctX1 ccX1), slX1⟩)
    (lcX1 : K.lookup cdX1 = some ⟨eX1, deX1, .fields vsX1, sX1⟩)
    (h2X1 : vsX1[2]? = some (.str fileX1 tfX1))
    (hfX1 : ((l.prog.main.file : Str) == fileX1) = true)
    (lccX1 : K.lookup ccX1 = some ⟨clX1, cldX1, .cell (some (.ref CX1)), cslX1⟩)
    (cc'X1 : PySem.W.codeIn K (.ref cdX1) "InvalidCorners.__init__" = true)
    (xfX1 : xfB K CX1 = true)
    (noX1 : noB K CX1 NOSX = true)
    (emX1 : PySem.W.exmAny K (.ref CX1) [.ref G1, .ref G2, .ref G3] = some true)
    (aX2 : PySem.W.nsIn K mainGlobals "NotConvex" = some (some (.ref CX2)))
    (lX2 : K.lookup CX2 = some (excClassObj nmX2 qX2 CX2 NX2 bsX2 bmX2 true snX2 subX2 abX2 colX2 ddX2 k0X2 k1X2 k2X2 k3X2 k5X2 "ValueError.__new__"))
    (rvX2 : PySem.W.excTail [.type "ValueError", .type "Exception", .type "BaseException", .type "object"] bmX2 = true)
    (obX2 : oxB K "ValueError" CX2 = true)
    (iX2 : PySem.W.findIn K (.ref CX2) "__init__" = some (some (.ref fX2)))
    (tiX2 : PySem.W.typeIn K (.ref fX2) = some (.type "function"))
    (lfX2 : K.lookup fX2 = some ⟨ocX2, odX2, .func (PySem.W.ksFn "__init__" "NotConvex.__init__" (defArgs st_NotConvex___init__) (defBody st_NotConvex___init__) (defScope st_NotConvex___init__) .none kVX2 dcX2 pmX2 anX2 (.ref cdX2) ctX2 ccX2), slX2⟩)
    (lcX2 : K.lookup cdX2 = some ⟨eX2, deX2, .fields vsX2, sX2⟩)
    (h2X2 : vsX2[2]? = some (.str fileX2 tfX2))
    (hfX2 : ((l.prog.main.file : Str) == fileX2) = true)
    (lccX2 : K.lookup ccX2 = some ⟨clX2, cldX2, .cell (some (.ref CX2)), cslX2⟩)
    (cc'X2 : PySem.W.codeIn K (.ref cdX2) "NotConvex.__init__" = true)
    (xfX2 : xfB K CX2 = true)
    (noX2 : noB K CX2 NOSX = true)
    (emX2 : PySem.W.exmAny K (.ref CX2) [.ref G1, .ref G2, .ref G3] = some true)
    (aX3 : PySem.W.nsIn K mainGlobals "InvalidWinds" = some (some (.ref CX3)))
    (lX3 : K.lookup CX3 = some (excClassObj nmX3 qX3 CX3 NX3 bsX3 bmX3 true snX3 subX3 abX3 colX3 ddX3 k0X3 k1X3 k2X3 k3X3 k5X3 "ValueError.__new__"))
    (rvX3 : PySem.W.excTail [.type "ValueError", .type "Exception", .type "BaseException", .type "object"] bmX3 = true)
    (obX3 : oxB K "ValueError" CX3 = true)
    (iX3 : PySem.W.findIn K (.ref CX3) "__init__" = some (some (.ref fX3)))
    (tiX3 : PySem.W.typeIn K (.ref fX3) = some (.type "function"))
    (lfX3 : K.lookup fX3 = some ⟨ocX3, odX3, .func (PySem.W.ksFn "__init__" "InvalidWinds.__init__" (defArgs st_InvalidWinds___init__) (defBody st_InvalidWinds___init__) (defScope st_InvalidWinds___init__) .none kVX3 dcX3 pmX3 anX3 (.ref cdX3) ctX3 ccX3), slX3⟩)
    (lcX3 : K.lookup cdX3 = some ⟨eX3, deX3, .fields vsX3, sX3⟩)
    (h2X3 : vsX3[2]? = some (.str fileX3 tfX3))
    (hfX3 : ((l.prog.main.file : Str) == fileX3) = true)
    (lccX3 : K.lookup ccX3 = some ⟨clX3, cldX3, .cell (some (.ref CX3)), cslX3⟩)
    (cc'X3 : PySem.W.codeIn K (.ref cdX3) "InvalidWinds.__init__" = true)
    (xfX3 : xfB K CX3 = true)
    (noX3 : noB K CX3 NOSX = true)
    (emX3 : PySem.W.exmAny K (.ref CX3) [.ref G1, .ref G2, .ref G3] = some true)
    (aX4 : PySem.W.nsIn K mainGlobals "SplitSide" = some (some (.ref CX4)))
    (lX4 : K.lookup CX4 = some (excClassObj nmX4 qX4 CX4 NX4 bsX4 bmX4 true snX4 subX4 abX4 colX4 ddX4 k0X4 k1X4 k2X4 k3X4 k5X4 "ValueError.__new__"))
    (rvX4 : PySem.W.excTail [.type "ValueError", .type "Exception", .type "BaseException", .type "object"] bmX4 = true)
    (obX4 : oxB K "ValueError" CX4 = true)
    (iX4 : PySem.W.findIn K (.ref CX4) "__init__" = some (some (.ref fX4)))
    (tiX4 : PySem.W.typeIn K (.ref fX4) = some (.type "function"))
    (lfX4 : K.lookup fX4 = some ⟨ocX4, odX4, .func (PySem.W.ksFn "__init__" "SplitSide.__init__" (defArgs st_SplitSide___init__) (defBody st_SplitSide___init__) (defScope st_SplitSide___init__) .none kVX4 dcX4 pmX4 anX4 (.ref cdX4) ctX4 ccX4), slX4⟩)
    (lcX4 : K.lookup cdX4 = some ⟨eX4, deX4, .fields vsX4, sX4⟩)
    (h2X4 : vsX4[2]? = some (.str fileX4 tfX4))
    (hfX4 : ((l.prog.main.file : Str) == fileX4) = true)
    (lccX4 : K.lookup ccX4 = some ⟨clX4, cldX4, .cell (some (.ref CX4)), cslX4⟩)
    (cc'X4 : PySem.W.codeIn K (.ref cdX4) "SplitSide.__init__" = true)
    (xfX4 : xfB K CX4 = true)
    (noX4 : noB K CX4 NOSX = true)
    (emX4 : PySem.W.exmAny K (.ref CX4) [.ref G1, .ref G2, .ref G3] = some true)
    (aX5 : PySem.W.nsIn K mainGlobals "UnknownSide" = some (some (.ref CX5)))
    (lX5 : K.lookup CX5 = some (excClassObj nmX5 qX5 CX5 NX5 bsX5 bmX5 true snX5 subX5 abX5 colX5 ddX5 k0X5 k1X5 k2X5 k3X5 k5X5 "LookupError.__new__"))
    (rvX5 : PySem.W.excTail [.type "LookupError", .type "Exception", .type "BaseException", .type "object"] bmX5 = true)
    (obX5 : oxB K "LookupError" CX5 = true)
    (iX5 : PySem.W.findIn K (.ref CX5) "__init__" = some (some (.ref fX5)))
    (tiX5 : PySem.W.typeIn K (.ref fX5) = some (.type "function"))
    (lfX5 : K.lookup fX5 = some ⟨ocX5, odX5, .func (PySem.W.ksFn "__init__" "UnknownSide.__init__" (defArgs st_UnknownSide___init__) (defBody st_UnknownSide___init__) (defScope st_UnknownSide___init__) .none kVX5 dcX5 pmX5 anX5 (.ref cdX5) ctX5 ccX5), slX5⟩)
    (lcX5 : K.lookup cdX5 = some ⟨eX5, deX5, .fields vsX5, sX5⟩)
    (h2X5 : vsX5[2]? = some (.str fileX5 tfX5))
    (hfX5 : ((l.prog.main.file : Str) == fileX5) = true)
    (lccX5 : K.lookup ccX5 = some ⟨clX5, cldX5, .cell (some (.ref CX5)), cslX5⟩)
    (cc'X5 : PySem.W.codeIn K (.ref cdX5) "UnknownSide.__init__" = true)
    (xfX5 : xfB K CX5 = true)
    (noX5 : noB K CX5 NOSX = true)
    (emX5 : PySem.W.exmAny K (.ref CX5) [.ref G1, .ref G2, .ref G3] = some true)
    : ∃ (fd : FuncData) (cs : List (Addr × Addr)), (cs.map (·.2)).Nodup ∧ cs.length = 1 ∧
        (∀ p ∈ cs, K.lookup p.2 = none ∧ PySem.W.codeHdIn K p.1 p.2 = true ∧ ∃ (nm : Str) (f : Addr) (o : Obj) (fd : FuncData) (e : Value) (dd : Option Addr) (vs : Array Value) (sl : Array (Option Value)), ((recsOf q).any fun e => e.name == nm) = true ∧ mg nm = some (.ref f) ∧ K.lookup f = some o ∧ o.data = .func fd ∧ fd.code = .ref p.1 ∧ K.lookup p.1 = some ⟨e, dd, .fields vs, sl⟩ ∧ vs[11]? = some (.ref p.2)) ∧
        (∀ (s : Shared) (u : Value), BindsTo s fd ⟨[u], []⟩ [("_law_script", u)]) ∧
        ∀ base : Heap, K.In base → base.Ns mainGlobals mg → (∀ p ∈ cs, LamX.TabB base mg p.1 p.2) → FnOk l.prog w K mg base (L2.CX l.prog w) 40 fa fd ["_law_script"] (spD K 1 (ph_law (cs.map (·.2)))) := by
  cases hfa.symm.trans (PySem.W.mg_of X G a54)
  have F0 := fund_mk (params := defArgs st_is_number) l0 c0 k0
  have F1 := fund_mk (params := defArgs st_is_name) l1 c1 k1
  have F2 := fund_mk (params := defArgs st_is_point) l2 c2 k2
  have F3 := fund_mk (params := defArgs st_is_wind) l3 c3 k3
  have F4 := fund_mk (params := defArgs st_is_listed) l4 c4 k4
  have F5 := fund_mk (params := defArgs st_cross) l5 c5 k5
  have F6 := fund_mk (params := defArgs st_towards) l6 c6 k6
  have F7 := fund_mk (params := defArgs st_turning) l7 c7 k7
  have F8 := fund_mk (params := defArgs st_side_of) l8 c8 k8
  have F9 := fund_mk (params := defArgs st_is_side) l9 c9 k9
  have F10 := fund_mk (params := defArgs st_corner_pairs) l10 c10 k10
  have F11 := fund_mk (params := defArgs st_check_corners) l11 c11 k11
  have F12 := fund_mk (params := defArgs st_check_winds) l12 c12 k12
  have F13 := fund_mk (params := defArgs st_Tile___init__) l13 c13 k13
  have F14 := fund_mk (params := defArgs st_Tile_label) l14 c14 k14
  have F15 := fund_mk (params := defArgs st_Tile_corners) l15 c15 k15
  have F16 := fund_mk (params := defArgs st_Tile_winds) l16 c16 k16
  have F17 := fund_mk (params := defArgs st_Tile_sides) l17 c17 k17
  have F18 := fund_mk (params := defArgs st_Tile_has_side) l18 c18 k18
  have F19 := fund_mk (params := defArgs st_Tile_lets_in) l19 c19 k19
  have F20 := fund_mk (params := defArgs st_Tile___len__) l20 c20 k20
  have F21 := fund_mk (params := defArgs st_Tile___repr__) l21 c21 k21
  have F22 := fund_mk (params := defArgs st__law_is_name) l22 c22 k22
  have F23 := fund_mk (params := defArgs st__law_is_dot) l23 c23 k23
  have F24 := fund_mk (params := defArgs st__law_border) l24 c24 k24
  have F25 := fund_mk (params := defArgs st__law_cross) l25 c25 k25
  have F26 := fund_mk (params := defArgs st__law_lead) l26 c26 k26
  have F27 := fund_mk (params := defArgs st__law_turn) l27 c27 k27
  have F28 := fund_mk (params := defArgs st__law_dots_due) l28 c28 k28
  have F29 := fund_mk (params := defArgs st__law_is_wind) l29 c29 k29
  have F30 := fund_mk (params := defArgs st__law_key) l30 c30 k30
  have F31 := fund_mk (params := defArgs st__law_winds_due) l31 c31 k31
  have F32 := fund_mk (params := defArgs st__law_tile_due) l32 c32 k32
  have F33 := fund_mk (params := defArgs st__law_start) l33 c33 k33
  have F34 := fund_mk (params := defArgs st__law_pull) l34 c34 k34
  have F35 := fund_mk (params := defArgs st__law_pick) l35 c35 k35
  have F36 := fund_mk (params := defArgs st__law_winds) l36 c36 k36
  have F37 := fund_mk (params := defArgs st__law_keys) l37 c37 k37
  have F38 := fund_mk (params := defArgs st__law_sort) l38 c38 k38
  have F39 := fund_mk (params := defArgs st__law_same) l39 c39 k39
  have F40 := fund_mk (params := defArgs st__law_lets) l40 c40 k40
  have F41 := fund_mk (params := defArgs st__law_tile_so) l41 c41 k41
  have F42 := fund_mk (params := defArgs st__law_fields) l42 c42 k42
  have F43 := fund_mk (params := defArgs st__law_shapes) l43 c43 k43
  have F44 := fund_mk (params := defArgs st__law_new_names) l44 c44 k44
  have F45 := fund_mk (params := defArgs st__law_moved) l45 c45 k45
  have F46 := fund_mk (params := defArgs st__law_shuffled) l46 c46 k46
  have F47 := fund_mk (params := defArgs st__law_finished) l47 c47 k47
  have F48 := fund_mk (params := defArgs st__law_quarter) l48 c48 k48
  have F49 := fund_mk (params := defArgs st__law_bordered) l49 c49 k49
  have F50 := fund_mk (params := defArgs st__law_grid) l50 c50 k50
  have F51 := fund_mk (params := defArgs st__law_drawn) l51 c51 k51
  have F52 := fund_mk (params := defArgs st__law_bent_dots) l52 c52 k52
  have F53 := fund_mk (params := defArgs st__law_bent_winds) l53 c53 k53
  have F54 := fund_mk (params := defArgs st_law) l54 c54 k54
  have ci0 : ClsI K C0 := ⟨⟨pg0, hd0, po0, sa0⟩, ha0, hn, htk, hm0⟩
  have T : Txt K mg (fun n => match n with | 0 => f0 | 1 => f1 | 2 => f2 | 3 => f3 | 4 => f4 | 5 => f5 | 6 => f6 | 7 => f7 | 8 => f8 | 9 => f9 | 10 => f10 | 11 => f11 | 12 => f12 | 13 => f13 | 14 => f14 | 15 => f15 | 16 => f16 | 17 => f17 | 18 => f18 | 19 => f19 | 20 => f20 | 21 => f21 | 22 => f22 | 23 => f23 | 24 => f24 | 25 => f25 | 26 => f26 | 27 => f27 | 28 => f28 | 29 => f29 | 30 => f30 | 31 => f31 | 32 => f32 | 33 => f33 | 34 => f34 | 35 => f35 | 36 => f36 | 37 => f37 | 38 => f38 | 39 => f39 | 40 => f40 | 41 => f41 | 42 => f42 | 43 => f43 | 44 => f44 | 45 => f45 | 46 => f46 | 47 => f47 | 48 => f48 | 49 => f49 | 50 => f50 | 51 => f51 | 52 => f52 | 53 => f53 | _ => fa) (fun n => match n with | 0 => PySem.W.fnOf "is_number" "is_number" (defArgs st_is_number) (defBody st_is_number) (defScope st_is_number) .none kV0 dc0 pm0 an0 cd0 ct0 | 1 => PySem.W.fnOf "is_name" "is_name" (defArgs st_is_name) (defBody st_is_name) (defScope st_is_name) .none kV1 dc1 pm1 an1 cd1 ct1 | 2 => PySem.W.fnOf "is_point" "is_point" (defArgs st_is_point) (defBody st_is_point) (defScope st_is_point) .none kV2 dc2 pm2 an2 cd2 ct2 | 3 => PySem.W.fnOf "is_wind" "is_wind" (defArgs st_is_wind) (defBody st_is_wind) (defScope st_is_wind) .none kV3 dc3 pm3 an3 cd3 ct3 | 4 => PySem.W.fnOf "is_listed" "is_listed" (defArgs st_is_listed) (defBody st_is_listed) (defScope st_is_listed) .none kV4 dc4 pm4 an4 cd4 ct4 | 5 => PySem.W.fnOf "cross" "cross" (defArgs st_cross) (defBody st_cross) (defScope st_cross) .none kV5 dc5 pm5 an5 cd5 ct5 | 6 => PySem.W.fnOf "towards" "towards" (defArgs st_towards) (defBody st_towards) (defScope st_towards) .none kV6 dc6 pm6 an6 cd6 ct6 | 7 => PySem.W.fnOf "turning" "turning" (defArgs st_turning) (defBody st_turning) (defScope st_turning) .none kV7 dc7 pm7 an7 cd7 ct7 | 8 => PySem.W.fnOf "side_of" "side_of" (defArgs st_side_of) (defBody st_side_of) (defScope st_side_of) .none kV8 dc8 pm8 an8 cd8 ct8 | 9 => PySem.W.fnOf "is_side" "is_side" (defArgs st_is_side) (defBody st_is_side) (defScope st_is_side) .none kV9 dc9 pm9 an9 cd9 ct9 | 10 => PySem.W.fnOf "corner_pairs" "corner_pairs" (defArgs st_corner_pairs) (defBody st_corner_pairs) (defScope st_corner_pairs) .none kV10 dc10 pm10 an10 cd10 ct10 | 11 => PySem.W.fnOf "check_corners" "check_corners" (defArgs st_check_corners) (defBody st_check_corners) (defScope st_check_corners) .none kV11 dc11 pm11 an11 cd11 ct11 | 12 => PySem.W.fnOf "check_winds" "check_winds" (defArgs st_check_winds) (defBody st_check_winds) (defScope st_check_winds) .none kV12 dc12 pm12 an12 cd12 ct12 | 13 => PySem.W.fnOf "__init__" "Tile.__init__" (defArgs st_Tile___init__) (defBody st_Tile___init__) (defScope st_Tile___init__) .none kV13 dc13 pm13 an13 cd13 ct13 | 14 => PySem.W.fnOf "label" "Tile.label" (defArgs st_Tile_label) (defBody st_Tile_label) (defScope st_Tile_label) .none kV14 dc14 pm14 an14 cd14 ct14 | 15 => PySem.W.fnOf "corners" "Tile.corners" (defArgs st_Tile_corners) (defBody st_Tile_corners) (defScope st_Tile_corners) .none kV15 dc15 pm15 an15 cd15 ct15 | 16 => PySem.W.fnOf "winds" "Tile.winds" (defArgs st_Tile_winds) (defBody st_Tile_winds) (defScope st_Tile_winds) .none kV16 dc16 pm16 an16 cd16 ct16 | 17 => PySem.W.fnOf "sides" "Tile.sides" (defArgs st_Tile_sides) (defBody st_Tile_sides) (defScope st_Tile_sides) .none kV17 dc17 pm17 an17 cd17 ct17 | 18 => PySem.W.fnOf "has_side" "Tile.has_side" (defArgs st_Tile_has_side) (defBody st_Tile_has_side) (defScope st_Tile_has_side) .none kV18 dc18 pm18 an18 cd18 ct18 | 19 => PySem.W.fnOf "lets_in" "Tile.lets_in" (defArgs st_Tile_lets_in) (defBody st_Tile_lets_in) (defScope st_Tile_lets_in) .none kV19 dc19 pm19 an19 cd19 ct19 | 20 => PySem.W.fnOf "__len__" "Tile.__len__" (defArgs st_Tile___len__) (defBody st_Tile___len__) (defScope st_Tile___len__) .none kV20 dc20 pm20 an20 cd20 ct20 | 21 => PySem.W.fnOf "__repr__" "Tile.__repr__" (defArgs st_Tile___repr__) (defBody st_Tile___repr__) (defScope st_Tile___repr__) .none kV21 dc21 pm21 an21 cd21 ct21 | 22 => PySem.W.fnOf "_law_is_name" "_law_is_name" (defArgs st__law_is_name) (defBody st__law_is_name) (defScope st__law_is_name) .none kV22 dc22 pm22 an22 cd22 ct22 | 23 => PySem.W.fnOf "_law_is_dot" "_law_is_dot" (defArgs st__law_is_dot) (defBody st__law_is_dot) (defScope st__law_is_dot) .none kV23 dc23 pm23 an23 cd23 ct23 | 24 => PySem.W.fnOf "_law_border" "_law_border" (defArgs st__law_border) (defBody st__law_border) (defScope st__law_border) .none kV24 dc24 pm24 an24 cd24 ct24 | 25 => PySem.W.fnOf "_law_cross" "_law_cross" (defArgs st__law_cross) (defBody st__law_cross) (defScope st__law_cross) .none kV25 dc25 pm25 an25 cd25 ct25 | 26 => PySem.W.fnOf "_law_lead" "_law_lead" (defArgs st__law_lead) (defBody st__law_lead) (defScope st__law_lead) .none kV26 dc26 pm26 an26 cd26 ct26 | 27 => PySem.W.fnOf "_law_turn" "_law_turn" (defArgs st__law_turn) (defBody st__law_turn) (defScope st__law_turn) .none kV27 dc27 pm27 an27 cd27 ct27 | 28 => PySem.W.fnOf "_law_dots_due" "_law_dots_due" (defArgs st__law_dots_due) (defBody st__law_dots_due) (defScope st__law_dots_due) .none kV28 dc28 pm28 an28 cd28 ct28 | 29 => PySem.W.fnOf "_law_is_wind" "_law_is_wind" (defArgs st__law_is_wind) (defBody st__law_is_wind) (defScope st__law_is_wind) .none kV29 dc29 pm29 an29 cd29 ct29 | 30 => PySem.W.fnOf "_law_key" "_law_key" (defArgs st__law_key) (defBody st__law_key) (defScope st__law_key) .none kV30 dc30 pm30 an30 cd30 ct30 | 31 => PySem.W.fnOf "_law_winds_due" "_law_winds_due" (defArgs st__law_winds_due) (defBody st__law_winds_due) (defScope st__law_winds_due) .none kV31 dc31 pm31 an31 cd31 ct31 | 32 => PySem.W.fnOf "_law_tile_due" "_law_tile_due" (defArgs st__law_tile_due) (defBody st__law_tile_due) (defScope st__law_tile_due) .none kV32 dc32 pm32 an32 cd32 ct32 | 33 => PySem.W.fnOf "_law_start" "_law_start" (defArgs st__law_start) (defBody st__law_start) (defScope st__law_start) .none kV33 dc33 pm33 an33 cd33 ct33 | 34 => PySem.W.fnOf "_law_pull" "_law_pull" (defArgs st__law_pull) (defBody st__law_pull) (defScope st__law_pull) .none kV34 dc34 pm34 an34 cd34 ct34 | 35 => PySem.W.fnOf "_law_pick" "_law_pick" (defArgs st__law_pick) (defBody st__law_pick) (defScope st__law_pick) .none kV35 dc35 pm35 an35 cd35 ct35 | 36 => PySem.W.fnOf "_law_winds" "_law_winds" (defArgs st__law_winds) (defBody st__law_winds) (defScope st__law_winds) .none kV36 dc36 pm36 an36 cd36 ct36 | 37 => PySem.W.fnOf "_law_keys" "_law_keys" (defArgs st__law_keys) (defBody st__law_keys) (defScope st__law_keys) .none kV37 dc37 pm37 an37 cd37 ct37 | 38 => PySem.W.fnOf "_law_sort" "_law_sort" (defArgs st__law_sort) (defBody st__law_sort) (defScope st__law_sort) .none kV38 dc38 pm38 an38 cd38 ct38 | 39 => PySem.W.fnOf "_law_same" "_law_same" (defArgs st__law_same) (defBody st__law_same) (defScope st__law_same) .none kV39 dc39 pm39 an39 cd39 ct39 | 40 => PySem.W.fnOf "_law_lets" "_law_lets" (defArgs st__law_lets) (defBody st__law_lets) (defScope st__law_lets) .none kV40 dc40 pm40 an40 cd40 ct40 | 41 => PySem.W.fnOf "_law_tile_so" "_law_tile_so" (defArgs st__law_tile_so) (defBody st__law_tile_so) (defScope st__law_tile_so) .none kV41 dc41 pm41 an41 cd41 ct41 | 42 => PySem.W.fnOf "_law_fields" "_law_fields" (defArgs st__law_fields) (defBody st__law_fields) (defScope st__law_fields) .none kV42 dc42 pm42 an42 cd42 ct42 | 43 => PySem.W.fnOf "_law_shapes" "_law_shapes" (defArgs st__law_shapes) (defBody st__law_shapes) (defScope st__law_shapes) .none kV43 dc43 pm43 an43 cd43 ct43 | 44 => PySem.W.fnOf "_law_new_names" "_law_new_names" (defArgs st__law_new_names) (defBody st__law_new_names) (defScope st__law_new_names) .none kV44 dc44 pm44 an44 cd44 ct44 | 45 => PySem.W.fnOf "_law_moved" "_law_moved" (defArgs st__law_moved) (defBody st__law_moved) (defScope st__law_moved) .none kV45 dc45 pm45 an45 cd45 ct45 | 46 => PySem.W.fnOf "_law_shuffled" "_law_shuffled" (defArgs st__law_shuffled) (defBody st__law_shuffled) (defScope st__law_shuffled) .none kV46 dc46 pm46 an46 cd46 ct46 | 47 => PySem.W.fnOf "_law_finished" "_law_finished" (defArgs st__law_finished) (defBody st__law_finished) (defScope st__law_finished) .none kV47 dc47 pm47 an47 cd47 ct47 | 48 => PySem.W.fnOf "_law_quarter" "_law_quarter" (defArgs st__law_quarter) (defBody st__law_quarter) (defScope st__law_quarter) .none kV48 dc48 pm48 an48 cd48 ct48 | 49 => PySem.W.fnOf "_law_bordered" "_law_bordered" (defArgs st__law_bordered) (defBody st__law_bordered) (defScope st__law_bordered) .none kV49 dc49 pm49 an49 cd49 ct49 | 50 => PySem.W.fnOf "_law_grid" "_law_grid" (defArgs st__law_grid) (defBody st__law_grid) (defScope st__law_grid) .none kV50 dc50 pm50 an50 cd50 ct50 | 51 => PySem.W.fnOf "_law_drawn" "_law_drawn" (defArgs st__law_drawn) (defBody st__law_drawn) (defScope st__law_drawn) .none kV51 dc51 pm51 an51 cd51 ct51 | 52 => PySem.W.fnOf "_law_bent_dots" "_law_bent_dots" (defArgs st__law_bent_dots) (defBody st__law_bent_dots) (defScope st__law_bent_dots) .none kV52 dc52 pm52 an52 cd52 ct52 | 53 => PySem.W.fnOf "_law_bent_winds" "_law_bent_winds" (defArgs st__law_bent_winds) (defBody st__law_bent_winds) (defScope st__law_bent_winds) .none kV53 dc53 pm53 an53 cd53 ct53 | _ => PySem.W.fnOf "law" "law" (defArgs st_law) (defBody st_law) (defScope st_law) .none kV54 dc54 pm54 an54 (.ref cL54) ct54) (fun n => match n with  | _ => C0) :=
    { m_Tile := PySem.W.mg_of X G aC0,
      ci_Tile := ci0,
      sf_Tile := sf0,
      isiC_Tile := all_cs1 (⟨ci0, kit_same.trans kd_true⟩),
      isiB_Tile := fun u => match u with | .non => kit_in ic0 ty0 kb0_non kit_ty' | .bl => kit_in ic0 ty0 kb0_bl kit_ty' | .int => kit_in ic0 ty0 kb0_int kit_ty' | .str => kit_in ic0 ty0 kb0_str kit_ty' | .lst => kit_in ic0 ty0 kb0_lst kit_ty' | .tup => kit_in ic0 ty0 kb0_tup kit_ty',
      isi_bool := all_cs1 (⟨ci0, kit_to (by decide +kernel) ki0_bool⟩),
      isi_int := all_cs1 (⟨ci0, kit_to (by decide +kernel) ki0_int⟩),
      isi_list := all_cs1 (⟨ci0, kit_to (by decide +kernel) ki0_list⟩),
      isi_str := all_cs1 (⟨ci0, kit_to (by decide +kernel) ki0_str⟩),
      isi_tuple := all_cs1 (⟨ci0, kit_to (by decide +kernel) ki0_tuple⟩),
      na_Tile_inward := na_Tile_inward,
      na_Tile_own_corners := na_Tile_own_corners,
      na_Tile_own_name := na_Tile_own_name,
      na_Tile_own_winds := na_Tile_own_winds,
      m_is_number := PySem.W.mg_of X G a0,
      k_is_number := k0,
      F_is_number := F0,
      kb_is_number_1 := kbd_of F0 rfl fun _ _ _ _ _ _ us hl => match us, hl with | [_], _ => rfl,
      m_is_name := PySem.W.mg_of X G a1,
      k_is_name := k1,
      F_is_name := F1,
      kb_is_name_1 := kbd_of F1 rfl fun _ _ _ _ _ _ us hl => match us, hl with | [_], _ => rfl,
      m_is_point := PySem.W.mg_of X G a2,
      k_is_point := k2,
      F_is_point := F2,
      kb_is_point_1 := kbd_of F2 rfl fun _ _ _ _ _ _ us hl => match us, hl with | [_], _ => rfl,
      m_is_wind := PySem.W.mg_of X G a3,
      k_is_wind := k3,
      F_is_wind := F3,
      kb_is_wind_1 := kbd_of F3 rfl fun _ _ _ _ _ _ us hl => match us, hl with | [_], _ => rfl,
      m_is_listed := PySem.W.mg_of X G a4,
      k_is_listed := k4,
      F_is_listed := F4,
      kb_is_listed_1 := kbd_of F4 rfl fun _ _ _ _ _ _ us hl => match us, hl with | [_], _ => rfl,
      m_cross := PySem.W.mg_of X G a5,
      k_cross := k5,
      F_cross := F5,
      kb_cross_2 := kbd_of F5 rfl fun _ _ _ _ _ _ us hl => match us, hl with | [_, _], _ => rfl,
      m_towards := PySem.W.mg_of X G a6,
      k_towards := k6,
      F_towards := F6,
      kb_towards_2 := kbd_of F6 rfl fun _ _ _ _ _ _ us hl => match us, hl with | [_, _], _ => rfl,
      m_turning := PySem.W.mg_of X G a7,
      k_turning := k7,
      F_turning := F7,
      kb_turning_3 := kbd_of F7 rfl fun _ _ _ _ _ _ us hl => match us, hl with | [_, _, _], _ => rfl,
      m_side_of := PySem.W.mg_of X G a8,
      k_side_of := k8,
      F_side_of := F8,
      kb_side_of_2 := kbd_of F8 rfl fun _ _ _ _ _ _ us hl => match us, hl with | [_, _], _ => rfl,
      m_is_side := PySem.W.mg_of X G a9,
      k_is_side := k9,
      F_is_side := F9,
      kb_is_side_1 := kbd_of F9 rfl fun _ _ _ _ _ _ us hl => match us, hl with | [_], _ => rfl,
      m_corner_pairs := PySem.W.mg_of X G a10,
      k_corner_pairs := k10,
      F_corner_pairs := F10,
      kb_corner_pairs_1 := kbd_of F10 rfl fun _ _ _ _ _ _ us hl => match us, hl with | [_], _ => rfl,
      m_check_corners := PySem.W.mg_of X G a11,
      k_check_corners := k11,
      F_check_corners := F11,
      kb_check_corners_1 := kbd_of F11 rfl fun _ _ _ _ _ _ us hl => match us, hl with | [_], _ => rfl,
      m_check_winds := PySem.W.mg_of X G a12,
      k_check_winds := k12,
      F_check_winds := F12,
      kb_check_winds_1 := kbd_of F12 rfl fun _ _ _ _ _ _ us hl => match us, hl with | [_], _ => rfl,
      F_Tile___init__ := F13,
      mk_Tile := ⟨mk0, a13, i13, kc0⟩,
      kb_Tile___init___4 := kbd_of F13 rfl fun _ _ _ _ _ _ us hl => match us, hl with | [_, _, _, _], _ => rfl,
      F_Tile_label := F14,
      pp_Tile_label := ⟨_, a14, g14, t14, _, r14⟩,
      bb_Tile_label := FunD.bindsN F14 fun _ _ _ _ _ _ us hl => match us, hl with | [_], _ => rfl,
      F_Tile_corners := F15,
      pp_Tile_corners := ⟨_, a15, g15, t15, _, r15⟩,
      bb_Tile_corners := FunD.bindsN F15 fun _ _ _ _ _ _ us hl => match us, hl with | [_], _ => rfl,
      F_Tile_winds := F16,
      pp_Tile_winds := ⟨_, a16, g16, t16, _, r16⟩,
      bb_Tile_winds := FunD.bindsN F16 fun _ _ _ _ _ _ us hl => match us, hl with | [_], _ => rfl,
      F_Tile_sides := F17,
      mt_Tile_sides := ⟨a17, i17, k17⟩,
      kb_Tile_sides_1 := kbd_of F17 rfl fun _ _ _ _ _ _ us hl => match us, hl with | [_], _ => rfl,
      F_Tile_has_side := F18,
      mt_Tile_has_side := ⟨a18, i18, k18⟩,
      kb_Tile_has_side_2 := kbd_of F18 rfl fun _ _ _ _ _ _ us hl => match us, hl with | [_, _], _ => rfl,
      F_Tile_lets_in := F19,
      mt_Tile_lets_in := ⟨a19, i19, k19⟩,
      kb_Tile_lets_in_2 := kbd_of F19 rfl fun _ _ _ _ _ _ us hl => match us, hl with | [_, _], _ => rfl,
      F_Tile___len__ := F20,
      sp_Tile___len__ := a20,
      fn_Tile___len__ := i20,
      kb_Tile___len___1 := kbd_of F20 rfl fun _ _ _ _ _ _ us hl => match us, hl with | [_], _ => rfl,
      F_Tile___repr__ := F21,
      sp_Tile___repr__ := a21,
      fn_Tile___repr__ := i21,
      kb_Tile___repr___1 := kbd_of F21 rfl fun _ _ _ _ _ _ us hl => match us, hl with | [_], _ => rfl,
      m__law_is_name := PySem.W.mg_of X G a22,
      k__law_is_name := k22,
      F__law_is_name := F22,
      kb__law_is_name_1 := kbd_of F22 rfl fun _ _ _ _ _ _ us hl => match us, hl with | [_], _ => rfl,
      m__law_is_dot := PySem.W.mg_of X G a23,
      k__law_is_dot := k23,
      F__law_is_dot := F23,
      kb__law_is_dot_1 := kbd_of F23 rfl fun _ _ _ _ _ _ us hl => match us, hl with | [_], _ => rfl,
      m__law_border := PySem.W.mg_of X G a24,
      k__law_border := k24,
      F__law_border := F24,
      kb__law_border_1 := kbd_of F24 rfl fun _ _ _ _ _ _ us hl => match us, hl with | [_], _ => rfl,
      m__law_cross := PySem.W.mg_of X G a25,
      k__law_cross := k25,
      F__law_cross := F25,
      kb__law_cross_2 := kbd_of F25 rfl fun _ _ _ _ _ _ us hl => match us, hl with | [_, _], _ => rfl,
      m__law_lead := PySem.W.mg_of X G a26,
      k__law_lead := k26,
      F__law_lead := F26,
      kb__law_lead_2 := kbd_of F26 rfl fun _ _ _ _ _ _ us hl => match us, hl with | [_, _], _ => rfl,
      m__law_turn := PySem.W.mg_of X G a27,
      k__law_turn := k27,
      F__law_turn := F27,
      kb__law_turn_3 := kbd_of F27 rfl fun _ _ _ _ _ _ us hl => match us, hl with | [_, _, _], _ => rfl,
      m__law_dots_due := PySem.W.mg_of X G a28,
      k__law_dots_due := k28,
      F__law_dots_due := F28,
      kb__law_dots_due_1 := kbd_of F28 rfl fun _ _ _ _ _ _ us hl => match us, hl with | [_], _ => rfl,
      m__law_is_wind := PySem.W.mg_of X G a29,
      k__law_is_wind := k29,
      F__law_is_wind := F29,
      kb__law_is_wind_1 := kbd_of F29 rfl fun _ _ _ _ _ _ us hl => match us, hl with | [_], _ => rfl,
      m__law_key := PySem.W.mg_of X G a30,
      k__law_key := k30,
      F__law_key := F30,
      kb__law_key_2 := kbd_of F30 rfl fun _ _ _ _ _ _ us hl => match us, hl with | [_, _], _ => rfl,
      m__law_winds_due := PySem.W.mg_of X G a31,
      k__law_winds_due := k31,
      F__law_winds_due := F31,
      kb__law_winds_due_2 := kbd_of F31 rfl fun _ _ _ _ _ _ us hl => match us, hl with | [_, _], _ => rfl,
      m__law_tile_due := PySem.W.mg_of X G a32,
      k__law_tile_due := k32,
      F__law_tile_due := F32,
      kb__law_tile_due_3 := kbd_of F32 rfl fun _ _ _ _ _ _ us hl => match us, hl with | [_, _, _], _ => rfl,
      m__law_start := PySem.W.mg_of X G a33,
      k__law_start := k33,
      F__law_start := F33,
      kb__law_start_1 := kbd_of F33 rfl fun _ _ _ _ _ _ us hl => match us, hl with | [_], _ => rfl,
      m__law_pull := PySem.W.mg_of X G a34,
      k__law_pull := k34,
      F__law_pull := F34,
      kb__law_pull_2 := kbd_of F34 rfl fun _ _ _ _ _ _ us hl => match us, hl with | [_, _], _ => rfl,
      m__law_pick := PySem.W.mg_of X G a35,
      k__law_pick := k35,
      F__law_pick := F35,
      kb__law_pick_2 := kbd_of F35 rfl fun _ _ _ _ _ _ us hl => match us, hl with | [_, _], _ => rfl,
      m__law_winds := PySem.W.mg_of X G a36,
      k__law_winds := k36,
      F__law_winds := F36,
      kb__law_winds_3 := kbd_of F36 rfl fun _ _ _ _ _ _ us hl => match us, hl with | [_, _, _], _ => rfl,
      m__law_keys := PySem.W.mg_of X G a37,
      k__law_keys := k37,
      F__law_keys := F37,
      kb__law_keys_1 := kbd_of F37 rfl fun _ _ _ _ _ _ us hl => match us, hl with | [_], _ => rfl,
      m__law_sort := PySem.W.mg_of X G a38,
      k__law_sort := k38,
      F__law_sort := F38,
      kb__law_sort_1 := kbd_of F38 rfl fun _ _ _ _ _ _ us hl => match us, hl with | [_], _ => rfl,
      m__law_same := PySem.W.mg_of X G a39,
      k__law_same := k39,
      F__law_same := F39,
      kb__law_same_2 := kbd_of F39 rfl fun _ _ _ _ _ _ us hl => match us, hl with | [_, _], _ => rfl,
      m__law_lets := PySem.W.mg_of X G a40,
      k__law_lets := k40,
      F__law_lets := F40,
      kb__law_lets_2 := kbd_of F40 rfl fun _ _ _ _ _ _ us hl => match us, hl with | [_, _], _ => rfl,
      m__law_tile_so := PySem.W.mg_of X G a41,
      k__law_tile_so := k41,
      F__law_tile_so := F41,
      kb__law_tile_so_2 := kbd_of F41 rfl fun _ _ _ _ _ _ us hl => match us, hl with | [_, _], _ => rfl,
      m__law_fields := PySem.W.mg_of X G a42,
      k__law_fields := k42,
      F__law_fields := F42,
      bb__law_fields := FunD.bindsN F42 fun _ _ _ _ _ _ us hl => match us, hl with | [_], _ => rfl,
      m__law_shapes := PySem.W.mg_of X G a43,
      k__law_shapes := k43,
      F__law_shapes := F43,
      kb__law_shapes_0 := kbd_of F43 rfl fun _ _ _ _ _ _ us hl => match us, hl with | [], _ => rfl,
      m__law_new_names := PySem.W.mg_of X G a44,
      k__law_new_names := k44,
      F__law_new_names := F44,
      kb__law_new_names_2 := kbd_of F44 rfl fun _ _ _ _ _ _ us hl => match us, hl with | [_, _], _ => rfl,
      m__law_moved := PySem.W.mg_of X G a45,
      k__law_moved := k45,
      F__law_moved := F45,
      kb__law_moved_2 := kbd_of F45 rfl fun _ _ _ _ _ _ us hl => match us, hl with | [_, _], _ => rfl,
      m__law_shuffled := PySem.W.mg_of X G a46,
      k__law_shuffled := k46,
      F__law_shuffled := F46,
      kb__law_shuffled_2 := kbd_of F46 rfl fun _ _ _ _ _ _ us hl => match us, hl with | [_, _], _ => rfl,
      m__law_finished := PySem.W.mg_of X G a47,
      k__law_finished := k47,
      F__law_finished := F47,
      kb__law_finished_2 := kbd_of F47 rfl fun _ _ _ _ _ _ us hl => match us, hl with | [_, _], _ => rfl,
      m__law_quarter := PySem.W.mg_of X G a48,
      k__law_quarter := k48,
      F__law_quarter := F48,
      kb__law_quarter_4 := kbd_of F48 rfl fun _ _ _ _ _ _ us hl => match us, hl with | [_, _, _, _], _ => rfl,
      m__law_bordered := PySem.W.mg_of X G a49,
      k__law_bordered := k49,
      F__law_bordered := F49,
      kb__law_bordered_2 := kbd_of F49 rfl fun _ _ _ _ _ _ us hl => match us, hl with | [_, _], _ => rfl,
      m__law_grid := PySem.W.mg_of X G a50,
      k__law_grid := k50,
      F__law_grid := F50,
      kb__law_grid_4 := kbd_of F50 rfl fun _ _ _ _ _ _ us hl => match us, hl with | [_, _, _, _], _ => rfl,
      m__law_drawn := PySem.W.mg_of X G a51,
      k__law_drawn := k51,
      F__law_drawn := F51,
      kb__law_drawn_3 := kbd_of F51 rfl fun _ _ _ _ _ _ us hl => match us, hl with | [_, _, _], _ => rfl,
      m__law_bent_dots := PySem.W.mg_of X G a52,
      k__law_bent_dots := k52,
      F__law_bent_dots := F52,
      kb__law_bent_dots_2 := kbd_of F52 rfl fun _ _ _ _ _ _ us hl => match us, hl with | [_, _], _ => rfl,
      m__law_bent_winds := PySem.W.mg_of X G a53,
      k__law_bent_winds := k53,
      F__law_bent_winds := F53,
      kb__law_bent_winds_3 := kbd_of F53 rfl fun _ _ _ _ _ _ us hl => match us, hl with | [_, _, _], _ => rfl,
      m_law := PySem.W.mg_of X G a54,
      k_law := k54,
      F_law := F54,
      b_abs := PySem.W.mg_none_of X G b_abs,
      b_all := PySem.W.mg_none_of X G b_all,
      b_bool := PySem.W.mg_none_of X G b_bool,
      b_enumerate := PySem.W.mg_none_of X G b_enumerate,
      b_int := PySem.W.mg_none_of X G b_int,
      b_isinstance := PySem.W.mg_none_of X G b_isinstance,
      b_len := PySem.W.mg_none_of X G b_len,
      b_list := PySem.W.mg_none_of X G b_list,
      b_max := PySem.W.mg_none_of X G b_max,
      b_min := PySem.W.mg_none_of X G b_min,
      b_range := PySem.W.mg_none_of X G b_range,
      b_repr := PySem.W.mg_none_of X G b_repr,
      b_str := PySem.W.mg_none_of X G b_str,
      b_tuple := PySem.W.mg_none_of X G b_tuple,
      b_zip := PySem.W.mg_none_of X G b_zip,
      c_FARTHEST := ⟨_, PySem.W.mg_of X G c_FARTHEST, .int⟩,
      c_FEWEST := ⟨_, PySem.W.mg_of X G c_FEWEST, .int⟩,
      c_LETTERS := ⟨_, PySem.W.mg_of X G c_LETTERS, .str⟩,
      c_LONGEST_NAME := ⟨_, PySem.W.mg_of X G c_LONGEST_NAME, .int⟩,
      c_MOST_CORNERS := ⟨_, PySem.W.mg_of X G c_MOST_CORNERS, .int⟩ }

  have BX0 := oxB_ok obX0
  have TX0 : XG.OexB K "ValueError.__new__" _ CX0 := ⟨⟨_, _, _, _, _, _, _, _, _, _, _, _, _, _, _, lX0, rvX0⟩, BX0.sa, BX0.exC, BX0.tyC, BX0.kC⟩
  have NX0 := noB_ok noX0
  have BX1 := oxB_ok obX1
  have TX1 : XG.OexB K "ValueError.__new__" _ CX1 := ⟨⟨_, _, _, _, _, _, _, _, _, _, _, _, _, _, _, lX1, rvX1⟩, BX1.sa, BX1.exC, BX1.tyC, BX1.kC⟩
  have NX1 := noB_ok noX1
  have BX2 := oxB_ok obX2
  have TX2 : XG.OexB K "ValueError.__new__" _ CX2 := ⟨⟨_, _, _, _, _, _, _, _, _, _, _, _, _, _, _, lX2, rvX2⟩, BX2.sa, BX2.exC, BX2.tyC, BX2.kC⟩
  have NX2 := noB_ok noX2
  have BX3 := oxB_ok obX3
  have TX3 : XG.OexB K "ValueError.__new__" _ CX3 := ⟨⟨_, _, _, _, _, _, _, _, _, _, _, _, _, _, _, lX3, rvX3⟩, BX3.sa, BX3.exC, BX3.tyC, BX3.kC⟩
  have NX3 := noB_ok noX3
  have BX4 := oxB_ok obX4
  have TX4 : XG.OexB K "ValueError.__new__" _ CX4 := ⟨⟨_, _, _, _, _, _, _, _, _, _, _, _, _, _, _, lX4, rvX4⟩, BX4.sa, BX4.exC, BX4.tyC, BX4.kC⟩
  have NX4 := noB_ok noX4
  have BX5 := oxB_ok obX5
  have TX5 : XG.OexB K "LookupError.__new__" _ CX5 := ⟨⟨_, _, _, _, _, _, _, _, _, _, _, _, _, _, _, lX5, rvX5⟩, BX5.sa, BX5.exC, BX5.tyC, BX5.kC⟩
  have NX5 := noB_ok noX5
  have ER : ∀ base : Heap, ErT l.prog w K mg base (fun i => ([CX0, CX1, CX2, CX3, CX4, CX5][i]?).getD 0) [.ref G1, .ref G2, .ref G3] := fun base => {
      e_InvalidName := err_InvalidName (PySem.W.mg_of X G aX0) TX0 iX0 tiX0 lfX0 lcX0 h2X0 hfX0 lccX0 cc'X0 tpX (PySem.W.mg_none_of X G suX) opX BX0 NX0,
      e_InvalidCorners := err_InvalidCorners (PySem.W.mg_of X G aX1) TX1 iX1 tiX1 lfX1 lcX1 h2X1 hfX1 lccX1 cc'X1 tpX (PySem.W.mg_none_of X G suX) opX BX1 NX1,
      e_NotConvex := err_NotConvex (PySem.W.mg_of X G aX2) TX2 iX2 tiX2 lfX2 lcX2 h2X2 hfX2 lccX2 cc'X2 tpX (PySem.W.mg_none_of X G suX) opX BX2 NX2,
      e_InvalidWinds := err_InvalidWinds (PySem.W.mg_of X G aX3) TX3 iX3 tiX3 lfX3 lcX3 h2X3 hfX3 lccX3 cc'X3 tpX (PySem.W.mg_none_of X G suX) opX BX3 NX3,
      e_SplitSide := err_SplitSide (PySem.W.mg_of X G aX4) TX4 iX4 tiX4 lfX4 lcX4 h2X4 hfX4 lccX4 cc'X4 tpX (PySem.W.mg_none_of X G suX) opX BX4 NX4,
      e_UnknownSide := err_UnknownSide (PySem.W.mg_of X G aX5) TX5 iX5 tiX5 lfX5 lcX5 h2X5 hfX5 lccX5 cc'X5 tpX (PySem.W.mg_none_of X G suX) opX BX5 NX5,
      gd := fun i hi => match i, hi with | 0, _ => ⟨xfB_ok xfX0, emX0, NX0⟩ | 1, _ => ⟨xfB_ok xfX1, emX1, NX1⟩ | 2, _ => ⟨xfB_ok xfX2, emX2, NX2⟩ | 3, _ => ⟨xfB_ok xfX3, emX3, NX3⟩ | 4, _ => ⟨xfB_ok xfX4, emX4, NX4⟩ | 5, _ => ⟨xfB_ok xfX5, emX5, NX5⟩ | i + 6, h => absurd h (by omega) }
  refine ⟨PySem.W.fnOf "law" "law" (defArgs st_law) (defBody st_law) (defScope st_law) .none kV54 dc54 pm54 an54 (.ref cL54) ct54, [(cL54, PL54)], by simp, rfl, (by simp only [List.forall_mem_cons, List.not_mem_nil, false_imp_iff, implies_true, and_true]; exact ⟨nPL54, hdL54, "law", _, _, _, eL54, deL54, vsL54, sL54, rc54, PySem.W.mg_of X G a54, l54, rfl, rfl, lcL54, pL54⟩), fun s v => .of_eq rfl, fun base _ _ hT => ?_⟩
  have TB0 := hT (cL54, PL54) (by simp)
  have LK0 : DefL K "law" "law" (defArgs st_law) (defBody st_law) (defScope st_law) fa cL54 _ := ⟨⟨_, _, _, _, _, _, _, _, _, rfl, l54⟩, c54⟩
  have TF := try_mk (P := l.prog) (w := w) (base := base) T (PySem.W.mg_of X G aT) (PySem.W.mg_of X G ga) (PySem.W.mg_of X G gb) (PySem.W.mg_of X G gc) kT lT cT
  exact ok_law T (ER base) TF TB0 LK0
abbrev RW : PySem.W.OpenLaw := PySem.Challenge.rw_gustfloor_k12_tiles_refused
def ad_C0 (K : PySem.W.Frag) : Addr := He.ga K "Tile"
def ad_f0 (K : PySem.W.Frag) : Addr := He.ga K "is_number"
def ad_f1 (K : PySem.W.Frag) : Addr := He.ga K "is_name"
def ad_f2 (K : PySem.W.Frag) : Addr := He.ga K "is_point"
def ad_f3 (K : PySem.W.Frag) : Addr := He.ga K "is_wind"
def ad_f4 (K : PySem.W.Frag) : Addr := He.ga K "is_listed"
def ad_f5 (K : PySem.W.Frag) : Addr := He.ga K "cross"
def ad_f6 (K : PySem.W.Frag) : Addr := He.ga K "towards"
def ad_f7 (K : PySem.W.Frag) : Addr := He.ga K "turning"
def ad_f8 (K : PySem.W.Frag) : Addr := He.ga K "side_of"
def ad_f9 (K : PySem.W.Frag) : Addr := He.ga K "is_side"
def ad_f10 (K : PySem.W.Frag) : Addr := He.ga K "corner_pairs"
def ad_f11 (K : PySem.W.Frag) : Addr := He.ga K "check_corners"
def ad_f12 (K : PySem.W.Frag) : Addr := He.ga K "check_winds"
def ad_f22 (K : PySem.W.Frag) : Addr := He.ga K "_law_is_name"
def ad_f23 (K : PySem.W.Frag) : Addr := He.ga K "_law_is_dot"
def ad_f24 (K : PySem.W.Frag) : Addr := He.ga K "_law_border"
def ad_f25 (K : PySem.W.Frag) : Addr := He.ga K "_law_cross"
def ad_f26 (K : PySem.W.Frag) : Addr := He.ga K "_law_lead"
def ad_f27 (K : PySem.W.Frag) : Addr := He.ga K "_law_turn"
def ad_f28 (K : PySem.W.Frag) : Addr := He.ga K "_law_dots_due"
def ad_f29 (K : PySem.W.Frag) : Addr := He.ga K "_law_is_wind"
def ad_f30 (K : PySem.W.Frag) : Addr := He.ga K "_law_key"
def ad_f31 (K : PySem.W.Frag) : Addr := He.ga K "_law_winds_due"
def ad_f32 (K : PySem.W.Frag) : Addr := He.ga K "_law_tile_due"
def ad_f33 (K : PySem.W.Frag) : Addr := He.ga K "_law_start"
def ad_f34 (K : PySem.W.Frag) : Addr := He.ga K "_law_pull"
def ad_f35 (K : PySem.W.Frag) : Addr := He.ga K "_law_pick"
def ad_f36 (K : PySem.W.Frag) : Addr := He.ga K "_law_winds"
def ad_f37 (K : PySem.W.Frag) : Addr := He.ga K "_law_keys"
def ad_f38 (K : PySem.W.Frag) : Addr := He.ga K "_law_sort"
def ad_f39 (K : PySem.W.Frag) : Addr := He.ga K "_law_same"
def ad_f40 (K : PySem.W.Frag) : Addr := He.ga K "_law_lets"
def ad_f41 (K : PySem.W.Frag) : Addr := He.ga K "_law_tile_so"
def ad_f42 (K : PySem.W.Frag) : Addr := He.ga K "_law_fields"
def ad_f43 (K : PySem.W.Frag) : Addr := He.ga K "_law_shapes"
def ad_f44 (K : PySem.W.Frag) : Addr := He.ga K "_law_new_names"
def ad_f45 (K : PySem.W.Frag) : Addr := He.ga K "_law_moved"
def ad_f46 (K : PySem.W.Frag) : Addr := He.ga K "_law_shuffled"
def ad_f47 (K : PySem.W.Frag) : Addr := He.ga K "_law_finished"
def ad_f48 (K : PySem.W.Frag) : Addr := He.ga K "_law_quarter"
def ad_f49 (K : PySem.W.Frag) : Addr := He.ga K "_law_bordered"
def ad_f50 (K : PySem.W.Frag) : Addr := He.ga K "_law_grid"
def ad_f51 (K : PySem.W.Frag) : Addr := He.ga K "_law_drawn"
def ad_f52 (K : PySem.W.Frag) : Addr := He.ga K "_law_bent_dots"
def ad_f53 (K : PySem.W.Frag) : Addr := He.ga K "_law_bent_winds"
def ad_f54 (K : PySem.W.Frag) : Addr := He.ga K "law"
def ad_fT (K : PySem.W.Frag) : Addr := He.ga K "_law_try"
def ad_G1 (K : PySem.W.Frag) : Addr := He.ga K "GustError"
def ad_G2 (K : PySem.W.Frag) : Addr := He.ga K "Missing"
def ad_G3 (K : PySem.W.Frag) : Addr := He.ga K "NothingLeft"
def ad_CX0 (K : PySem.W.Frag) : Addr := He.ga K "InvalidName"
def ad_CX1 (K : PySem.W.Frag) : Addr := He.ga K "InvalidCorners"
def ad_CX2 (K : PySem.W.Frag) : Addr := He.ga K "NotConvex"
def ad_CX3 (K : PySem.W.Frag) : Addr := He.ga K "InvalidWinds"
def ad_CX4 (K : PySem.W.Frag) : Addr := He.ga K "SplitSide"
def ad_CX5 (K : PySem.W.Frag) : Addr := He.ga K "UnknownSide"
def ad_f13 (K : PySem.W.Frag) : Addr := He.ma K (ad_C0 K) "__init__"
def ad_p14 (K : PySem.W.Frag) : Addr := He.ma K (ad_C0 K) "label"
def ad_p15 (K : PySem.W.Frag) : Addr := He.ma K (ad_C0 K) "corners"
def ad_p16 (K : PySem.W.Frag) : Addr := He.ma K (ad_C0 K) "winds"
def ad_f17 (K : PySem.W.Frag) : Addr := He.ma K (ad_C0 K) "sides"
def ad_f18 (K : PySem.W.Frag) : Addr := He.ma K (ad_C0 K) "has_side"
def ad_f19 (K : PySem.W.Frag) : Addr := He.ma K (ad_C0 K) "lets_in"
def ad_f20 (K : PySem.W.Frag) : Addr := He.ma K (ad_C0 K) "__len__"
def ad_f21 (K : PySem.W.Frag) : Addr := He.ma K (ad_C0 K) "__repr__"
def ad_fX0 (K : PySem.W.Frag) : Addr := He.ma K (ad_CX0 K) "__init__"
def ad_fX1 (K : PySem.W.Frag) : Addr := He.ma K (ad_CX1 K) "__init__"
def ad_fX2 (K : PySem.W.Frag) : Addr := He.ma K (ad_CX2 K) "__init__"
def ad_fX3 (K : PySem.W.Frag) : Addr := He.ma K (ad_CX3 K) "__init__"
def ad_fX4 (K : PySem.W.Frag) : Addr := He.ma K (ad_CX4 K) "__init__"
def ad_fX5 (K : PySem.W.Frag) : Addr := He.ma K (ad_CX5 K) "__init__"
def ad_f14 (K : PySem.W.Frag) : Addr := HK.recAt K (ad_p14 K) "property"
def ad_f15 (K : PySem.W.Frag) : Addr := HK.recAt K (ad_p15 K) "property"
def ad_f16 (K : PySem.W.Frag) : Addr := HK.recAt K (ad_p16 K) "property"
def ad_cL54 (K : PySem.W.Frag) : Addr := HK.cdAt K (ad_f54 K)
def ad_cdX0 (K : PySem.W.Frag) : Addr := HK.cdAt K (ad_fX0 K)
def ad_ccX0 (K : PySem.W.Frag) : Addr := HK.ccAt K (ad_fX0 K)
def ad_cdX1 (K : PySem.W.Frag) : Addr := HK.cdAt K (ad_fX1 K)
def ad_ccX1 (K : PySem.W.Frag) : Addr := HK.ccAt K (ad_fX1 K)
def ad_cdX2 (K : PySem.W.Frag) : Addr := HK.cdAt K (ad_fX2 K)
def ad_ccX2 (K : PySem.W.Frag) : Addr := HK.ccAt K (ad_fX2 K)
def ad_cdX3 (K : PySem.W.Frag) : Addr := HK.cdAt K (ad_fX3 K)
def ad_ccX3 (K : PySem.W.Frag) : Addr := HK.ccAt K (ad_fX3 K)
def ad_cdX4 (K : PySem.W.Frag) : Addr := HK.cdAt K (ad_fX4 K)
def ad_ccX4 (K : PySem.W.Frag) : Addr := HK.ccAt K (ad_fX4 K)
def ad_cdX5 (K : PySem.W.Frag) : Addr := HK.cdAt K (ad_fX5 K)
def ad_ccX5 (K : PySem.W.Frag) : Addr := HK.ccAt K (ad_fX5 K)
def ad_PL54 (K : PySem.W.Frag) : Addr := HK.tbAt K (ad_cL54 K)
def fs0 : List (PySem.W.Frag → Bool) := [fun K => decide (PySem.W.nsIn K mainGlobals "Tile" = some (some (.ref (ad_C0 K)))),
  fun K => PySem.W.plainGet K (ad_C0 K) Str.empty,
  fun K => PySem.W.hasDictIn K (ad_C0 K),
  fun K => PySem.W.plainOver K (ad_C0 K),
  fun K => decide (PySem.W.findIn K (.ref (ad_C0 K)) "__setattr__" = some (some (.builtin "object.__setattr__"))),
  fun K => decide (PySem.W.findIn K (.ref (ad_C0 K)) "__class__" = some (some (.builtin "object.__class__"))),
  fun K => decide (PySem.W.mroIn K (ad_C0 K) (.type "object") = some true),
  fun K => PySem.W.isClsIn K (ad_C0 K),
  fun K => decide (PySem.W.typeIn K (.ref (ad_C0 K)) = some (.type "type")),
  fun K => PySem.W.selfFirst K (ad_C0 K),
  fun K => decide (PySem.W.subIn K (.type "NoneType") (.ref (ad_C0 K)) = some false),
  fun K => decide (PySem.W.subIn K (.type "bool") (.ref (ad_C0 K)) = some false),
  fun K => decide (PySem.W.subIn K (.type "int") (.ref (ad_C0 K)) = some false),
  fun K => decide (PySem.W.subIn K (.type "str") (.ref (ad_C0 K)) = some false),
  fun K => decide (PySem.W.subIn K (.type "list") (.ref (ad_C0 K)) = some false),
  fun K => decide (PySem.W.subIn K (.type "tuple") (.ref (ad_C0 K)) = some false),
  fun K => decide (PySem.W.subIn K (.ref (ad_C0 K)) (.type "bool") = some false),
  fun K => decide (PySem.W.subIn K (.ref (ad_C0 K)) (.type "int") = some false),
  fun K => decide (PySem.W.subIn K (.ref (ad_C0 K)) (.type "list") = some false),
  fun K => decide (PySem.W.subIn K (.ref (ad_C0 K)) (.type "str") = some false),
  fun K => decide (PySem.W.subIn K (.ref (ad_C0 K)) (.type "tuple") = some false),
  fun K => decide (PySem.W.specialIn K (.builtin "object.__class__") "__get__" = some (some (.builtin "getset_descriptor.__get__"))),
  fun K => decide (PySem.W.takesIn K (.builtin "object.__class__") = some true),
  fun K => decide (PySem.W.findIn K (.ref (ad_C0 K)) "inward" = some none),
  fun K => decide (PySem.W.findIn K (.ref (ad_C0 K)) "own_corners" = some none)]
def fs1 : List (PySem.W.Frag → Bool) := [fun K => decide (PySem.W.findIn K (.ref (ad_C0 K)) "own_name" = some none),
  fun K => decide (PySem.W.findIn K (.ref (ad_C0 K)) "own_winds" = some none),
  fun K => decide (PySem.W.nsIn K mainGlobals "is_number" = some (some (.ref (ad_f0 K)))),
  fun K => decide ((HK.fdAt K (ad_f0 K)).defaults = .none),
  fun K => PySem.W.keepIn K (.ref (ad_f0 K)),
  fun K => decide (PySem.W.nsIn K mainGlobals "is_name" = some (some (.ref (ad_f1 K)))),
  fun K => decide ((HK.fdAt K (ad_f1 K)).defaults = .none),
  fun K => PySem.W.keepIn K (.ref (ad_f1 K)),
  fun K => decide (PySem.W.nsIn K mainGlobals "is_point" = some (some (.ref (ad_f2 K)))),
  fun K => decide ((HK.fdAt K (ad_f2 K)).defaults = .none),
  fun K => PySem.W.keepIn K (.ref (ad_f2 K)),
  fun K => decide (PySem.W.nsIn K mainGlobals "is_wind" = some (some (.ref (ad_f3 K)))),
  fun K => decide ((HK.fdAt K (ad_f3 K)).defaults = .none),
  fun K => PySem.W.keepIn K (.ref (ad_f3 K)),
  fun K => decide (PySem.W.nsIn K mainGlobals "is_listed" = some (some (.ref (ad_f4 K)))),
  fun K => decide ((HK.fdAt K (ad_f4 K)).defaults = .none),
  fun K => PySem.W.keepIn K (.ref (ad_f4 K)),
  fun K => decide (PySem.W.nsIn K mainGlobals "cross" = some (some (.ref (ad_f5 K)))),
  fun K => decide ((HK.fdAt K (ad_f5 K)).defaults = .none),
  fun K => PySem.W.keepIn K (.ref (ad_f5 K)),
  fun K => decide (PySem.W.nsIn K mainGlobals "towards" = some (some (.ref (ad_f6 K)))),
  fun K => decide ((HK.fdAt K (ad_f6 K)).defaults = .none),
  fun K => PySem.W.keepIn K (.ref (ad_f6 K)),
  fun K => decide (PySem.W.nsIn K mainGlobals "turning" = some (some (.ref (ad_f7 K)))),
  fun K => decide ((HK.fdAt K (ad_f7 K)).defaults = .none)]
def fs2 : List (PySem.W.Frag → Bool) := [fun K => PySem.W.keepIn K (.ref (ad_f7 K)),
  fun K => decide (PySem.W.nsIn K mainGlobals "side_of" = some (some (.ref (ad_f8 K)))),
  fun K => decide ((HK.fdAt K (ad_f8 K)).defaults = .none),
  fun K => PySem.W.keepIn K (.ref (ad_f8 K)),
  fun K => decide (PySem.W.nsIn K mainGlobals "is_side" = some (some (.ref (ad_f9 K)))),
  fun K => decide ((HK.fdAt K (ad_f9 K)).defaults = .none),
  fun K => PySem.W.keepIn K (.ref (ad_f9 K)),
  fun K => decide (PySem.W.nsIn K mainGlobals "corner_pairs" = some (some (.ref (ad_f10 K)))),
  fun K => decide ((HK.fdAt K (ad_f10 K)).defaults = .none),
  fun K => PySem.W.keepIn K (.ref (ad_f10 K)),
  fun K => decide (PySem.W.nsIn K mainGlobals "check_corners" = some (some (.ref (ad_f11 K)))),
  fun K => decide ((HK.fdAt K (ad_f11 K)).defaults = .none),
  fun K => PySem.W.keepIn K (.ref (ad_f11 K)),
  fun K => decide (PySem.W.nsIn K mainGlobals "check_winds" = some (some (.ref (ad_f12 K)))),
  fun K => decide ((HK.fdAt K (ad_f12 K)).defaults = .none),
  fun K => PySem.W.keepIn K (.ref (ad_f12 K)),
  fun K => decide (PySem.W.findIn K (.ref (ad_C0 K)) "__init__" = some (some (.ref (ad_f13 K)))),
  fun K => PySem.W.isFn K (.ref (ad_f13 K)),
  fun K => decide ((HK.fdAt K (ad_f13 K)).defaults = .none),
  fun K => PySem.W.keepIn K (.ref (ad_f13 K)),
  fun K => decide (PySem.W.findIn K (.ref (ad_C0 K)) "label" = some (some (.ref (ad_p14 K)))),
  fun K => decide (PySem.W.specialIn K (.ref (ad_p14 K)) "__get__" = some (some (.builtin "property.__get__"))),
  fun K => decide (PySem.W.takesIn K (.ref (ad_p14 K)) = some true),
  fun K => decide (PySem.W.recIn K (ad_p14 K) "property" = some (.ref (ad_f14 K) :: (HK.recTl K (ad_p14 K) "property"))),
  fun K => decide ((HK.fdAt K (ad_f14 K)).defaults = .none)]
def fs3 : List (PySem.W.Frag → Bool) := [fun K => PySem.W.keepIn K (.ref (ad_f14 K)),
  fun K => decide (PySem.W.findIn K (.ref (ad_C0 K)) "corners" = some (some (.ref (ad_p15 K)))),
  fun K => decide (PySem.W.specialIn K (.ref (ad_p15 K)) "__get__" = some (some (.builtin "property.__get__"))),
  fun K => decide (PySem.W.takesIn K (.ref (ad_p15 K)) = some true),
  fun K => decide (PySem.W.recIn K (ad_p15 K) "property" = some (.ref (ad_f15 K) :: (HK.recTl K (ad_p15 K) "property"))),
  fun K => decide ((HK.fdAt K (ad_f15 K)).defaults = .none),
  fun K => PySem.W.keepIn K (.ref (ad_f15 K)),
  fun K => decide (PySem.W.findIn K (.ref (ad_C0 K)) "winds" = some (some (.ref (ad_p16 K)))),
  fun K => decide (PySem.W.specialIn K (.ref (ad_p16 K)) "__get__" = some (some (.builtin "property.__get__"))),
  fun K => decide (PySem.W.takesIn K (.ref (ad_p16 K)) = some true),
  fun K => decide (PySem.W.recIn K (ad_p16 K) "property" = some (.ref (ad_f16 K) :: (HK.recTl K (ad_p16 K) "property"))),
  fun K => decide ((HK.fdAt K (ad_f16 K)).defaults = .none),
  fun K => PySem.W.keepIn K (.ref (ad_f16 K)),
  fun K => decide (PySem.W.findIn K (.ref (ad_C0 K)) "sides" = some (some (.ref (ad_f17 K)))),
  fun K => PySem.W.isFn K (.ref (ad_f17 K)),
  fun K => decide ((HK.fdAt K (ad_f17 K)).defaults = .none),
  fun K => PySem.W.keepIn K (.ref (ad_f17 K)),
  fun K => decide (PySem.W.findIn K (.ref (ad_C0 K)) "has_side" = some (some (.ref (ad_f18 K)))),
  fun K => PySem.W.isFn K (.ref (ad_f18 K)),
  fun K => decide ((HK.fdAt K (ad_f18 K)).defaults = .none),
  fun K => PySem.W.keepIn K (.ref (ad_f18 K)),
  fun K => decide (PySem.W.findIn K (.ref (ad_C0 K)) "lets_in" = some (some (.ref (ad_f19 K)))),
  fun K => PySem.W.isFn K (.ref (ad_f19 K)),
  fun K => decide ((HK.fdAt K (ad_f19 K)).defaults = .none),
  fun K => PySem.W.keepIn K (.ref (ad_f19 K))]
def fs4 : List (PySem.W.Frag → Bool) := [fun K => decide (PySem.W.findIn K (.ref (ad_C0 K)) "__len__" = some (some (.ref (ad_f20 K)))),
  fun K => PySem.W.isFn K (.ref (ad_f20 K)),
  fun K => decide ((HK.fdAt K (ad_f20 K)).defaults = .none),
  fun K => PySem.W.keepIn K (.ref (ad_f20 K)),
  fun K => decide (PySem.W.findIn K (.ref (ad_C0 K)) "__repr__" = some (some (.ref (ad_f21 K)))),
  fun K => PySem.W.isFn K (.ref (ad_f21 K)),
  fun K => decide ((HK.fdAt K (ad_f21 K)).defaults = .none),
  fun K => PySem.W.keepIn K (.ref (ad_f21 K)),
  fun K => decide (PySem.W.nsIn K mainGlobals "_law_is_name" = some (some (.ref (ad_f22 K)))),
  fun K => decide ((HK.fdAt K (ad_f22 K)).defaults = .none),
  fun K => PySem.W.keepIn K (.ref (ad_f22 K)),
  fun K => decide (PySem.W.nsIn K mainGlobals "_law_is_dot" = some (some (.ref (ad_f23 K)))),
  fun K => decide ((HK.fdAt K (ad_f23 K)).defaults = .none),
  fun K => PySem.W.keepIn K (.ref (ad_f23 K)),
  fun K => decide (PySem.W.nsIn K mainGlobals "_law_border" = some (some (.ref (ad_f24 K)))),
  fun K => decide ((HK.fdAt K (ad_f24 K)).defaults = .none),
  fun K => PySem.W.keepIn K (.ref (ad_f24 K)),
  fun K => decide (PySem.W.nsIn K mainGlobals "_law_cross" = some (some (.ref (ad_f25 K)))),
  fun K => decide ((HK.fdAt K (ad_f25 K)).defaults = .none),
  fun K => PySem.W.keepIn K (.ref (ad_f25 K)),
  fun K => decide (PySem.W.nsIn K mainGlobals "_law_lead" = some (some (.ref (ad_f26 K)))),
  fun K => decide ((HK.fdAt K (ad_f26 K)).defaults = .none),
  fun K => PySem.W.keepIn K (.ref (ad_f26 K)),
  fun K => decide (PySem.W.nsIn K mainGlobals "_law_turn" = some (some (.ref (ad_f27 K)))),
  fun K => decide ((HK.fdAt K (ad_f27 K)).defaults = .none)]
def fs5 : List (PySem.W.Frag → Bool) := [fun K => PySem.W.keepIn K (.ref (ad_f27 K)),
  fun K => decide (PySem.W.nsIn K mainGlobals "_law_dots_due" = some (some (.ref (ad_f28 K)))),
  fun K => decide ((HK.fdAt K (ad_f28 K)).defaults = .none),
  fun K => PySem.W.keepIn K (.ref (ad_f28 K)),
  fun K => decide (PySem.W.nsIn K mainGlobals "_law_is_wind" = some (some (.ref (ad_f29 K)))),
  fun K => decide ((HK.fdAt K (ad_f29 K)).defaults = .none),
  fun K => PySem.W.keepIn K (.ref (ad_f29 K)),
  fun K => decide (PySem.W.nsIn K mainGlobals "_law_key" = some (some (.ref (ad_f30 K)))),
  fun K => decide ((HK.fdAt K (ad_f30 K)).defaults = .none),
  fun K => PySem.W.keepIn K (.ref (ad_f30 K)),
  fun K => decide (PySem.W.nsIn K mainGlobals "_law_winds_due" = some (some (.ref (ad_f31 K)))),
  fun K => decide ((HK.fdAt K (ad_f31 K)).defaults = .none),
  fun K => PySem.W.keepIn K (.ref (ad_f31 K)),
  fun K => decide (PySem.W.nsIn K mainGlobals "_law_tile_due" = some (some (.ref (ad_f32 K)))),
  fun K => decide ((HK.fdAt K (ad_f32 K)).defaults = .none),
  fun K => PySem.W.keepIn K (.ref (ad_f32 K)),
  fun K => decide (PySem.W.nsIn K mainGlobals "_law_start" = some (some (.ref (ad_f33 K)))),
  fun K => decide ((HK.fdAt K (ad_f33 K)).defaults = .none),
  fun K => PySem.W.keepIn K (.ref (ad_f33 K)),
  fun K => decide (PySem.W.nsIn K mainGlobals "_law_pull" = some (some (.ref (ad_f34 K)))),
  fun K => decide ((HK.fdAt K (ad_f34 K)).defaults = .none),
  fun K => PySem.W.keepIn K (.ref (ad_f34 K)),
  fun K => decide (PySem.W.nsIn K mainGlobals "_law_pick" = some (some (.ref (ad_f35 K)))),
  fun K => decide ((HK.fdAt K (ad_f35 K)).defaults = .none),
  fun K => PySem.W.keepIn K (.ref (ad_f35 K))]
def fs6 : List (PySem.W.Frag → Bool) := [fun K => decide (PySem.W.nsIn K mainGlobals "_law_winds" = some (some (.ref (ad_f36 K)))),
  fun K => decide ((HK.fdAt K (ad_f36 K)).defaults = .none),
  fun K => PySem.W.keepIn K (.ref (ad_f36 K)),
  fun K => decide (PySem.W.nsIn K mainGlobals "_law_keys" = some (some (.ref (ad_f37 K)))),
  fun K => decide ((HK.fdAt K (ad_f37 K)).defaults = .none),
  fun K => PySem.W.keepIn K (.ref (ad_f37 K)),
  fun K => decide (PySem.W.nsIn K mainGlobals "_law_sort" = some (some (.ref (ad_f38 K)))),
  fun K => decide ((HK.fdAt K (ad_f38 K)).defaults = .none),
  fun K => PySem.W.keepIn K (.ref (ad_f38 K)),
  fun K => decide (PySem.W.nsIn K mainGlobals "_law_same" = some (some (.ref (ad_f39 K)))),
  fun K => decide ((HK.fdAt K (ad_f39 K)).defaults = .none),
  fun K => PySem.W.keepIn K (.ref (ad_f39 K)),
  fun K => decide (PySem.W.nsIn K mainGlobals "_law_lets" = some (some (.ref (ad_f40 K)))),
  fun K => decide ((HK.fdAt K (ad_f40 K)).defaults = .none),
  fun K => PySem.W.keepIn K (.ref (ad_f40 K)),
  fun K => decide (PySem.W.nsIn K mainGlobals "_law_tile_so" = some (some (.ref (ad_f41 K)))),
  fun K => decide ((HK.fdAt K (ad_f41 K)).defaults = .none),
  fun K => PySem.W.keepIn K (.ref (ad_f41 K)),
  fun K => decide (PySem.W.nsIn K mainGlobals "_law_fields" = some (some (.ref (ad_f42 K)))),
  fun K => decide ((HK.fdAt K (ad_f42 K)).defaults = .none),
  fun K => PySem.W.keepIn K (.ref (ad_f42 K)),
  fun K => decide (PySem.W.nsIn K mainGlobals "_law_shapes" = some (some (.ref (ad_f43 K)))),
  fun K => decide ((HK.fdAt K (ad_f43 K)).defaults = .none),
  fun K => PySem.W.keepIn K (.ref (ad_f43 K)),
  fun K => decide (PySem.W.nsIn K mainGlobals "_law_new_names" = some (some (.ref (ad_f44 K))))]
def fs7 : List (PySem.W.Frag → Bool) := [fun K => decide ((HK.fdAt K (ad_f44 K)).defaults = .none),
  fun K => PySem.W.keepIn K (.ref (ad_f44 K)),
  fun K => decide (PySem.W.nsIn K mainGlobals "_law_moved" = some (some (.ref (ad_f45 K)))),
  fun K => decide ((HK.fdAt K (ad_f45 K)).defaults = .none),
  fun K => PySem.W.keepIn K (.ref (ad_f45 K)),
  fun K => decide (PySem.W.nsIn K mainGlobals "_law_shuffled" = some (some (.ref (ad_f46 K)))),
  fun K => decide ((HK.fdAt K (ad_f46 K)).defaults = .none),
  fun K => PySem.W.keepIn K (.ref (ad_f46 K)),
  fun K => decide (PySem.W.nsIn K mainGlobals "_law_finished" = some (some (.ref (ad_f47 K)))),
  fun K => decide ((HK.fdAt K (ad_f47 K)).defaults = .none),
  fun K => PySem.W.keepIn K (.ref (ad_f47 K)),
  fun K => decide (PySem.W.nsIn K mainGlobals "_law_quarter" = some (some (.ref (ad_f48 K)))),
  fun K => decide ((HK.fdAt K (ad_f48 K)).defaults = .none),
  fun K => PySem.W.keepIn K (.ref (ad_f48 K)),
  fun K => decide (PySem.W.nsIn K mainGlobals "_law_bordered" = some (some (.ref (ad_f49 K)))),
  fun K => decide ((HK.fdAt K (ad_f49 K)).defaults = .none),
  fun K => PySem.W.keepIn K (.ref (ad_f49 K)),
  fun K => decide (PySem.W.nsIn K mainGlobals "_law_grid" = some (some (.ref (ad_f50 K)))),
  fun K => decide ((HK.fdAt K (ad_f50 K)).defaults = .none),
  fun K => PySem.W.keepIn K (.ref (ad_f50 K)),
  fun K => decide (PySem.W.nsIn K mainGlobals "_law_drawn" = some (some (.ref (ad_f51 K)))),
  fun K => decide ((HK.fdAt K (ad_f51 K)).defaults = .none),
  fun K => PySem.W.keepIn K (.ref (ad_f51 K)),
  fun K => decide (PySem.W.nsIn K mainGlobals "_law_bent_dots" = some (some (.ref (ad_f52 K)))),
  fun K => decide ((HK.fdAt K (ad_f52 K)).defaults = .none)]
def fs8 : List (PySem.W.Frag → Bool) := [fun K => PySem.W.keepIn K (.ref (ad_f52 K)),
  fun K => decide (PySem.W.nsIn K mainGlobals "_law_bent_winds" = some (some (.ref (ad_f53 K)))),
  fun K => decide ((HK.fdAt K (ad_f53 K)).defaults = .none),
  fun K => PySem.W.keepIn K (.ref (ad_f53 K)),
  fun K => decide (PySem.W.nsIn K mainGlobals "law" = some (some (.ref (ad_f54 K)))),
  fun K => decide ((HK.fdAt K (ad_f54 K)).defaults = .none),
  fun K => decide ((HK.fdAt K (ad_f54 K)).code = (.ref (ad_cL54 K))),
  fun K => PySem.W.keepIn K (.ref (ad_f54 K)),
  fun K => PySem.W.makesIn K (ad_C0 K),
  fun K => PySem.W.keepIn K (.ref (ad_C0 K)),
  fun K => decide (PySem.W.nsIn K mainGlobals "abs" = some none),
  fun K => decide (PySem.W.nsIn K mainGlobals "all" = some none),
  fun K => decide (PySem.W.nsIn K mainGlobals "bool" = some none),
  fun K => decide (PySem.W.nsIn K mainGlobals "enumerate" = some none),
  fun K => decide (PySem.W.nsIn K mainGlobals "int" = some none),
  fun K => decide (PySem.W.nsIn K mainGlobals "isinstance" = some none),
  fun K => decide (PySem.W.nsIn K mainGlobals "len" = some none),
  fun K => decide (PySem.W.nsIn K mainGlobals "list" = some none),
  fun K => decide (PySem.W.nsIn K mainGlobals "max" = some none),
  fun K => decide (PySem.W.nsIn K mainGlobals "min" = some none),
  fun K => decide (PySem.W.nsIn K mainGlobals "range" = some none),
  fun K => decide (PySem.W.nsIn K mainGlobals "repr" = some none),
  fun K => decide (PySem.W.nsIn K mainGlobals "str" = some none),
  fun K => decide (PySem.W.nsIn K mainGlobals "tuple" = some none),
  fun K => decide (PySem.W.nsIn K mainGlobals "zip" = some none)]
def fs9 : List (PySem.W.Frag → Bool) := [fun K => decide (PySem.W.nsIn K mainGlobals "FARTHEST" = some (some (.int 1000000 (HK.tkV (HK.nsV K mainGlobals "FARTHEST"))))),
  fun K => decide (PySem.W.nsIn K mainGlobals "FEWEST" = some (some (.int 3 (HK.tkV (HK.nsV K mainGlobals "FEWEST"))))),
  fun K => decide (PySem.W.nsIn K mainGlobals "LETTERS" = some (some (.str "abcdefghijklmnopqrstuvwxyz" (HK.tkV (HK.nsV K mainGlobals "LETTERS"))))),
  fun K => decide (PySem.W.nsIn K mainGlobals "LONGEST_NAME" = some (some (.int 8 (HK.tkV (HK.nsV K mainGlobals "LONGEST_NAME"))))),
  fun K => decide (PySem.W.nsIn K mainGlobals "MOST_CORNERS" = some (some (.int 8 (HK.tkV (HK.nsV K mainGlobals "MOST_CORNERS"))))),
  fun K => HK.isFields K (ad_cL54 K),
  fun K => decide (((HK.fsAt K (ad_cL54 K))[11]? : Option Value) = some (.ref (ad_PL54 K))),
  fun K => (K.lookup (ad_PL54 K)).isNone,
  fun K => PySem.W.codeHdIn K (ad_cL54 K) (ad_PL54 K),
  fun K => decide (PySem.W.nsIn K mainGlobals "_law_try" = some (some (.ref (ad_fT K)))),
  fun K => PySem.W.keepIn K (.ref (ad_fT K)),
  fun K => decide ((HK.fdAt K (ad_fT K)).defaults = .none),
  fun K => decide (PySem.W.nsIn K mainGlobals "GustError" = some (some (.ref (ad_G1 K)))),
  fun K => decide (PySem.W.nsIn K mainGlobals "Missing" = some (some (.ref (ad_G2 K)))),
  fun K => decide (PySem.W.nsIn K mainGlobals "NothingLeft" = some (some (.ref (ad_G3 K)))),
  fun K => decide (PySem.W.nsIn K mainGlobals "super" = some none),
  fun K => decide (PySem.W.nsIn K cStatics "thirdparty.any" = some none),
  fun K => decide (PySem.W.nsIn K mainGlobals "InvalidName" = some (some (.ref (ad_CX0 K)))),
  fun K => HK.exB K (ad_CX0 K) [.type "ValueError", .type "Exception", .type "BaseException", .type "object"] "ValueError.__new__",
  fun K => oxB K "ValueError" (ad_CX0 K),
  fun K => decide (PySem.W.findIn K (.ref (ad_CX0 K)) "__init__" = some (some (.ref (ad_fX0 K)))),
  fun K => decide (PySem.W.typeIn K (.ref (ad_fX0 K)) = some (.type "function")),
  fun K => decide ((HK.fdAt K (ad_fX0 K)).defaults = .none),
  fun K => decide ((HK.fdAt K (ad_fX0 K)).code = (.ref (ad_cdX0 K))),
  fun K => HK.isFields K (ad_cdX0 K)]
def fs10 : List (PySem.W.Frag → Bool) := [fun K => HK.fileB K (RW.prog.main.file : Str) (ad_cdX0 K),
  fun K => HK.cellB K (ad_ccX0 K) (ad_CX0 K),
  fun K => xfB K (ad_CX0 K),
  fun K => noB K (ad_CX0 K) NOSX,
  fun K => decide (PySem.W.exmAny K (.ref (ad_CX0 K)) [.ref (ad_G1 K), .ref (ad_G2 K), .ref (ad_G3 K)] = some true),
  fun K => decide (PySem.W.nsIn K mainGlobals "InvalidCorners" = some (some (.ref (ad_CX1 K)))),
  fun K => HK.exB K (ad_CX1 K) [.type "ValueError", .type "Exception", .type "BaseException", .type "object"] "ValueError.__new__",
  fun K => oxB K "ValueError" (ad_CX1 K),
  fun K => decide (PySem.W.findIn K (.ref (ad_CX1 K)) "__init__" = some (some (.ref (ad_fX1 K)))),
  fun K => decide (PySem.W.typeIn K (.ref (ad_fX1 K)) = some (.type "function")),
  fun K => decide ((HK.fdAt K (ad_fX1 K)).defaults = .none),
  fun K => decide ((HK.fdAt K (ad_fX1 K)).code = (.ref (ad_cdX1 K))),
  fun K => HK.isFields K (ad_cdX1 K),
  fun K => HK.fileB K (RW.prog.main.file : Str) (ad_cdX1 K),
  fun K => HK.cellB K (ad_ccX1 K) (ad_CX1 K),
  fun K => xfB K (ad_CX1 K),
  fun K => noB K (ad_CX1 K) NOSX,
  fun K => decide (PySem.W.exmAny K (.ref (ad_CX1 K)) [.ref (ad_G1 K), .ref (ad_G2 K), .ref (ad_G3 K)] = some true),
  fun K => decide (PySem.W.nsIn K mainGlobals "NotConvex" = some (some (.ref (ad_CX2 K)))),
  fun K => HK.exB K (ad_CX2 K) [.type "ValueError", .type "Exception", .type "BaseException", .type "object"] "ValueError.__new__",
  fun K => oxB K "ValueError" (ad_CX2 K),
  fun K => decide (PySem.W.findIn K (.ref (ad_CX2 K)) "__init__" = some (some (.ref (ad_fX2 K)))),
  fun K => decide (PySem.W.typeIn K (.ref (ad_fX2 K)) = some (.type "function")),
  fun K => decide ((HK.fdAt K (ad_fX2 K)).defaults = .none),
  fun K => decide ((HK.fdAt K (ad_fX2 K)).code = (.ref (ad_cdX2 K)))]
def fs11 : List (PySem.W.Frag → Bool) := [fun K => HK.isFields K (ad_cdX2 K),
  fun K => HK.fileB K (RW.prog.main.file : Str) (ad_cdX2 K),
  fun K => HK.cellB K (ad_ccX2 K) (ad_CX2 K),
  fun K => xfB K (ad_CX2 K),
  fun K => noB K (ad_CX2 K) NOSX,
  fun K => decide (PySem.W.exmAny K (.ref (ad_CX2 K)) [.ref (ad_G1 K), .ref (ad_G2 K), .ref (ad_G3 K)] = some true),
  fun K => decide (PySem.W.nsIn K mainGlobals "InvalidWinds" = some (some (.ref (ad_CX3 K)))),
  fun K => HK.exB K (ad_CX3 K) [.type "ValueError", .type "Exception", .type "BaseException", .type "object"] "ValueError.__new__",
  fun K => oxB K "ValueError" (ad_CX3 K),
  fun K => decide (PySem.W.findIn K (.ref (ad_CX3 K)) "__init__" = some (some (.ref (ad_fX3 K)))),
  fun K => decide (PySem.W.typeIn K (.ref (ad_fX3 K)) = some (.type "function")),
  fun K => decide ((HK.fdAt K (ad_fX3 K)).defaults = .none),
  fun K => decide ((HK.fdAt K (ad_fX3 K)).code = (.ref (ad_cdX3 K))),
  fun K => HK.isFields K (ad_cdX3 K),
  fun K => HK.fileB K (RW.prog.main.file : Str) (ad_cdX3 K),
  fun K => HK.cellB K (ad_ccX3 K) (ad_CX3 K),
  fun K => xfB K (ad_CX3 K),
  fun K => noB K (ad_CX3 K) NOSX,
  fun K => decide (PySem.W.exmAny K (.ref (ad_CX3 K)) [.ref (ad_G1 K), .ref (ad_G2 K), .ref (ad_G3 K)] = some true),
  fun K => decide (PySem.W.nsIn K mainGlobals "SplitSide" = some (some (.ref (ad_CX4 K)))),
  fun K => HK.exB K (ad_CX4 K) [.type "ValueError", .type "Exception", .type "BaseException", .type "object"] "ValueError.__new__",
  fun K => oxB K "ValueError" (ad_CX4 K),
  fun K => decide (PySem.W.findIn K (.ref (ad_CX4 K)) "__init__" = some (some (.ref (ad_fX4 K)))),
  fun K => decide (PySem.W.typeIn K (.ref (ad_fX4 K)) = some (.type "function")),
  fun K => decide ((HK.fdAt K (ad_fX4 K)).defaults = .none)]
def fs12 : List (PySem.W.Frag → Bool) := [fun K => decide ((HK.fdAt K (ad_fX4 K)).code = (.ref (ad_cdX4 K))),
  fun K => HK.isFields K (ad_cdX4 K),
  fun K => HK.fileB K (RW.prog.main.file : Str) (ad_cdX4 K),
  fun K => HK.cellB K (ad_ccX4 K) (ad_CX4 K),
  fun K => xfB K (ad_CX4 K),
  fun K => noB K (ad_CX4 K) NOSX,
  fun K => decide (PySem.W.exmAny K (.ref (ad_CX4 K)) [.ref (ad_G1 K), .ref (ad_G2 K), .ref (ad_G3 K)] = some true),
  fun K => decide (PySem.W.nsIn K mainGlobals "UnknownSide" = some (some (.ref (ad_CX5 K)))),
  fun K => HK.exB K (ad_CX5 K) [.type "LookupError", .type "Exception", .type "BaseException", .type "object"] "LookupError.__new__",
  fun K => oxB K "LookupError" (ad_CX5 K),
  fun K => decide (PySem.W.findIn K (.ref (ad_CX5 K)) "__init__" = some (some (.ref (ad_fX5 K)))),
  fun K => decide (PySem.W.typeIn K (.ref (ad_fX5 K)) = some (.type "function")),
  fun K => decide ((HK.fdAt K (ad_fX5 K)).defaults = .none),
  fun K => decide ((HK.fdAt K (ad_fX5 K)).code = (.ref (ad_cdX5 K))),
  fun K => HK.isFields K (ad_cdX5 K),
  fun K => HK.fileB K (RW.prog.main.file : Str) (ad_cdX5 K),
  fun K => HK.cellB K (ad_ccX5 K) (ad_CX5 K),
  fun K => xfB K (ad_CX5 K),
  fun K => noB K (ad_CX5 K) NOSX,
  fun K => decide (PySem.W.exmAny K (.ref (ad_CX5 K)) [.ref (ad_G1 K), .ref (ad_G2 K), .ref (ad_G3 K)] = some true)]
def fs : List (List (PySem.W.Frag → Bool)) := [fs0, fs1, fs2, fs3, fs4, fs5, fs6, fs7, fs8, fs9, fs10, fs11, fs12]
def dfs : List HK.Df := [⟨ad_f0, "is_number", "is_number", defArgs st_is_number, defBody st_is_number, defScope st_is_number, []⟩,
  ⟨ad_f1, "is_name", "is_name", defArgs st_is_name, defBody st_is_name, defScope st_is_name, []⟩,
  ⟨ad_f2, "is_point", "is_point", defArgs st_is_point, defBody st_is_point, defScope st_is_point, []⟩,
  ⟨ad_f3, "is_wind", "is_wind", defArgs st_is_wind, defBody st_is_wind, defScope st_is_wind, []⟩,
  ⟨ad_f4, "is_listed", "is_listed", defArgs st_is_listed, defBody st_is_listed, defScope st_is_listed, []⟩,
  ⟨ad_f5, "cross", "cross", defArgs st_cross, defBody st_cross, defScope st_cross, []⟩,
  ⟨ad_f6, "towards", "towards", defArgs st_towards, defBody st_towards, defScope st_towards, []⟩,
  ⟨ad_f7, "turning", "turning", defArgs st_turning, defBody st_turning, defScope st_turning, []⟩,
  ⟨ad_f8, "side_of", "side_of", defArgs st_side_of, defBody st_side_of, defScope st_side_of, []⟩,
  ⟨ad_f9, "is_side", "is_side", defArgs st_is_side, defBody st_is_side, defScope st_is_side, []⟩,
  ⟨ad_f10, "corner_pairs", "corner_pairs", defArgs st_corner_pairs, defBody st_corner_pairs, defScope st_corner_pairs, []⟩,
  ⟨ad_f11, "check_corners", "check_corners", defArgs st_check_corners, defBody st_check_corners, defScope st_check_corners, []⟩,
  ⟨ad_f12, "check_winds", "check_winds", defArgs st_check_winds, defBody st_check_winds, defScope st_check_winds, []⟩,
  ⟨ad_f13, "__init__", "Tile.__init__", defArgs st_Tile___init__, defBody st_Tile___init__, defScope st_Tile___init__, []⟩,
  ⟨ad_f14, "label", "Tile.label", defArgs st_Tile_label, defBody st_Tile_label, defScope st_Tile_label, []⟩,
  ⟨ad_f15, "corners", "Tile.corners", defArgs st_Tile_corners, defBody st_Tile_corners, defScope st_Tile_corners, []⟩,
  ⟨ad_f16, "winds", "Tile.winds", defArgs st_Tile_winds, defBody st_Tile_winds, defScope st_Tile_winds, []⟩,
  ⟨ad_f17, "sides", "Tile.sides", defArgs st_Tile_sides, defBody st_Tile_sides, defScope st_Tile_sides, []⟩,
  ⟨ad_f18, "has_side", "Tile.has_side", defArgs st_Tile_has_side, defBody st_Tile_has_side, defScope st_Tile_has_side, []⟩,
  ⟨ad_f19, "lets_in", "Tile.lets_in", defArgs st_Tile_lets_in, defBody st_Tile_lets_in, defScope st_Tile_lets_in, []⟩,
  ⟨ad_f20, "__len__", "Tile.__len__", defArgs st_Tile___len__, defBody st_Tile___len__, defScope st_Tile___len__, []⟩,
  ⟨ad_f21, "__repr__", "Tile.__repr__", defArgs st_Tile___repr__, defBody st_Tile___repr__, defScope st_Tile___repr__, []⟩,
  ⟨ad_f22, "_law_is_name", "_law_is_name", defArgs st__law_is_name, defBody st__law_is_name, defScope st__law_is_name, []⟩,
  ⟨ad_f23, "_law_is_dot", "_law_is_dot", defArgs st__law_is_dot, defBody st__law_is_dot, defScope st__law_is_dot, []⟩,
  ⟨ad_f24, "_law_border", "_law_border", defArgs st__law_border, defBody st__law_border, defScope st__law_border, []⟩,
  ⟨ad_f25, "_law_cross", "_law_cross", defArgs st__law_cross, defBody st__law_cross, defScope st__law_cross, []⟩,
  ⟨ad_f26, "_law_lead", "_law_lead", defArgs st__law_lead, defBody st__law_lead, defScope st__law_lead, []⟩,
  ⟨ad_f27, "_law_turn", "_law_turn", defArgs st__law_turn, defBody st__law_turn, defScope st__law_turn, []⟩,
  ⟨ad_f28, "_law_dots_due", "_law_dots_due", defArgs st__law_dots_due, defBody st__law_dots_due, defScope st__law_dots_due, []⟩,
  ⟨ad_f29, "_law_is_wind", "_law_is_wind", defArgs st__law_is_wind, defBody st__law_is_wind, defScope st__law_is_wind, []⟩,
  ⟨ad_f30, "_law_key", "_law_key", defArgs st__law_key, defBody st__law_key, defScope st__law_key, []⟩,
  ⟨ad_f31, "_law_winds_due", "_law_winds_due", defArgs st__law_winds_due, defBody st__law_winds_due, defScope st__law_winds_due, []⟩,
  ⟨ad_f32, "_law_tile_due", "_law_tile_due", defArgs st__law_tile_due, defBody st__law_tile_due, defScope st__law_tile_due, []⟩,
  ⟨ad_f33, "_law_start", "_law_start", defArgs st__law_start, defBody st__law_start, defScope st__law_start, []⟩,
  ⟨ad_f34, "_law_pull", "_law_pull", defArgs st__law_pull, defBody st__law_pull, defScope st__law_pull, []⟩,
  ⟨ad_f35, "_law_pick", "_law_pick", defArgs st__law_pick, defBody st__law_pick, defScope st__law_pick, []⟩,
  ⟨ad_f36, "_law_winds", "_law_winds", defArgs st__law_winds, defBody st__law_winds, defScope st__law_winds, []⟩,
  ⟨ad_f37, "_law_keys", "_law_keys", defArgs st__law_keys, defBody st__law_keys, defScope st__law_keys, []⟩,
  ⟨ad_f38, "_law_sort", "_law_sort", defArgs st__law_sort, defBody st__law_sort, defScope st__law_sort, []⟩,
  ⟨ad_f39, "_law_same", "_law_same", defArgs st__law_same, defBody st__law_same, defScope st__law_same, []⟩,
  ⟨ad_f40, "_law_lets", "_law_lets", defArgs st__law_lets, defBody st__law_lets, defScope st__law_lets, []⟩,
  ⟨ad_f41, "_law_tile_so", "_law_tile_so", defArgs st__law_tile_so, defBody st__law_tile_so, defScope st__law_tile_so, []⟩,
  ⟨ad_f42, "_law_fields", "_law_fields", defArgs st__law_fields, defBody st__law_fields, defScope st__law_fields, []⟩,
  ⟨ad_f43, "_law_shapes", "_law_shapes", defArgs st__law_shapes, defBody st__law_shapes, defScope st__law_shapes, []⟩,
  ⟨ad_f44, "_law_new_names", "_law_new_names", defArgs st__law_new_names, defBody st__law_new_names, defScope st__law_new_names, []⟩,
  ⟨ad_f45, "_law_moved", "_law_moved", defArgs st__law_moved, defBody st__law_moved, defScope st__law_moved, []⟩,
  ⟨ad_f46, "_law_shuffled", "_law_shuffled", defArgs st__law_shuffled, defBody st__law_shuffled, defScope st__law_shuffled, []⟩,
  ⟨ad_f47, "_law_finished", "_law_finished", defArgs st__law_finished, defBody st__law_finished, defScope st__law_finished, []⟩,
  ⟨ad_f48, "_law_quarter", "_law_quarter", defArgs st__law_quarter, defBody st__law_quarter, defScope st__law_quarter, []⟩,
  ⟨ad_f49, "_law_bordered", "_law_bordered", defArgs st__law_bordered, defBody st__law_bordered, defScope st__law_bordered, []⟩,
  ⟨ad_f50, "_law_grid", "_law_grid", defArgs st__law_grid, defBody st__law_grid, defScope st__law_grid, []⟩,
  ⟨ad_f51, "_law_drawn", "_law_drawn", defArgs st__law_drawn, defBody st__law_drawn, defScope st__law_drawn, []⟩,
  ⟨ad_f52, "_law_bent_dots", "_law_bent_dots", defArgs st__law_bent_dots, defBody st__law_bent_dots, defScope st__law_bent_dots, []⟩,
  ⟨ad_f53, "_law_bent_winds", "_law_bent_winds", defArgs st__law_bent_winds, defBody st__law_bent_winds, defScope st__law_bent_winds, []⟩,
  ⟨ad_f54, "law", "law", defArgs st_law, defBody st_law, defScope st_law, []⟩,
  ⟨ad_fT, "_law_try", "_law_try", defArgs st__law_try, defBody st__law_try, defScope st__law_try, []⟩,
  ⟨ad_fX0, "__init__", "InvalidName.__init__", defArgs st_InvalidName___init__, defBody st_InvalidName___init__, defScope st_InvalidName___init__, ["__class__"]⟩,
  ⟨ad_fX1, "__init__", "InvalidCorners.__init__", defArgs st_InvalidCorners___init__, defBody st_InvalidCorners___init__, defScope st_InvalidCorners___init__, ["__class__"]⟩,
  ⟨ad_fX2, "__init__", "NotConvex.__init__", defArgs st_NotConvex___init__, defBody st_NotConvex___init__, defScope st_NotConvex___init__, ["__class__"]⟩,
  ⟨ad_fX3, "__init__", "InvalidWinds.__init__", defArgs st_InvalidWinds___init__, defBody st_InvalidWinds___init__, defScope st_InvalidWinds___init__, ["__class__"]⟩,
  ⟨ad_fX4, "__init__", "SplitSide.__init__", defArgs st_SplitSide___init__, defBody st_SplitSide___init__, defScope st_SplitSide___init__, ["__class__"]⟩,
  ⟨ad_fX5, "__init__", "UnknownSide.__init__", defArgs st_UnknownSide___init__, defBody st_UnknownSide___init__, defScope st_UnknownSide___init__, ["__class__"]⟩]
section
variable {K : PySem.W.Frag}
theorem fa_aC0 (c : HK.Says fs dfs K) : PySem.W.nsIn K mainGlobals "Tile" = some (some (.ref (ad_C0 K))) := HK.dB (c.fact 0 0 rfl rfl)
theorem fa_pg0 (c : HK.Says fs dfs K) : PySem.W.plainGet K (ad_C0 K) Str.empty = true := (c.fact 0 1 rfl rfl)
theorem fa_hd0 (c : HK.Says fs dfs K) : PySem.W.hasDictIn K (ad_C0 K) = true := (c.fact 0 2 rfl rfl)
theorem fa_po0 (c : HK.Says fs dfs K) : PySem.W.plainOver K (ad_C0 K) = true := (c.fact 0 3 rfl rfl)
theorem fa_sa0 (c : HK.Says fs dfs K) : PySem.W.findIn K (.ref (ad_C0 K)) "__setattr__" = some (some (.builtin "object.__setattr__")) := HK.dB (c.fact 0 4 rfl rfl)
theorem fa_ha0 (c : HK.Says fs dfs K) : PySem.W.findIn K (.ref (ad_C0 K)) "__class__" = some (some (.builtin "object.__class__")) := HK.dB (c.fact 0 5 rfl rfl)
theorem fa_hm0 (c : HK.Says fs dfs K) : PySem.W.mroIn K (ad_C0 K) (.type "object") = some true := HK.dB (c.fact 0 6 rfl rfl)
theorem fa_ic0 (c : HK.Says fs dfs K) : PySem.W.isClsIn K (ad_C0 K) = true := (c.fact 0 7 rfl rfl)
theorem fa_ty0 (c : HK.Says fs dfs K) : PySem.W.typeIn K (.ref (ad_C0 K)) = some (.type "type") := HK.dB (c.fact 0 8 rfl rfl)
theorem fa_sf0 (c : HK.Says fs dfs K) : PySem.W.selfFirst K (ad_C0 K) = true := (c.fact 0 9 rfl rfl)
theorem fa_kb0_non (c : HK.Says fs dfs K) : PySem.W.subIn K (.type "NoneType") (.ref (ad_C0 K)) = some false := HK.dB (c.fact 0 10 rfl rfl)
theorem fa_kb0_bl (c : HK.Says fs dfs K) : PySem.W.subIn K (.type "bool") (.ref (ad_C0 K)) = some false := HK.dB (c.fact 0 11 rfl rfl)
theorem fa_kb0_int (c : HK.Says fs dfs K) : PySem.W.subIn K (.type "int") (.ref (ad_C0 K)) = some false := HK.dB (c.fact 0 12 rfl rfl)
theorem fa_kb0_str (c : HK.Says fs dfs K) : PySem.W.subIn K (.type "str") (.ref (ad_C0 K)) = some false := HK.dB (c.fact 0 13 rfl rfl)
theorem fa_kb0_lst (c : HK.Says fs dfs K) : PySem.W.subIn K (.type "list") (.ref (ad_C0 K)) = some false := HK.dB (c.fact 0 14 rfl rfl)
theorem fa_kb0_tup (c : HK.Says fs dfs K) : PySem.W.subIn K (.type "tuple") (.ref (ad_C0 K)) = some false := HK.dB (c.fact 0 15 rfl rfl)
theorem fa_ki0_bool (c : HK.Says fs dfs K) : PySem.W.subIn K (.ref (ad_C0 K)) (.type "bool") = some false := HK.dB (c.fact 0 16 rfl rfl)
theorem fa_ki0_int (c : HK.Says fs dfs K) : PySem.W.subIn K (.ref (ad_C0 K)) (.type "int") = some false := HK.dB (c.fact 0 17 rfl rfl)
theorem fa_ki0_list (c : HK.Says fs dfs K) : PySem.W.subIn K (.ref (ad_C0 K)) (.type "list") = some false := HK.dB (c.fact 0 18 rfl rfl)
theorem fa_ki0_str (c : HK.Says fs dfs K) : PySem.W.subIn K (.ref (ad_C0 K)) (.type "str") = some false := HK.dB (c.fact 0 19 rfl rfl)
theorem fa_ki0_tuple (c : HK.Says fs dfs K) : PySem.W.subIn K (.ref (ad_C0 K)) (.type "tuple") = some false := HK.dB (c.fact 0 20 rfl rfl)
theorem fa_hn (c : HK.Says fs dfs K) : PySem.W.specialIn K (.builtin "object.__class__") "__get__" = some (some (.builtin "getset_descriptor.__get__")) := HK.dB (c.fact 0 21 rfl rfl)
theorem fa_htk (c : HK.Says fs dfs K) : PySem.W.takesIn K (.builtin "object.__class__") = some true := HK.dB (c.fact 0 22 rfl rfl)
theorem fa_na_Tile_inward (c : HK.Says fs dfs K) : PySem.W.findIn K (.ref (ad_C0 K)) "inward" = some none := HK.dB (c.fact 0 23 rfl rfl)
theorem fa_na_Tile_own_corners (c : HK.Says fs dfs K) : PySem.W.findIn K (.ref (ad_C0 K)) "own_corners" = some none := HK.dB (c.fact 0 24 rfl rfl)
theorem fa_na_Tile_own_name (c : HK.Says fs dfs K) : PySem.W.findIn K (.ref (ad_C0 K)) "own_name" = some none := HK.dB (c.fact 1 0 rfl rfl)
theorem fa_na_Tile_own_winds (c : HK.Says fs dfs K) : PySem.W.findIn K (.ref (ad_C0 K)) "own_winds" = some none := HK.dB (c.fact 1 1 rfl rfl)
theorem fa_a0 (c : HK.Says fs dfs K) : PySem.W.nsIn K mainGlobals "is_number" = some (some (.ref (ad_f0 K))) := HK.dB (c.fact 1 2 rfl rfl)
theorem ex_l0 (c : HK.Says fs dfs K) : (∃ oc od osl doc pm an ct, K.lookup (ad_f0 K) = some ⟨oc, od, .func (PySem.W.fnOf "is_number" "is_number" (defArgs st_is_number) (defBody st_is_number) (defScope st_is_number) .none (HK.fdAt K (ad_f0 K)).kwdefaults doc pm an (HK.fdAt K (ad_f0 K)).code ct), osl⟩) ∧ PySem.W.codeIn K (HK.fdAt K (ad_f0 K)).code "is_number" = true := c.fn 0 (dV := .none) (kV := (HK.fdAt K (ad_f0 K)).kwdefaults) (cdv := (HK.fdAt K (ad_f0 K)).code) rfl rfl (HK.dB (c.fact 1 3 rfl rfl)) rfl rfl
theorem fa_k0 (c : HK.Says fs dfs K) : PySem.W.keepIn K (.ref (ad_f0 K)) = true := (c.fact 1 4 rfl rfl)
theorem fa_a1 (c : HK.Says fs dfs K) : PySem.W.nsIn K mainGlobals "is_name" = some (some (.ref (ad_f1 K))) := HK.dB (c.fact 1 5 rfl rfl)
theorem ex_l1 (c : HK.Says fs dfs K) : (∃ oc od osl doc pm an ct, K.lookup (ad_f1 K) = some ⟨oc, od, .func (PySem.W.fnOf "is_name" "is_name" (defArgs st_is_name) (defBody st_is_name) (defScope st_is_name) .none (HK.fdAt K (ad_f1 K)).kwdefaults doc pm an (HK.fdAt K (ad_f1 K)).code ct), osl⟩) ∧ PySem.W.codeIn K (HK.fdAt K (ad_f1 K)).code "is_name" = true := c.fn 1 (dV := .none) (kV := (HK.fdAt K (ad_f1 K)).kwdefaults) (cdv := (HK.fdAt K (ad_f1 K)).code) rfl rfl (HK.dB (c.fact 1 6 rfl rfl)) rfl rfl
theorem fa_k1 (c : HK.Says fs dfs K) : PySem.W.keepIn K (.ref (ad_f1 K)) = true := (c.fact 1 7 rfl rfl)
theorem fa_a2 (c : HK.Says fs dfs K) : PySem.W.nsIn K mainGlobals "is_point" = some (some (.ref (ad_f2 K))) := HK.dB (c.fact 1 8 rfl rfl)
theorem ex_l2 (c : HK.Says fs dfs K) : (∃ oc od osl doc pm an ct, K.lookup (ad_f2 K) = some ⟨oc, od, .func (PySem.W.fnOf "is_point" "is_point" (defArgs st_is_point) (defBody st_is_point) (defScope st_is_point) .none (HK.fdAt K (ad_f2 K)).kwdefaults doc pm an (HK.fdAt K (ad_f2 K)).code ct), osl⟩) ∧ PySem.W.codeIn K (HK.fdAt K (ad_f2 K)).code "is_point" = true := c.fn 2 (dV := .none) (kV := (HK.fdAt K (ad_f2 K)).kwdefaults) (cdv := (HK.fdAt K (ad_f2 K)).code) rfl rfl (HK.dB (c.fact 1 9 rfl rfl)) rfl rfl
theorem fa_k2 (c : HK.Says fs dfs K) : PySem.W.keepIn K (.ref (ad_f2 K)) = true := (c.fact 1 10 rfl rfl)
theorem fa_a3 (c : HK.Says fs dfs K) : PySem.W.nsIn K mainGlobals "is_wind" = some (some (.ref (ad_f3 K))) := HK.dB (c.fact 1 11 rfl rfl)
theorem ex_l3 (c : HK.Says fs dfs K) : (∃ oc od osl doc pm an ct, K.lookup (ad_f3 K) = some ⟨oc, od, .func (PySem.W.fnOf "is_wind" "is_wind" (defArgs st_is_wind) (defBody st_is_wind) (defScope st_is_wind) .none (HK.fdAt K (ad_f3 K)).kwdefaults doc pm an (HK.fdAt K (ad_f3 K)).code ct), osl⟩) ∧ PySem.W.codeIn K (HK.fdAt K (ad_f3 K)).code "is_wind" = true := c.fn 3 (dV := .none) (kV := (HK.fdAt K (ad_f3 K)).kwdefaults) (cdv := (HK.fdAt K (ad_f3 K)).code) rfl rfl (HK.dB (c.fact 1 12 rfl rfl)) rfl rfl
theorem fa_k3 (c : HK.Says fs dfs K) : PySem.W.keepIn K (.ref (ad_f3 K)) = true := (c.fact 1 13 rfl rfl)
theorem fa_a4 (c : HK.Says fs dfs K) : PySem.W.nsIn K mainGlobals "is_listed" = some (some (.ref (ad_f4 K))) := HK.dB (c.fact 1 14 rfl rfl)
theorem ex_l4 (c : HK.Says fs dfs K) : (∃ oc od osl doc pm an ct, K.lookup (ad_f4 K) = some ⟨oc, od, .func (PySem.W.fnOf "is_listed" "is_listed" (defArgs st_is_listed) (defBody st_is_listed) (defScope st_is_listed) .none (HK.fdAt K (ad_f4 K)).kwdefaults doc pm an (HK.fdAt K (ad_f4 K)).code ct), osl⟩) ∧ PySem.W.codeIn K (HK.fdAt K (ad_f4 K)).code "is_listed" = true := c.fn 4 (dV := .none) (kV := (HK.fdAt K (ad_f4 K)).kwdefaults) (cdv := (HK.fdAt K (ad_f4 K)).code) rfl rfl (HK.dB (c.fact 1 15 rfl rfl)) rfl rfl
theorem fa_k4 (c : HK.Says fs dfs K) : PySem.W.keepIn K (.ref (ad_f4 K)) = true := (c.fact 1 16 rfl rfl)
theorem fa_a5 (c : HK.Says fs dfs K) : PySem.W.nsIn K mainGlobals "cross" = some (some (.ref (ad_f5 K))) := HK.dB (c.fact 1 17 rfl rfl)
theorem ex_l5 (c : HK.Says fs dfs K) : (∃ oc od osl doc pm an ct, K.lookup (ad_f5 K) = some ⟨oc, od, .func (PySem.W.fnOf "cross" "cross" (defArgs st_cross) (defBody st_cross) (defScope st_cross) .none (HK.fdAt K (ad_f5 K)).kwdefaults doc pm an (HK.fdAt K (ad_f5 K)).code ct), osl⟩) ∧ PySem.W.codeIn K (HK.fdAt K (ad_f5 K)).code "cross" = true := c.fn 5 (dV := .none) (kV := (HK.fdAt K (ad_f5 K)).kwdefaults) (cdv := (HK.fdAt K (ad_f5 K)).code) rfl rfl (HK.dB (c.fact 1 18 rfl rfl)) rfl rfl
theorem fa_k5 (c : HK.Says fs dfs K) : PySem.W.keepIn K (.ref (ad_f5 K)) = true := (c.fact 1 19 rfl rfl)
theorem fa_a6 (c : HK.Says fs dfs K) : PySem.W.nsIn K mainGlobals "towards" = some (some (.ref (ad_f6 K))) := HK.dB (c.fact 1 20 rfl rfl)
theorem ex_l6 (c : HK.Says fs dfs K) : (∃ oc od osl doc pm an ct, K.lookup (ad_f6 K) = some ⟨oc, od, .func (PySem.W.fnOf "towards" "towards" (defArgs st_towards) (defBody st_towards) (defScope st_towards) .none (HK.fdAt K (ad_f6 K)).kwdefaults doc pm an (HK.fdAt K (ad_f6 K)).code ct), osl⟩) ∧ PySem.W.codeIn K (HK.fdAt K (ad_f6 K)).code "towards" = true := c.fn 6 (dV := .none) (kV := (HK.fdAt K (ad_f6 K)).kwdefaults) (cdv := (HK.fdAt K (ad_f6 K)).code) rfl rfl (HK.dB (c.fact 1 21 rfl rfl)) rfl rfl
theorem fa_k6 (c : HK.Says fs dfs K) : PySem.W.keepIn K (.ref (ad_f6 K)) = true := (c.fact 1 22 rfl rfl)
theorem fa_a7 (c : HK.Says fs dfs K) : PySem.W.nsIn K mainGlobals "turning" = some (some (.ref (ad_f7 K))) := HK.dB (c.fact 1 23 rfl rfl)
theorem ex_l7 (c : HK.Says fs dfs K) : (∃ oc od osl doc pm an ct, K.lookup (ad_f7 K) = some ⟨oc, od, .func (PySem.W.fnOf "turning" "turning" (defArgs st_turning) (defBody st_turning) (defScope st_turning) .none (HK.fdAt K (ad_f7 K)).kwdefaults doc pm an (HK.fdAt K (ad_f7 K)).code ct), osl⟩) ∧ PySem.W.codeIn K (HK.fdAt K (ad_f7 K)).code "turning" = true := c.fn 7 (dV := .none) (kV := (HK.fdAt K (ad_f7 K)).kwdefaults) (cdv := (HK.fdAt K (ad_f7 K)).code) rfl rfl (HK.dB (c.fact 1 24 rfl rfl)) rfl rfl
theorem fa_k7 (c : HK.Says fs dfs K) : PySem.W.keepIn K (.ref (ad_f7 K)) = true := (c.fact 2 0 rfl rfl)
theorem fa_a8 (c : HK.Says fs dfs K) : PySem.W.nsIn K mainGlobals "side_of" = some (some (.ref (ad_f8 K))) := HK.dB (c.fact 2 1 rfl rfl)
theorem ex_l8 (c : HK.Says fs dfs K) : (∃ oc od osl doc pm an ct, K.lookup (ad_f8 K) = some ⟨oc, od, .func (PySem.W.fnOf "side_of" "side_of" (defArgs st_side_of) (defBody st_side_of) (defScope st_side_of) .none (HK.fdAt K (ad_f8 K)).kwdefaults doc pm an (HK.fdAt K (ad_f8 K)).code ct), osl⟩) ∧ PySem.W.codeIn K (HK.fdAt K (ad_f8 K)).code "side_of" = true := c.fn 8 (dV := .none) (kV := (HK.fdAt K (ad_f8 K)).kwdefaults) (cdv := (HK.fdAt K (ad_f8 K)).code) rfl rfl (HK.dB (c.fact 2 2 rfl rfl)) rfl rfl
theorem fa_k8 (c : HK.Says fs dfs K) : PySem.W.keepIn K (.ref (ad_f8 K)) = true := (c.fact 2 3 rfl rfl)
theorem fa_a9 (c : HK.Says fs dfs K) : PySem.W.nsIn K mainGlobals "is_side" = some (some (.ref (ad_f9 K))) := HK.dB (c.fact 2 4 rfl rfl)
theorem ex_l9 (c : HK.Says fs dfs K) : (∃ oc od osl doc pm an ct, K.lookup (ad_f9 K) = some ⟨oc, od, .func (PySem.W.fnOf "is_side" "is_side" (defArgs st_is_side) (defBody st_is_side) (defScope st_is_side) .none (HK.fdAt K (ad_f9 K)).kwdefaults doc pm an (HK.fdAt K (ad_f9 K)).code ct), osl⟩) ∧ PySem.W.codeIn K (HK.fdAt K (ad_f9 K)).code "is_side" = true := c.fn 9 (dV := .none) (kV := (HK.fdAt K (ad_f9 K)).kwdefaults) (cdv := (HK.fdAt K (ad_f9 K)).code) rfl rfl (HK.dB (c.fact 2 5 rfl rfl)) rfl rfl
theorem fa_k9 (c : HK.Says fs dfs K) : PySem.W.keepIn K (.ref (ad_f9 K)) = true := (c.fact 2 6 rfl rfl)
theorem fa_a10 (c : HK.Says fs dfs K) : PySem.W.nsIn K mainGlobals "corner_pairs" = some (some (.ref (ad_f10 K))) := HK.dB (c.fact 2 7 rfl rfl)
theorem ex_l10 (c : HK.Says fs dfs K) : (∃ oc od osl doc pm an ct, K.lookup (ad_f10 K) = some ⟨oc, od, .func (PySem.W.fnOf "corner_pairs" "corner_pairs" (defArgs st_corner_pairs) (defBody st_corner_pairs) (defScope st_corner_pairs) .none (HK.fdAt K (ad_f10 K)).kwdefaults doc pm an (HK.fdAt K (ad_f10 K)).code ct), osl⟩) ∧ PySem.W.codeIn K (HK.fdAt K (ad_f10 K)).code "corner_pairs" = true := c.fn 10 (dV := .none) (kV := (HK.fdAt K (ad_f10 K)).kwdefaults) (cdv := (HK.fdAt K (ad_f10 K)).code) rfl rfl (HK.dB (c.fact 2 8 rfl rfl)) rfl rfl
theorem fa_k10 (c : HK.Says fs dfs K) : PySem.W.keepIn K (.ref (ad_f10 K)) = true := (c.fact 2 9 rfl rfl)
theorem fa_a11 (c : HK.Says fs dfs K) : PySem.W.nsIn K mainGlobals "check_corners" = some (some (.ref (ad_f11 K))) := HK.dB (c.fact 2 10 rfl rfl)
theorem ex_l11 (c : HK.Says fs dfs K) : (∃ oc od osl doc pm an ct, K.lookup (ad_f11 K) = some ⟨oc, od, .func (PySem.W.fnOf "check_corners" "check_corners" (defArgs st_check_corners) (defBody st_check_corners) (defScope st_check_corners) .none (HK.fdAt K (ad_f11 K)).kwdefaults doc pm an (HK.fdAt K (ad_f11 K)).code ct), osl⟩) ∧ PySem.W.codeIn K (HK.fdAt K (ad_f11 K)).code "check_corners" = true := c.fn 11 (dV := .none) (kV := (HK.fdAt K (ad_f11 K)).kwdefaults) (cdv := (HK.fdAt K (ad_f11 K)).code) rfl rfl (HK.dB (c.fact 2 11 rfl rfl)) rfl rfl
theorem fa_k11 (c : HK.Says fs dfs K) : PySem.W.keepIn K (.ref (ad_f11 K)) = true := (c.fact 2 12 rfl rfl)
theorem fa_a12 (c : HK.Says fs dfs K) : PySem.W.nsIn K mainGlobals "check_winds" = some (some (.ref (ad_f12 K))) := HK.dB (c.fact 2 13 rfl rfl)
theorem ex_l12 (c : HK.Says fs dfs K) : (∃ oc od osl doc pm an ct, K.lookup (ad_f12 K) = some ⟨oc, od, .func (PySem.W.fnOf "check_winds" "check_winds" (defArgs st_check_winds) (defBody st_check_winds) (defScope st_check_winds) .none (HK.fdAt K (ad_f12 K)).kwdefaults doc pm an (HK.fdAt K (ad_f12 K)).code ct), osl⟩) ∧ PySem.W.codeIn K (HK.fdAt K (ad_f12 K)).code "check_winds" = true := c.fn 12 (dV := .none) (kV := (HK.fdAt K (ad_f12 K)).kwdefaults) (cdv := (HK.fdAt K (ad_f12 K)).code) rfl rfl (HK.dB (c.fact 2 14 rfl rfl)) rfl rfl
theorem fa_k12 (c : HK.Says fs dfs K) : PySem.W.keepIn K (.ref (ad_f12 K)) = true := (c.fact 2 15 rfl rfl)
theorem fa_a13 (c : HK.Says fs dfs K) : PySem.W.findIn K (.ref (ad_C0 K)) "__init__" = some (some (.ref (ad_f13 K))) := HK.dB (c.fact 2 16 rfl rfl)
theorem fa_i13 (c : HK.Says fs dfs K) : PySem.W.isFn K (.ref (ad_f13 K)) = true := (c.fact 2 17 rfl rfl)
theorem ex_l13 (c : HK.Says fs dfs K) : (∃ oc od osl doc pm an ct, K.lookup (ad_f13 K) = some ⟨oc, od, .func (PySem.W.fnOf "__init__" "Tile.__init__" (defArgs st_Tile___init__) (defBody st_Tile___init__) (defScope st_Tile___init__) .none (HK.fdAt K (ad_f13 K)).kwdefaults doc pm an (HK.fdAt K (ad_f13 K)).code ct), osl⟩) ∧ PySem.W.codeIn K (HK.fdAt K (ad_f13 K)).code "Tile.__init__" = true := c.fn 13 (dV := .none) (kV := (HK.fdAt K (ad_f13 K)).kwdefaults) (cdv := (HK.fdAt K (ad_f13 K)).code) rfl rfl (HK.dB (c.fact 2 18 rfl rfl)) rfl rfl
theorem fa_k13 (c : HK.Says fs dfs K) : PySem.W.keepIn K (.ref (ad_f13 K)) = true := (c.fact 2 19 rfl rfl)
theorem fa_a14 (c : HK.Says fs dfs K) : PySem.W.findIn K (.ref (ad_C0 K)) "label" = some (some (.ref (ad_p14 K))) := HK.dB (c.fact 2 20 rfl rfl)
theorem fa_g14 (c : HK.Says fs dfs K) : PySem.W.specialIn K (.ref (ad_p14 K)) "__get__" = some (some (.builtin "property.__get__")) := HK.dB (c.fact 2 21 rfl rfl)
theorem fa_t14 (c : HK.Says fs dfs K) : PySem.W.takesIn K (.ref (ad_p14 K)) = some true := HK.dB (c.fact 2 22 rfl rfl)
theorem fa_r14 (c : HK.Says fs dfs K) : PySem.W.recIn K (ad_p14 K) "property" = some (.ref (ad_f14 K) :: (HK.recTl K (ad_p14 K) "property")) := HK.dB (c.fact 2 23 rfl rfl)
theorem ex_l14 (c : HK.Says fs dfs K) : (∃ oc od osl doc pm an ct, K.lookup (ad_f14 K) = some ⟨oc, od, .func (PySem.W.fnOf "label" "Tile.label" (defArgs st_Tile_label) (defBody st_Tile_label) (defScope st_Tile_label) .none (HK.fdAt K (ad_f14 K)).kwdefaults doc pm an (HK.fdAt K (ad_f14 K)).code ct), osl⟩) ∧ PySem.W.codeIn K (HK.fdAt K (ad_f14 K)).code "Tile.label" = true := c.fn 14 (dV := .none) (kV := (HK.fdAt K (ad_f14 K)).kwdefaults) (cdv := (HK.fdAt K (ad_f14 K)).code) rfl rfl (HK.dB (c.fact 2 24 rfl rfl)) rfl rfl
theorem fa_k14 (c : HK.Says fs dfs K) : PySem.W.keepIn K (.ref (ad_f14 K)) = true := (c.fact 3 0 rfl rfl)
theorem fa_a15 (c : HK.Says fs dfs K) : PySem.W.findIn K (.ref (ad_C0 K)) "corners" = some (some (.ref (ad_p15 K))) := HK.dB (c.fact 3 1 rfl rfl)
theorem fa_g15 (c : HK.Says fs dfs K) : PySem.W.specialIn K (.ref (ad_p15 K)) "__get__" = some (some (.builtin "property.__get__")) := HK.dB (c.fact 3 2 rfl rfl)
theorem fa_t15 (c : HK.Says fs dfs K) : PySem.W.takesIn K (.ref (ad_p15 K)) = some true := HK.dB (c.fact 3 3 rfl rfl)
theorem fa_r15 (c : HK.Says fs dfs K) : PySem.W.recIn K (ad_p15 K) "property" = some (.ref (ad_f15 K) :: (HK.recTl K (ad_p15 K) "property")) := HK.dB (c.fact 3 4 rfl rfl)
theorem ex_l15 (c : HK.Says fs dfs K) : (∃ oc od osl doc pm an ct, K.lookup (ad_f15 K) = some ⟨oc, od, .func (PySem.W.fnOf "corners" "Tile.corners" (defArgs st_Tile_corners) (defBody st_Tile_corners) (defScope st_Tile_corners) .none (HK.fdAt K (ad_f15 K)).kwdefaults doc pm an (HK.fdAt K (ad_f15 K)).code ct), osl⟩) ∧ PySem.W.codeIn K (HK.fdAt K (ad_f15 K)).code "Tile.corners" = true := c.fn 15 (dV := .none) (kV := (HK.fdAt K (ad_f15 K)).kwdefaults) (cdv := (HK.fdAt K (ad_f15 K)).code) rfl rfl (HK.dB (c.fact 3 5 rfl rfl)) rfl rfl
theorem fa_k15 (c : HK.Says fs dfs K) : PySem.W.keepIn K (.ref (ad_f15 K)) = true := (c.fact 3 6 rfl rfl)
theorem fa_a16 (c : HK.Says fs dfs K) : PySem.W.findIn K (.ref (ad_C0 K)) "winds" = some (some (.ref (ad_p16 K))) := HK.dB (c.fact 3 7 rfl rfl)
theorem fa_g16 (c : HK.Says fs dfs K) : PySem.W.specialIn K (.ref (ad_p16 K)) "__get__" = some (some (.builtin "property.__get__")) := HK.dB (c.fact 3 8 rfl rfl)
theorem fa_t16 (c : HK.Says fs dfs K) : PySem.W.takesIn K (.ref (ad_p16 K)) = some true := HK.dB (c.fact 3 9 rfl rfl)
theorem fa_r16 (c : HK.Says fs dfs K) : PySem.W.recIn K (ad_p16 K) "property" = some (.ref (ad_f16 K) :: (HK.recTl K (ad_p16 K) "property")) := HK.dB (c.fact 3 10 rfl rfl)
theorem ex_l16 (c : HK.Says fs dfs K) : (∃ oc od osl doc pm an ct, K.lookup (ad_f16 K) = some ⟨oc, od, .func (PySem.W.fnOf "winds" "Tile.winds" (defArgs st_Tile_winds) (defBody st_Tile_winds) (defScope st_Tile_winds) .none (HK.fdAt K (ad_f16 K)).kwdefaults doc pm an (HK.fdAt K (ad_f16 K)).code ct), osl⟩) ∧ PySem.W.codeIn K (HK.fdAt K (ad_f16 K)).code "Tile.winds" = true := c.fn 16 (dV := .none) (kV := (HK.fdAt K (ad_f16 K)).kwdefaults) (cdv := (HK.fdAt K (ad_f16 K)).code) rfl rfl (HK.dB (c.fact 3 11 rfl rfl)) rfl rfl
theorem fa_k16 (c : HK.Says fs dfs K) : PySem.W.keepIn K (.ref (ad_f16 K)) = true := (c.fact 3 12 rfl rfl)
theorem fa_a17 (c : HK.Says fs dfs K) : PySem.W.findIn K (.ref (ad_C0 K)) "sides" = some (some (.ref (ad_f17 K))) := HK.dB (c.fact 3 13 rfl rfl)
theorem fa_i17 (c : HK.Says fs dfs K) : PySem.W.isFn K (.ref (ad_f17 K)) = true := (c.fact 3 14 rfl rfl)
theorem ex_l17 (c : HK.Says fs dfs K) : (∃ oc od osl doc pm an ct, K.lookup (ad_f17 K) = some ⟨oc, od, .func (PySem.W.fnOf "sides" "Tile.sides" (defArgs st_Tile_sides) (defBody st_Tile_sides) (defScope st_Tile_sides) .none (HK.fdAt K (ad_f17 K)).kwdefaults doc pm an (HK.fdAt K (ad_f17 K)).code ct), osl⟩) ∧ PySem.W.codeIn K (HK.fdAt K (ad_f17 K)).code "Tile.sides" = true := c.fn 17 (dV := .none) (kV := (HK.fdAt K (ad_f17 K)).kwdefaults) (cdv := (HK.fdAt K (ad_f17 K)).code) rfl rfl (HK.dB (c.fact 3 15 rfl rfl)) rfl rfl
theorem fa_k17 (c : HK.Says fs dfs K) : PySem.W.keepIn K (.ref (ad_f17 K)) = true := (c.fact 3 16 rfl rfl)
theorem fa_a18 (c : HK.Says fs dfs K) : PySem.W.findIn K (.ref (ad_C0 K)) "has_side" = some (some (.ref (ad_f18 K))) := HK.dB (c.fact 3 17 rfl rfl)
theorem fa_i18 (c : HK.Says fs dfs K) : PySem.W.isFn K (.ref (ad_f18 K)) = true := (c.fact 3 18 rfl rfl)
theorem ex_l18 (c : HK.Says fs dfs K) : (∃ oc od osl doc pm an ct, K.lookup (ad_f18 K) = some ⟨oc, od, .func (PySem.W.fnOf "has_side" "Tile.has_side" (defArgs st_Tile_has_side) (defBody st_Tile_has_side) (defScope st_Tile_has_side) .none (HK.fdAt K (ad_f18 K)).kwdefaults doc pm an (HK.fdAt K (ad_f18 K)).code ct), osl⟩) ∧ PySem.W.codeIn K (HK.fdAt K (ad_f18 K)).code "Tile.has_side" = true := c.fn 18 (dV := .none) (kV := (HK.fdAt K (ad_f18 K)).kwdefaults) (cdv := (HK.fdAt K (ad_f18 K)).code) rfl rfl (HK.dB (c.fact 3 19 rfl rfl)) rfl rfl
theorem fa_k18 (c : HK.Says fs dfs K) : PySem.W.keepIn K (.ref (ad_f18 K)) = true := (c.fact 3 20 rfl rfl)
theorem fa_a19 (c : HK.Says fs dfs K) : PySem.W.findIn K (.ref (ad_C0 K)) "lets_in" = some (some (.ref (ad_f19 K))) := HK.dB (c.fact 3 21 rfl rfl)
theorem fa_i19 (c : HK.Says fs dfs K) : PySem.W.isFn K (.ref (ad_f19 K)) = true := (c.fact 3 22 rfl rfl)
theorem ex_l19 (c : HK.Says fs dfs K) : (∃ oc od osl doc pm an ct, K.lookup (ad_f19 K) = some ⟨oc, od, .func (PySem.W.fnOf "lets_in" "Tile.lets_in" (defArgs st_Tile_lets_in) (defBody st_Tile_lets_in) (defScope st_Tile_lets_in) .none (HK.fdAt K (ad_f19 K)).kwdefaults doc pm an (HK.fdAt K (ad_f19 K)).code ct), osl⟩) ∧ PySem.W.codeIn K (HK.fdAt K (ad_f19 K)).code "Tile.lets_in" = true := c.fn 19 (dV := .none) (kV := (HK.fdAt K (ad_f19 K)).kwdefaults) (cdv := (HK.fdAt K (ad_f19 K)).code) rfl rfl (HK.dB (c.fact 3 23 rfl rfl)) rfl rfl
theorem fa_k19 (c : HK.Says fs dfs K) : PySem.W.keepIn K (.ref (ad_f19 K)) = true := (c.fact 3 24 rfl rfl)
theorem fa_a20 (c : HK.Says fs dfs K) : PySem.W.findIn K (.ref (ad_C0 K)) "__len__" = some (some (.ref (ad_f20 K))) := HK.dB (c.fact 4 0 rfl rfl)
theorem fa_i20 (c : HK.Says fs dfs K) : PySem.W.isFn K (.ref (ad_f20 K)) = true := (c.fact 4 1 rfl rfl)
theorem ex_l20 (c : HK.Says fs dfs K) : (∃ oc od osl doc pm an ct, K.lookup (ad_f20 K) = some ⟨oc, od, .func (PySem.W.fnOf "__len__" "Tile.__len__" (defArgs st_Tile___len__) (defBody st_Tile___len__) (defScope st_Tile___len__) .none (HK.fdAt K (ad_f20 K)).kwdefaults doc pm an (HK.fdAt K (ad_f20 K)).code ct), osl⟩) ∧ PySem.W.codeIn K (HK.fdAt K (ad_f20 K)).code "Tile.__len__" = true := c.fn 20 (dV := .none) (kV := (HK.fdAt K (ad_f20 K)).kwdefaults) (cdv := (HK.fdAt K (ad_f20 K)).code) rfl rfl (HK.dB (c.fact 4 2 rfl rfl)) rfl rfl
theorem fa_k20 (c : HK.Says fs dfs K) : PySem.W.keepIn K (.ref (ad_f20 K)) = true := (c.fact 4 3 rfl rfl)
theorem fa_a21 (c : HK.Says fs dfs K) : PySem.W.findIn K (.ref (ad_C0 K)) "__repr__" = some (some (.ref (ad_f21 K))) := HK.dB (c.fact 4 4 rfl rfl)
theorem fa_i21 (c : HK.Says fs dfs K) : PySem.W.isFn K (.ref (ad_f21 K)) = true := (c.fact 4 5 rfl rfl)
theorem ex_l21 (c : HK.Says fs dfs K) : (∃ oc od osl doc pm an ct, K.lookup (ad_f21 K) = some ⟨oc, od, .func (PySem.W.fnOf "__repr__" "Tile.__repr__" (defArgs st_Tile___repr__) (defBody st_Tile___repr__) (defScope st_Tile___repr__) .none (HK.fdAt K (ad_f21 K)).kwdefaults doc pm an (HK.fdAt K (ad_f21 K)).code ct), osl⟩) ∧ PySem.W.codeIn K (HK.fdAt K (ad_f21 K)).code "Tile.__repr__" = true := c.fn 21 (dV := .none) (kV := (HK.fdAt K (ad_f21 K)).kwdefaults) (cdv := (HK.fdAt K (ad_f21 K)).code) rfl rfl (HK.dB (c.fact 4 6 rfl rfl)) rfl rfl
theorem fa_k21 (c : HK.Says fs dfs K) : PySem.W.keepIn K (.ref (ad_f21 K)) = true := (c.fact 4 7 rfl rfl)
theorem fa_a22 (c : HK.Says fs dfs K) : PySem.W.nsIn K mainGlobals "_law_is_name" = some (some (.ref (ad_f22 K))) := HK.dB (c.fact 4 8 rfl rfl)
theorem ex_l22 (c : HK.Says fs dfs K) : (∃ oc od osl doc pm an ct, K.lookup (ad_f22 K) = some ⟨oc, od, .func (PySem.W.fnOf "_law_is_name" "_law_is_name" (defArgs st__law_is_name) (defBody st__law_is_name) (defScope st__law_is_name) .none (HK.fdAt K (ad_f22 K)).kwdefaults doc pm an (HK.fdAt K (ad_f22 K)).code ct), osl⟩) ∧ PySem.W.codeIn K (HK.fdAt K (ad_f22 K)).code "_law_is_name" = true := c.fn 22 (dV := .none) (kV := (HK.fdAt K (ad_f22 K)).kwdefaults) (cdv := (HK.fdAt K (ad_f22 K)).code) rfl rfl (HK.dB (c.fact 4 9 rfl rfl)) rfl rfl
theorem fa_k22 (c : HK.Says fs dfs K) : PySem.W.keepIn K (.ref (ad_f22 K)) = true := (c.fact 4 10 rfl rfl)
theorem fa_a23 (c : HK.Says fs dfs K) : PySem.W.nsIn K mainGlobals "_law_is_dot" = some (some (.ref (ad_f23 K))) := HK.dB (c.fact 4 11 rfl rfl)
theorem ex_l23 (c : HK.Says fs dfs K) : (∃ oc od osl doc pm an ct, K.lookup (ad_f23 K) = some ⟨oc, od, .func (PySem.W.fnOf "_law_is_dot" "_law_is_dot" (defArgs st__law_is_dot) (defBody st__law_is_dot) (defScope st__law_is_dot) .none (HK.fdAt K (ad_f23 K)).kwdefaults doc pm an (HK.fdAt K (ad_f23 K)).code ct), osl⟩) ∧ PySem.W.codeIn K (HK.fdAt K (ad_f23 K)).code "_law_is_dot" = true := c.fn 23 (dV := .none) (kV := (HK.fdAt K (ad_f23 K)).kwdefaults) (cdv := (HK.fdAt K (ad_f23 K)).code) rfl rfl (HK.dB (c.fact 4 12 rfl rfl)) rfl rfl
theorem fa_k23 (c : HK.Says fs dfs K) : PySem.W.keepIn K (.ref (ad_f23 K)) = true := (c.fact 4 13 rfl rfl)
theorem fa_a24 (c : HK.Says fs dfs K) : PySem.W.nsIn K mainGlobals "_law_border" = some (some (.ref (ad_f24 K))) := HK.dB (c.fact 4 14 rfl rfl)
theorem ex_l24 (c : HK.Says fs dfs K) : (∃ oc od osl doc pm an ct, K.lookup (ad_f24 K) = some ⟨oc, od, .func (PySem.W.fnOf "_law_border" "_law_border" (defArgs st__law_border) (defBody st__law_border) (defScope st__law_border) .none (HK.fdAt K (ad_f24 K)).kwdefaults doc pm an (HK.fdAt K (ad_f24 K)).code ct), osl⟩) ∧ PySem.W.codeIn K (HK.fdAt K (ad_f24 K)).code "_law_border" = true := c.fn 24 (dV := .none) (kV := (HK.fdAt K (ad_f24 K)).kwdefaults) (cdv := (HK.fdAt K (ad_f24 K)).code) rfl rfl (HK.dB (c.fact 4 15 rfl rfl)) rfl rfl
theorem fa_k24 (c : HK.Says fs dfs K) : PySem.W.keepIn K (.ref (ad_f24 K)) = true := (c.fact 4 16 rfl rfl)
theorem fa_a25 (c : HK.Says fs dfs K) : PySem.W.nsIn K mainGlobals "_law_cross" = some (some (.ref (ad_f25 K))) := HK.dB (c.fact 4 17 rfl rfl)
theorem ex_l25 (c : HK.Says fs dfs K) : (∃ oc od osl doc pm an ct, K.lookup (ad_f25 K) = some ⟨oc, od, .func (PySem.W.fnOf "_law_cross" "_law_cross" (defArgs st__law_cross) (defBody st__law_cross) (defScope st__law_cross) .none (HK.fdAt K (ad_f25 K)).kwdefaults doc pm an (HK.fdAt K (ad_f25 K)).code ct), osl⟩) ∧ PySem.W.codeIn K (HK.fdAt K (ad_f25 K)).code "_law_cross" = true := c.fn 25 (dV := .none) (kV := (HK.fdAt K (ad_f25 K)).kwdefaults) (cdv := (HK.fdAt K (ad_f25 K)).code) rfl rfl (HK.dB (c.fact 4 18 rfl rfl)) rfl rfl
theorem fa_k25 (c : HK.Says fs dfs K) : PySem.W.keepIn K (.ref (ad_f25 K)) = true := (c.fact 4 19 rfl rfl)
theorem fa_a26 (c : HK.Says fs dfs K) : PySem.W.nsIn K mainGlobals "_law_lead" = some (some (.ref (ad_f26 K))) := HK.dB (c.fact 4 20 rfl rfl)
theorem ex_l26 (c : HK.Says fs dfs K) : (∃ oc od osl doc pm an ct, K.lookup (ad_f26 K) = some ⟨oc, od, .func (PySem.W.fnOf "_law_lead" "_law_lead" (defArgs st__law_lead) (defBody st__law_lead) (defScope st__law_lead) .none (HK.fdAt K (ad_f26 K)).kwdefaults doc pm an (HK.fdAt K (ad_f26 K)).code ct), osl⟩) ∧ PySem.W.codeIn K (HK.fdAt K (ad_f26 K)).code "_law_lead" = true := c.fn 26 (dV := .none) (kV := (HK.fdAt K (ad_f26 K)).kwdefaults) (cdv := (HK.fdAt K (ad_f26 K)).code) rfl rfl (HK.dB (c.fact 4 21 rfl rfl)) rfl rfl
theorem fa_k26 (c : HK.Says fs dfs K) : PySem.W.keepIn K (.ref (ad_f26 K)) = true := (c.fact 4 22 rfl rfl)
theorem fa_a27 (c : HK.Says fs dfs K) : PySem.W.nsIn K mainGlobals "_law_turn" = some (some (.ref (ad_f27 K))) := HK.dB (c.fact 4 23 rfl rfl)
theorem ex_l27 (c : HK.Says fs dfs K) : (∃ oc od osl doc pm an ct, K.lookup (ad_f27 K) = some ⟨oc, od, .func (PySem.W.fnOf "_law_turn" "_law_turn" (defArgs st__law_turn) (defBody st__law_turn) (defScope st__law_turn) .none (HK.fdAt K (ad_f27 K)).kwdefaults doc pm an (HK.fdAt K (ad_f27 K)).code ct), osl⟩) ∧ PySem.W.codeIn K (HK.fdAt K (ad_f27 K)).code "_law_turn" = true := c.fn 27 (dV := .none) (kV := (HK.fdAt K (ad_f27 K)).kwdefaults) (cdv := (HK.fdAt K (ad_f27 K)).code) rfl rfl (HK.dB (c.fact 4 24 rfl rfl)) rfl rfl
theorem fa_k27 (c : HK.Says fs dfs K) : PySem.W.keepIn K (.ref (ad_f27 K)) = true := (c.fact 5 0 rfl rfl)
theorem fa_a28 (c : HK.Says fs dfs K) : PySem.W.nsIn K mainGlobals "_law_dots_due" = some (some (.ref (ad_f28 K))) := HK.dB (c.fact 5 1 rfl rfl)
theorem ex_l28 (c : HK.Says fs dfs K) : (∃ oc od osl doc pm an ct, K.lookup (ad_f28 K) = some ⟨oc, od, .func (PySem.W.fnOf "_law_dots_due" "_law_dots_due" (defArgs st__law_dots_due) (defBody st__law_dots_due) (defScope st__law_dots_due) .none (HK.fdAt K (ad_f28 K)).kwdefaults doc pm an (HK.fdAt K (ad_f28 K)).code ct), osl⟩) ∧ PySem.W.codeIn K (HK.fdAt K (ad_f28 K)).code "_law_dots_due" = true := c.fn 28 (dV := .none) (kV := (HK.fdAt K (ad_f28 K)).kwdefaults) (cdv := (HK.fdAt K (ad_f28 K)).code) rfl rfl (HK.dB (c.fact 5 2 rfl rfl)) rfl rfl
theorem fa_k28 (c : HK.Says fs dfs K) : PySem.W.keepIn K (.ref (ad_f28 K)) = true := (c.fact 5 3 rfl rfl)
theorem fa_a29 (c : HK.Says fs dfs K) : PySem.W.nsIn K mainGlobals "_law_is_wind" = some (some (.ref (ad_f29 K))) := HK.dB (c.fact 5 4 rfl rfl)
theorem ex_l29 (c : HK.Says fs dfs K) : (∃ oc od osl doc pm an ct, K.lookup (ad_f29 K) = some ⟨oc, od, .func (PySem.W.fnOf "_law_is_wind" "_law_is_wind" (defArgs st__law_is_wind) (defBody st__law_is_wind) (defScope st__law_is_wind) .none (HK.fdAt K (ad_f29 K)).kwdefaults doc pm an (HK.fdAt K (ad_f29 K)).code ct), osl⟩) ∧ PySem.W.codeIn K (HK.fdAt K (ad_f29 K)).code "_law_is_wind" = true := c.fn 29 (dV := .none) (kV := (HK.fdAt K (ad_f29 K)).kwdefaults) (cdv := (HK.fdAt K (ad_f29 K)).code) rfl rfl (HK.dB (c.fact 5 5 rfl rfl)) rfl rfl
theorem fa_k29 (c : HK.Says fs dfs K) : PySem.W.keepIn K (.ref (ad_f29 K)) = true := (c.fact 5 6 rfl rfl)
theorem fa_a30 (c : HK.Says fs dfs K) : PySem.W.nsIn K mainGlobals "_law_key" = some (some (.ref (ad_f30 K))) := HK.dB (c.fact 5 7 rfl rfl)
theorem ex_l30 (c : HK.Says fs dfs K) : (∃ oc od osl doc pm an ct, K.lookup (ad_f30 K) = some ⟨oc, od, .func (PySem.W.fnOf "_law_key" "_law_key" (defArgs st__law_key) (defBody st__law_key) (defScope st__law_key) .none (HK.fdAt K (ad_f30 K)).kwdefaults doc pm an (HK.fdAt K (ad_f30 K)).code ct), osl⟩) ∧ PySem.W.codeIn K (HK.fdAt K (ad_f30 K)).code "_law_key" = true := c.fn 30 (dV := .none) (kV := (HK.fdAt K (ad_f30 K)).kwdefaults) (cdv := (HK.fdAt K (ad_f30 K)).code) rfl rfl (HK.dB (c.fact 5 8 rfl rfl)) rfl rfl
theorem fa_k30 (c : HK.Says fs dfs K) : PySem.W.keepIn K (.ref (ad_f30 K)) = true := (c.fact 5 9 rfl rfl)
theorem fa_a31 (c : HK.Says fs dfs K) : PySem.W.nsIn K mainGlobals "_law_winds_due" = some (some (.ref (ad_f31 K))) := HK.dB (c.fact 5 10 rfl rfl)
theorem ex_l31 (c : HK.Says fs dfs K) : (∃ oc od osl doc pm an ct, K.lookup (ad_f31 K) = some ⟨oc, od, .func (PySem.W.fnOf "_law_winds_due" "_law_winds_due" (defArgs st__law_winds_due) (defBody st__law_winds_due) (defScope st__law_winds_due) .none (HK.fdAt K (ad_f31 K)).kwdefaults doc pm an (HK.fdAt K (ad_f31 K)).code ct), osl⟩) ∧ PySem.W.codeIn K (HK.fdAt K (ad_f31 K)).code "_law_winds_due" = true := c.fn 31 (dV := .none) (kV := (HK.fdAt K (ad_f31 K)).kwdefaults) (cdv := (HK.fdAt K (ad_f31 K)).code) rfl rfl (HK.dB (c.fact 5 11 rfl rfl)) rfl rfl
theorem fa_k31 (c : HK.Says fs dfs K) : PySem.W.keepIn K (.ref (ad_f31 K)) = true := (c.fact 5 12 rfl rfl)
theorem fa_a32 (c : HK.Says fs dfs K) : PySem.W.nsIn K mainGlobals "_law_tile_due" = some (some (.ref (ad_f32 K))) := HK.dB (c.fact 5 13 rfl rfl)
theorem ex_l32 (c : HK.Says fs dfs K) : (∃ oc od osl doc pm an ct, K.lookup (ad_f32 K) = some ⟨oc, od, .func (PySem.W.fnOf "_law_tile_due" "_law_tile_due" (defArgs st__law_tile_due) (defBody st__law_tile_due) (defScope st__law_tile_due) .none (HK.fdAt K (ad_f32 K)).kwdefaults doc pm an (HK.fdAt K (ad_f32 K)).code ct), osl⟩) ∧ PySem.W.codeIn K (HK.fdAt K (ad_f32 K)).code "_law_tile_due" = true := c.fn 32 (dV := .none) (kV := (HK.fdAt K (ad_f32 K)).kwdefaults) (cdv := (HK.fdAt K (ad_f32 K)).code) rfl rfl (HK.dB (c.fact 5 14 rfl rfl)) rfl rfl
theorem fa_k32 (c : HK.Says fs dfs K) : PySem.W.keepIn K (.ref (ad_f32 K)) = true := (c.fact 5 15 rfl rfl)
theorem fa_a33 (c : HK.Says fs dfs K) : PySem.W.nsIn K mainGlobals "_law_start" = some (some (.ref (ad_f33 K))) := HK.dB (c.fact 5 16 rfl rfl)
theorem ex_l33 (c : HK.Says fs dfs K) : (∃ oc od osl doc pm an ct, K.lookup (ad_f33 K) = some ⟨oc, od, .func (PySem.W.fnOf "_law_start" "_law_start" (defArgs st__law_start) (defBody st__law_start) (defScope st__law_start) .none (HK.fdAt K (ad_f33 K)).kwdefaults doc pm an (HK.fdAt K (ad_f33 K)).code ct), osl⟩) ∧ PySem.W.codeIn K (HK.fdAt K (ad_f33 K)).code "_law_start" = true := c.fn 33 (dV := .none) (kV := (HK.fdAt K (ad_f33 K)).kwdefaults) (cdv := (HK.fdAt K (ad_f33 K)).code) rfl rfl (HK.dB (c.fact 5 17 rfl rfl)) rfl rfl
theorem fa_k33 (c : HK.Says fs dfs K) : PySem.W.keepIn K (.ref (ad_f33 K)) = true := (c.fact 5 18 rfl rfl)
theorem fa_a34 (c : HK.Says fs dfs K) : PySem.W.nsIn K mainGlobals "_law_pull" = some (some (.ref (ad_f34 K))) := HK.dB (c.fact 5 19 rfl rfl)
theorem ex_l34 (c : HK.Says fs dfs K) : (∃ oc od osl doc pm an ct, K.lookup (ad_f34 K) = some ⟨oc, od, .func (PySem.W.fnOf "_law_pull" "_law_pull" (defArgs st__law_pull) (defBody st__law_pull) (defScope st__law_pull) .none (HK.fdAt K (ad_f34 K)).kwdefaults doc pm an (HK.fdAt K (ad_f34 K)).code ct), osl⟩) ∧ PySem.W.codeIn K (HK.fdAt K (ad_f34 K)).code "_law_pull" = true := c.fn 34 (dV := .none) (kV := (HK.fdAt K (ad_f34 K)).kwdefaults) (cdv := (HK.fdAt K (ad_f34 K)).code) rfl rfl (HK.dB (c.fact 5 20 rfl rfl)) rfl rfl
theorem fa_k34 (c : HK.Says fs dfs K) : PySem.W.keepIn K (.ref (ad_f34 K)) = true := (c.fact 5 21 rfl rfl)
theorem fa_a35 (c : HK.Says fs dfs K) : PySem.W.nsIn K mainGlobals "_law_pick" = some (some (.ref (ad_f35 K))) := HK.dB (c.fact 5 22 rfl rfl)
theorem ex_l35 (c : HK.Says fs dfs K) : (∃ oc od osl doc pm an ct, K.lookup (ad_f35 K) = some ⟨oc, od, .func (PySem.W.fnOf "_law_pick" "_law_pick" (defArgs st__law_pick) (defBody st__law_pick) (defScope st__law_pick) .none (HK.fdAt K (ad_f35 K)).kwdefaults doc pm an (HK.fdAt K (ad_f35 K)).code ct), osl⟩) ∧ PySem.W.codeIn K (HK.fdAt K (ad_f35 K)).code "_law_pick" = true := c.fn 35 (dV := .none) (kV := (HK.fdAt K (ad_f35 K)).kwdefaults) (cdv := (HK.fdAt K (ad_f35 K)).code) rfl rfl (HK.dB (c.fact 5 23 rfl rfl)) rfl rfl
theorem fa_k35 (c : HK.Says fs dfs K) : PySem.W.keepIn K (.ref (ad_f35 K)) = true := (c.fact 5 24 rfl rfl)
theorem fa_a36 (c : HK.Says fs dfs K) : PySem.W.nsIn K mainGlobals "_law_winds" = some (some (.ref (ad_f36 K))) := HK.dB (c.fact 6 0 rfl rfl)
theorem ex_l36 (c : HK.Says fs dfs K) : (∃ oc od osl doc pm an ct, K.lookup (ad_f36 K) = some ⟨oc, od, .func (PySem.W.fnOf "_law_winds" "_law_winds" (defArgs st__law_winds) (defBody st__law_winds) (defScope st__law_winds) .none (HK.fdAt K (ad_f36 K)).kwdefaults doc pm an (HK.fdAt K (ad_f36 K)).code ct), osl⟩) ∧ PySem.W.codeIn K (HK.fdAt K (ad_f36 K)).code "_law_winds" = true := c.fn 36 (dV := .none) (kV := (HK.fdAt K (ad_f36 K)).kwdefaults) (cdv := (HK.fdAt K (ad_f36 K)).code) rfl rfl (HK.dB (c.fact 6 1 rfl rfl)) rfl rfl
theorem fa_k36 (c : HK.Says fs dfs K) : PySem.W.keepIn K (.ref (ad_f36 K)) = true := (c.fact 6 2 rfl rfl)
theorem fa_a37 (c : HK.Says fs dfs K) : PySem.W.nsIn K mainGlobals "_law_keys" = some (some (.ref (ad_f37 K))) := HK.dB (c.fact 6 3 rfl rfl)
theorem ex_l37 (c : HK.Says fs dfs K) : (∃ oc od osl doc pm an ct, K.lookup (ad_f37 K) = some ⟨oc, od, .func (PySem.W.fnOf "_law_keys" "_law_keys" (defArgs st__law_keys) (defBody st__law_keys) (defScope st__law_keys) .none (HK.fdAt K (ad_f37 K)).kwdefaults doc pm an (HK.fdAt K (ad_f37 K)).code ct), osl⟩) ∧ PySem.W.codeIn K (HK.fdAt K (ad_f37 K)).code "_law_keys" = true := c.fn 37 (dV := .none) (kV := (HK.fdAt K (ad_f37 K)).kwdefaults) (cdv := (HK.fdAt K (ad_f37 K)).code) rfl rfl (HK.dB (c.fact 6 4 rfl rfl)) rfl rfl
theorem fa_k37 (c : HK.Says fs dfs K) : PySem.W.keepIn K (.ref (ad_f37 K)) = true := (c.fact 6 5 rfl rfl)
theorem fa_a38 (c : HK.Says fs dfs K) : PySem.W.nsIn K mainGlobals "_law_sort" = some (some (.ref (ad_f38 K))) := HK.dB (c.fact 6 6 rfl rfl)
theorem ex_l38 (c : HK.Says fs dfs K) : (∃ oc od osl doc pm an ct, K.lookup (ad_f38 K) = some ⟨oc, od, .func (PySem.W.fnOf "_law_sort" "_law_sort" (defArgs st__law_sort) (defBody st__law_sort) (defScope st__law_sort) .none (HK.fdAt K (ad_f38 K)).kwdefaults doc pm an (HK.fdAt K (ad_f38 K)).code ct), osl⟩) ∧ PySem.W.codeIn K (HK.fdAt K (ad_f38 K)).code "_law_sort" = true := c.fn 38 (dV := .none) (kV := (HK.fdAt K (ad_f38 K)).kwdefaults) (cdv := (HK.fdAt K (ad_f38 K)).code) rfl rfl (HK.dB (c.fact 6 7 rfl rfl)) rfl rfl
theorem fa_k38 (c : HK.Says fs dfs K) : PySem.W.keepIn K (.ref (ad_f38 K)) = true := (c.fact 6 8 rfl rfl)
theorem fa_a39 (c : HK.Says fs dfs K) : PySem.W.nsIn K mainGlobals "_law_same" = some (some (.ref (ad_f39 K))) := HK.dB (c.fact 6 9 rfl rfl)
theorem ex_l39 (c : HK.Says fs dfs K) : (∃ oc od osl doc pm an ct, K.lookup (ad_f39 K) = some ⟨oc, od, .func (PySem.W.fnOf "_law_same" "_law_same" (defArgs st__law_same) (defBody st__law_same) (defScope st__law_same) .none (HK.fdAt K (ad_f39 K)).kwdefaults doc pm an (HK.fdAt K (ad_f39 K)).code ct), osl⟩) ∧ PySem.W.codeIn K (HK.fdAt K (ad_f39 K)).code "_law_same" = true := c.fn 39 (dV := .none) (kV := (HK.fdAt K (ad_f39 K)).kwdefaults) (cdv := (HK.fdAt K (ad_f39 K)).code) rfl rfl (HK.dB (c.fact 6 10 rfl rfl)) rfl rfl
theorem fa_k39 (c : HK.Says fs dfs K) : PySem.W.keepIn K (.ref (ad_f39 K)) = true := (c.fact 6 11 rfl rfl)
theorem fa_a40 (c : HK.Says fs dfs K) : PySem.W.nsIn K mainGlobals "_law_lets" = some (some (.ref (ad_f40 K))) := HK.dB (c.fact 6 12 rfl rfl)
theorem ex_l40 (c : HK.Says fs dfs K) : (∃ oc od osl doc pm an ct, K.lookup (ad_f40 K) = some ⟨oc, od, .func (PySem.W.fnOf "_law_lets" "_law_lets" (defArgs st__law_lets) (defBody st__law_lets) (defScope st__law_lets) .none (HK.fdAt K (ad_f40 K)).kwdefaults doc pm an (HK.fdAt K (ad_f40 K)).code ct), osl⟩) ∧ PySem.W.codeIn K (HK.fdAt K (ad_f40 K)).code "_law_lets" = true := c.fn 40 (dV := .none) (kV := (HK.fdAt K (ad_f40 K)).kwdefaults) (cdv := (HK.fdAt K (ad_f40 K)).code) rfl rfl (HK.dB (c.fact 6 13 rfl rfl)) rfl rfl
theorem fa_k40 (c : HK.Says fs dfs K) : PySem.W.keepIn K (.ref (ad_f40 K)) = true := (c.fact 6 14 rfl rfl)
theorem fa_a41 (c : HK.Says fs dfs K) : PySem.W.nsIn K mainGlobals "_law_tile_so" = some (some (.ref (ad_f41 K))) := HK.dB (c.fact 6 15 rfl rfl)
theorem ex_l41 (c : HK.Says fs dfs K) : (∃ oc od osl doc pm an ct, K.lookup (ad_f41 K) = some ⟨oc, od, .func (PySem.W.fnOf "_law_tile_so" "_law_tile_so" (defArgs st__law_tile_so) (defBody st__law_tile_so) (defScope st__law_tile_so) .none (HK.fdAt K (ad_f41 K)).kwdefaults doc pm an (HK.fdAt K (ad_f41 K)).code ct), osl⟩) ∧ PySem.W.codeIn K (HK.fdAt K (ad_f41 K)).code "_law_tile_so" = true := c.fn 41 (dV := .none) (kV := (HK.fdAt K (ad_f41 K)).kwdefaults) (cdv := (HK.fdAt K (ad_f41 K)).code) rfl rfl (HK.dB (c.fact 6 16 rfl rfl)) rfl rfl
theorem fa_k41 (c : HK.Says fs dfs K) : PySem.W.keepIn K (.ref (ad_f41 K)) = true := (c.fact 6 17 rfl rfl)
theorem fa_a42 (c : HK.Says fs dfs K) : PySem.W.nsIn K mainGlobals "_law_fields" = some (some (.ref (ad_f42 K))) := HK.dB (c.fact 6 18 rfl rfl)
theorem ex_l42 (c : HK.Says fs dfs K) : (∃ oc od osl doc pm an ct, K.lookup (ad_f42 K) = some ⟨oc, od, .func (PySem.W.fnOf "_law_fields" "_law_fields" (defArgs st__law_fields) (defBody st__law_fields) (defScope st__law_fields) .none (HK.fdAt K (ad_f42 K)).kwdefaults doc pm an (HK.fdAt K (ad_f42 K)).code ct), osl⟩) ∧ PySem.W.codeIn K (HK.fdAt K (ad_f42 K)).code "_law_fields" = true := c.fn 42 (dV := .none) (kV := (HK.fdAt K (ad_f42 K)).kwdefaults) (cdv := (HK.fdAt K (ad_f42 K)).code) rfl rfl (HK.dB (c.fact 6 19 rfl rfl)) rfl rfl
theorem fa_k42 (c : HK.Says fs dfs K) : PySem.W.keepIn K (.ref (ad_f42 K)) = true := (c.fact 6 20 rfl rfl)
theorem fa_a43 (c : HK.Says fs dfs K) : PySem.W.nsIn K mainGlobals "_law_shapes" = some (some (.ref (ad_f43 K))) := HK.dB (c.fact 6 21 rfl rfl)
theorem ex_l43 (c : HK.Says fs dfs K) : (∃ oc od osl doc pm an ct, K.lookup (ad_f43 K) = some ⟨oc, od, .func (PySem.W.fnOf "_law_shapes" "_law_shapes" (defArgs st__law_shapes) (defBody st__law_shapes) (defScope st__law_shapes) .none (HK.fdAt K (ad_f43 K)).kwdefaults doc pm an (HK.fdAt K (ad_f43 K)).code ct), osl⟩) ∧ PySem.W.codeIn K (HK.fdAt K (ad_f43 K)).code "_law_shapes" = true := c.fn 43 (dV := .none) (kV := (HK.fdAt K (ad_f43 K)).kwdefaults) (cdv := (HK.fdAt K (ad_f43 K)).code) rfl rfl (HK.dB (c.fact 6 22 rfl rfl)) rfl rfl
theorem fa_k43 (c : HK.Says fs dfs K) : PySem.W.keepIn K (.ref (ad_f43 K)) = true := (c.fact 6 23 rfl rfl)
theorem fa_a44 (c : HK.Says fs dfs K) : PySem.W.nsIn K mainGlobals "_law_new_names" = some (some (.ref (ad_f44 K))) := HK.dB (c.fact 6 24 rfl rfl)
theorem ex_l44 (c : HK.Says fs dfs K) : (∃ oc od osl doc pm an ct, K.lookup (ad_f44 K) = some ⟨oc, od, .func (PySem.W.fnOf "_law_new_names" "_law_new_names" (defArgs st__law_new_names) (defBody st__law_new_names) (defScope st__law_new_names) .none (HK.fdAt K (ad_f44 K)).kwdefaults doc pm an (HK.fdAt K (ad_f44 K)).code ct), osl⟩) ∧ PySem.W.codeIn K (HK.fdAt K (ad_f44 K)).code "_law_new_names" = true := c.fn 44 (dV := .none) (kV := (HK.fdAt K (ad_f44 K)).kwdefaults) (cdv := (HK.fdAt K (ad_f44 K)).code) rfl rfl (HK.dB (c.fact 7 0 rfl rfl)) rfl rfl
theorem fa_k44 (c : HK.Says fs dfs K) : PySem.W.keepIn K (.ref (ad_f44 K)) = true := (c.fact 7 1 rfl rfl)
theorem fa_a45 (c : HK.Says fs dfs K) : PySem.W.nsIn K mainGlobals "_law_moved" = some (some (.ref (ad_f45 K))) := HK.dB (c.fact 7 2 rfl rfl)
theorem ex_l45 (c : HK.Says fs dfs K) : (∃ oc od osl doc pm an ct, K.lookup (ad_f45 K) = some ⟨oc, od, .func (PySem.W.fnOf "_law_moved" "_law_moved" (defArgs st__law_moved) (defBody st__law_moved) (defScope st__law_moved) .none (HK.fdAt K (ad_f45 K)).kwdefaults doc pm an (HK.fdAt K (ad_f45 K)).code ct), osl⟩) ∧ PySem.W.codeIn K (HK.fdAt K (ad_f45 K)).code "_law_moved" = true := c.fn 45 (dV := .none) (kV := (HK.fdAt K (ad_f45 K)).kwdefaults) (cdv := (HK.fdAt K (ad_f45 K)).code) rfl rfl (HK.dB (c.fact 7 3 rfl rfl)) rfl rfl
theorem fa_k45 (c : HK.Says fs dfs K) : PySem.W.keepIn K (.ref (ad_f45 K)) = true := (c.fact 7 4 rfl rfl)
theorem fa_a46 (c : HK.Says fs dfs K) : PySem.W.nsIn K mainGlobals "_law_shuffled" = some (some (.ref (ad_f46 K))) := HK.dB (c.fact 7 5 rfl rfl)
theorem ex_l46 (c : HK.Says fs dfs K) : (∃ oc od osl doc pm an ct, K.lookup (ad_f46 K) = some ⟨oc, od, .func (PySem.W.fnOf "_law_shuffled" "_law_shuffled" (defArgs st__law_shuffled) (defBody st__law_shuffled) (defScope st__law_shuffled) .none (HK.fdAt K (ad_f46 K)).kwdefaults doc pm an (HK.fdAt K (ad_f46 K)).code ct), osl⟩) ∧ PySem.W.codeIn K (HK.fdAt K (ad_f46 K)).code "_law_shuffled" = true := c.fn 46 (dV := .none) (kV := (HK.fdAt K (ad_f46 K)).kwdefaults) (cdv := (HK.fdAt K (ad_f46 K)).code) rfl rfl (HK.dB (c.fact 7 6 rfl rfl)) rfl rfl
theorem fa_k46 (c : HK.Says fs dfs K) : PySem.W.keepIn K (.ref (ad_f46 K)) = true := (c.fact 7 7 rfl rfl)
theorem fa_a47 (c : HK.Says fs dfs K) : PySem.W.nsIn K mainGlobals "_law_finished" = some (some (.ref (ad_f47 K))) := HK.dB (c.fact 7 8 rfl rfl)
theorem ex_l47 (c : HK.Says fs dfs K) : (∃ oc od osl doc pm an ct, K.lookup (ad_f47 K) = some ⟨oc, od, .func (PySem.W.fnOf "_law_finished" "_law_finished" (defArgs st__law_finished) (defBody st__law_finished) (defScope st__law_finished) .none (HK.fdAt K (ad_f47 K)).kwdefaults doc pm an (HK.fdAt K (ad_f47 K)).code ct), osl⟩) ∧ PySem.W.codeIn K (HK.fdAt K (ad_f47 K)).code "_law_finished" = true := c.fn 47 (dV := .none) (kV := (HK.fdAt K (ad_f47 K)).kwdefaults) (cdv := (HK.fdAt K (ad_f47 K)).code) rfl rfl (HK.dB (c.fact 7 9 rfl rfl)) rfl rfl
theorem fa_k47 (c : HK.Says fs dfs K) : PySem.W.keepIn K (.ref (ad_f47 K)) = true := (c.fact 7 10 rfl rfl)
theorem fa_a48 (c : HK.Says fs dfs K) : PySem.W.nsIn K mainGlobals "_law_quarter" = some (some (.ref (ad_f48 K))) := HK.dB (c.fact 7 11 rfl rfl)
theorem ex_l48 (c : HK.Says fs dfs K) : (∃ oc od osl doc pm an ct, K.lookup (ad_f48 K) = some ⟨oc, od, .func (PySem.W.fnOf "_law_quarter" "_law_quarter" (defArgs st__law_quarter) (defBody st__law_quarter) (defScope st__law_quarter) .none (HK.fdAt K (ad_f48 K)).kwdefaults doc pm an (HK.fdAt K (ad_f48 K)).code ct), osl⟩) ∧ PySem.W.codeIn K (HK.fdAt K (ad_f48 K)).code "_law_quarter" = true := c.fn 48 (dV := .none) (kV := (HK.fdAt K (ad_f48 K)).kwdefaults) (cdv := (HK.fdAt K (ad_f48 K)).code) rfl rfl (HK.dB (c.fact 7 12 rfl rfl)) rfl rfl
theorem fa_k48 (c : HK.Says fs dfs K) : PySem.W.keepIn K (.ref (ad_f48 K)) = true := (c.fact 7 13 rfl rfl)
theorem fa_a49 (c : HK.Says fs dfs K) : PySem.W.nsIn K mainGlobals "_law_bordered" = some (some (.ref (ad_f49 K))) := HK.dB (c.fact 7 14 rfl rfl)
theorem ex_l49 (c : HK.Says fs dfs K) : (∃ oc od osl doc pm an ct, K.lookup (ad_f49 K) = some ⟨oc, od, .func (PySem.W.fnOf "_law_bordered" "_law_bordered" (defArgs st__law_bordered) (defBody st__law_bordered) (defScope st__law_bordered) .none (HK.fdAt K (ad_f49 K)).kwdefaults doc pm an (HK.fdAt K (ad_f49 K)).code ct), osl⟩) ∧ PySem.W.codeIn K (HK.fdAt K (ad_f49 K)).code "_law_bordered" = true := c.fn 49 (dV := .none) (kV := (HK.fdAt K (ad_f49 K)).kwdefaults) (cdv := (HK.fdAt K (ad_f49 K)).code) rfl rfl (HK.dB (c.fact 7 15 rfl rfl)) rfl rfl
theorem fa_k49 (c : HK.Says fs dfs K) : PySem.W.keepIn K (.ref (ad_f49 K)) = true := (c.fact 7 16 rfl rfl)
theorem fa_a50 (c : HK.Says fs dfs K) : PySem.W.nsIn K mainGlobals "_law_grid" = some (some (.ref (ad_f50 K))) := HK.dB (c.fact 7 17 rfl rfl)
theorem ex_l50 (c : HK.Says fs dfs K) : (∃ oc od osl doc pm an ct, K.lookup (ad_f50 K) = some ⟨oc, od, .func (PySem.W.fnOf "_law_grid" "_law_grid" (defArgs st__law_grid) (defBody st__law_grid) (defScope st__law_grid) .none (HK.fdAt K (ad_f50 K)).kwdefaults doc pm an (HK.fdAt K (ad_f50 K)).code ct), osl⟩) ∧ PySem.W.codeIn K (HK.fdAt K (ad_f50 K)).code "_law_grid" = true := c.fn 50 (dV := .none) (kV := (HK.fdAt K (ad_f50 K)).kwdefaults) (cdv := (HK.fdAt K (ad_f50 K)).code) rfl rfl (HK.dB (c.fact 7 18 rfl rfl)) rfl rfl
theorem fa_k50 (c : HK.Says fs dfs K) : PySem.W.keepIn K (.ref (ad_f50 K)) = true := (c.fact 7 19 rfl rfl)
theorem fa_a51 (c : HK.Says fs dfs K) : PySem.W.nsIn K mainGlobals "_law_drawn" = some (some (.ref (ad_f51 K))) := HK.dB (c.fact 7 20 rfl rfl)
theorem ex_l51 (c : HK.Says fs dfs K) : (∃ oc od osl doc pm an ct, K.lookup (ad_f51 K) = some ⟨oc, od, .func (PySem.W.fnOf "_law_drawn" "_law_drawn" (defArgs st__law_drawn) (defBody st__law_drawn) (defScope st__law_drawn) .none (HK.fdAt K (ad_f51 K)).kwdefaults doc pm an (HK.fdAt K (ad_f51 K)).code ct), osl⟩) ∧ PySem.W.codeIn K (HK.fdAt K (ad_f51 K)).code "_law_drawn" = true := c.fn 51 (dV := .none) (kV := (HK.fdAt K (ad_f51 K)).kwdefaults) (cdv := (HK.fdAt K (ad_f51 K)).code) rfl rfl (HK.dB (c.fact 7 21 rfl rfl)) rfl rfl
theorem fa_k51 (c : HK.Says fs dfs K) : PySem.W.keepIn K (.ref (ad_f51 K)) = true := (c.fact 7 22 rfl rfl)
theorem fa_a52 (c : HK.Says fs dfs K) : PySem.W.nsIn K mainGlobals "_law_bent_dots" = some (some (.ref (ad_f52 K))) := HK.dB (c.fact 7 23 rfl rfl)
theorem ex_l52 (c : HK.Says fs dfs K) : (∃ oc od osl doc pm an ct, K.lookup (ad_f52 K) = some ⟨oc, od, .func (PySem.W.fnOf "_law_bent_dots" "_law_bent_dots" (defArgs st__law_bent_dots) (defBody st__law_bent_dots) (defScope st__law_bent_dots) .none (HK.fdAt K (ad_f52 K)).kwdefaults doc pm an (HK.fdAt K (ad_f52 K)).code ct), osl⟩) ∧ PySem.W.codeIn K (HK.fdAt K (ad_f52 K)).code "_law_bent_dots" = true := c.fn 52 (dV := .none) (kV := (HK.fdAt K (ad_f52 K)).kwdefaults) (cdv := (HK.fdAt K (ad_f52 K)).code) rfl rfl (HK.dB (c.fact 7 24 rfl rfl)) rfl rfl
theorem fa_k52 (c : HK.Says fs dfs K) : PySem.W.keepIn K (.ref (ad_f52 K)) = true := (c.fact 8 0 rfl rfl)
theorem fa_a53 (c : HK.Says fs dfs K) : PySem.W.nsIn K mainGlobals "_law_bent_winds" = some (some (.ref (ad_f53 K))) := HK.dB (c.fact 8 1 rfl rfl)
theorem ex_l53 (c : HK.Says fs dfs K) : (∃ oc od osl doc pm an ct, K.lookup (ad_f53 K) = some ⟨oc, od, .func (PySem.W.fnOf "_law_bent_winds" "_law_bent_winds" (defArgs st__law_bent_winds) (defBody st__law_bent_winds) (defScope st__law_bent_winds) .none (HK.fdAt K (ad_f53 K)).kwdefaults doc pm an (HK.fdAt K (ad_f53 K)).code ct), osl⟩) ∧ PySem.W.codeIn K (HK.fdAt K (ad_f53 K)).code "_law_bent_winds" = true := c.fn 53 (dV := .none) (kV := (HK.fdAt K (ad_f53 K)).kwdefaults) (cdv := (HK.fdAt K (ad_f53 K)).code) rfl rfl (HK.dB (c.fact 8 2 rfl rfl)) rfl rfl
theorem fa_k53 (c : HK.Says fs dfs K) : PySem.W.keepIn K (.ref (ad_f53 K)) = true := (c.fact 8 3 rfl rfl)
theorem fa_a54 (c : HK.Says fs dfs K) : PySem.W.nsIn K mainGlobals "law" = some (some (.ref (ad_f54 K))) := HK.dB (c.fact 8 4 rfl rfl)
theorem ex_l54 (c : HK.Says fs dfs K) : (∃ oc od osl doc pm an ct, K.lookup (ad_f54 K) = some ⟨oc, od, .func (PySem.W.fnOf "law" "law" (defArgs st_law) (defBody st_law) (defScope st_law) .none (HK.fdAt K (ad_f54 K)).kwdefaults doc pm an (.ref (ad_cL54 K)) ct), osl⟩) ∧ PySem.W.codeIn K (.ref (ad_cL54 K)) "law" = true := c.fn 54 (dV := .none) (kV := (HK.fdAt K (ad_f54 K)).kwdefaults) (cdv := (.ref (ad_cL54 K))) rfl rfl (HK.dB (c.fact 8 5 rfl rfl)) rfl (HK.dB (c.fact 8 6 rfl rfl))
theorem fa_k54 (c : HK.Says fs dfs K) : PySem.W.keepIn K (.ref (ad_f54 K)) = true := (c.fact 8 7 rfl rfl)
theorem fa_mk0 (c : HK.Says fs dfs K) : PySem.W.makesIn K (ad_C0 K) = true := (c.fact 8 8 rfl rfl)
theorem fa_kc0 (c : HK.Says fs dfs K) : PySem.W.keepIn K (.ref (ad_C0 K)) = true := (c.fact 8 9 rfl rfl)
theorem fa_b_abs (c : HK.Says fs dfs K) : PySem.W.nsIn K mainGlobals "abs" = some none := HK.dB (c.fact 8 10 rfl rfl)
theorem fa_b_all (c : HK.Says fs dfs K) : PySem.W.nsIn K mainGlobals "all" = some none := HK.dB (c.fact 8 11 rfl rfl)
theorem fa_b_bool (c : HK.Says fs dfs K) : PySem.W.nsIn K mainGlobals "bool" = some none := HK.dB (c.fact 8 12 rfl rfl)
theorem fa_b_enumerate (c : HK.Says fs dfs K) : PySem.W.nsIn K mainGlobals "enumerate" = some none := HK.dB (c.fact 8 13 rfl rfl)
theorem fa_b_int (c : HK.Says fs dfs K) : PySem.W.nsIn K mainGlobals "int" = some none := HK.dB (c.fact 8 14 rfl rfl)
theorem fa_b_isinstance (c : HK.Says fs dfs K) : PySem.W.nsIn K mainGlobals "isinstance" = some none := HK.dB (c.fact 8 15 rfl rfl)
theorem fa_b_len (c : HK.Says fs dfs K) : PySem.W.nsIn K mainGlobals "len" = some none := HK.dB (c.fact 8 16 rfl rfl)
theorem fa_b_list (c : HK.Says fs dfs K) : PySem.W.nsIn K mainGlobals "list" = some none := HK.dB (c.fact 8 17 rfl rfl)
theorem fa_b_max (c : HK.Says fs dfs K) : PySem.W.nsIn K mainGlobals "max" = some none := HK.dB (c.fact 8 18 rfl rfl)
theorem fa_b_min (c : HK.Says fs dfs K) : PySem.W.nsIn K mainGlobals "min" = some none := HK.dB (c.fact 8 19 rfl rfl)
theorem fa_b_range (c : HK.Says fs dfs K) : PySem.W.nsIn K mainGlobals "range" = some none := HK.dB (c.fact 8 20 rfl rfl)
theorem fa_b_repr (c : HK.Says fs dfs K) : PySem.W.nsIn K mainGlobals "repr" = some none := HK.dB (c.fact 8 21 rfl rfl)
theorem fa_b_str (c : HK.Says fs dfs K) : PySem.W.nsIn K mainGlobals "str" = some none := HK.dB (c.fact 8 22 rfl rfl)
theorem fa_b_tuple (c : HK.Says fs dfs K) : PySem.W.nsIn K mainGlobals "tuple" = some none := HK.dB (c.fact 8 23 rfl rfl)
theorem fa_b_zip (c : HK.Says fs dfs K) : PySem.W.nsIn K mainGlobals "zip" = some none := HK.dB (c.fact 8 24 rfl rfl)
theorem fa_c_FARTHEST (c : HK.Says fs dfs K) : PySem.W.nsIn K mainGlobals "FARTHEST" = some (some (.int 1000000 (HK.tkV (HK.nsV K mainGlobals "FARTHEST")))) := HK.dB (c.fact 9 0 rfl rfl)
theorem fa_c_FEWEST (c : HK.Says fs dfs K) : PySem.W.nsIn K mainGlobals "FEWEST" = some (some (.int 3 (HK.tkV (HK.nsV K mainGlobals "FEWEST")))) := HK.dB (c.fact 9 1 rfl rfl)
theorem fa_c_LETTERS (c : HK.Says fs dfs K) : PySem.W.nsIn K mainGlobals "LETTERS" = some (some (.str "abcdefghijklmnopqrstuvwxyz" (HK.tkV (HK.nsV K mainGlobals "LETTERS")))) := HK.dB (c.fact 9 2 rfl rfl)
theorem fa_c_LONGEST_NAME (c : HK.Says fs dfs K) : PySem.W.nsIn K mainGlobals "LONGEST_NAME" = some (some (.int 8 (HK.tkV (HK.nsV K mainGlobals "LONGEST_NAME")))) := HK.dB (c.fact 9 3 rfl rfl)
theorem fa_c_MOST_CORNERS (c : HK.Says fs dfs K) : PySem.W.nsIn K mainGlobals "MOST_CORNERS" = some (some (.int 8 (HK.tkV (HK.nsV K mainGlobals "MOST_CORNERS")))) := HK.dB (c.fact 9 4 rfl rfl)
theorem ex_lcL54 (c : HK.Says fs dfs K) : ∃ e dd sl, K.lookup (ad_cL54 K) = some ⟨e, dd, .fields (HK.fsAt K (ad_cL54 K)), sl⟩ := HK.isFields_ok (c.fact 9 5 rfl rfl)
theorem fa_pL54 (c : HK.Says fs dfs K) : ((HK.fsAt K (ad_cL54 K))[11]? : Option Value) = some (.ref (ad_PL54 K)) := HK.dB (c.fact 9 6 rfl rfl)
theorem fa_nPL54 (c : HK.Says fs dfs K) : K.lookup (ad_PL54 K) = none := HK.noB (c.fact 9 7 rfl rfl)
theorem fa_hdL54 (c : HK.Says fs dfs K) : PySem.W.codeHdIn K (ad_cL54 K) (ad_PL54 K) = true := (c.fact 9 8 rfl rfl)
theorem fa_aT (c : HK.Says fs dfs K) : PySem.W.nsIn K mainGlobals "_law_try" = some (some (.ref (ad_fT K))) := HK.dB (c.fact 9 9 rfl rfl)
theorem fa_kT (c : HK.Says fs dfs K) : PySem.W.keepIn K (.ref (ad_fT K)) = true := (c.fact 9 10 rfl rfl)
theorem ex_lT (c : HK.Says fs dfs K) : (∃ oc od osl doc pm an ct, K.lookup (ad_fT K) = some ⟨oc, od, .func (PySem.W.fnOf "_law_try" "_law_try" (defArgs st__law_try) (defBody st__law_try) (defScope st__law_try) .none (HK.fdAt K (ad_fT K)).kwdefaults doc pm an (HK.fdAt K (ad_fT K)).code ct), osl⟩) ∧ PySem.W.codeIn K (HK.fdAt K (ad_fT K)).code "_law_try" = true := c.fn 55 (dV := .none) (kV := (HK.fdAt K (ad_fT K)).kwdefaults) (cdv := (HK.fdAt K (ad_fT K)).code) rfl rfl (HK.dB (c.fact 9 11 rfl rfl)) rfl rfl
theorem fa_ga (c : HK.Says fs dfs K) : PySem.W.nsIn K mainGlobals "GustError" = some (some (.ref (ad_G1 K))) := HK.dB (c.fact 9 12 rfl rfl)
theorem fa_gb (c : HK.Says fs dfs K) : PySem.W.nsIn K mainGlobals "Missing" = some (some (.ref (ad_G2 K))) := HK.dB (c.fact 9 13 rfl rfl)
theorem fa_gc (c : HK.Says fs dfs K) : PySem.W.nsIn K mainGlobals "NothingLeft" = some (some (.ref (ad_G3 K))) := HK.dB (c.fact 9 14 rfl rfl)
theorem fa_suX (c : HK.Says fs dfs K) : PySem.W.nsIn K mainGlobals "super" = some none := HK.dB (c.fact 9 15 rfl rfl)
theorem fa_opX (c : HK.Says fs dfs K) : PySem.W.nsIn K cStatics "thirdparty.any" = some none := HK.dB (c.fact 9 16 rfl rfl)
theorem fa_aX0 (c : HK.Says fs dfs K) : PySem.W.nsIn K mainGlobals "InvalidName" = some (some (.ref (ad_CX0 K))) := HK.dB (c.fact 9 17 rfl rfl)
theorem ex_lX0 (c : HK.Says fs dfs K) : ∃ nm q N bs bm sn sub ab col dd k0 k1 k2 k3 k5, K.lookup (ad_CX0 K) = some (excClassObj nm q (ad_CX0 K) N bs bm true sn sub ab col dd k0 k1 k2 k3 k5 "ValueError.__new__") ∧ PySem.W.excTail [.type "ValueError", .type "Exception", .type "BaseException", .type "object"] bm = true := HK.exB_ok (c.fact 9 18 rfl rfl)
theorem fa_obX0 (c : HK.Says fs dfs K) : oxB K "ValueError" (ad_CX0 K) = true := (c.fact 9 19 rfl rfl)
theorem fa_iX0 (c : HK.Says fs dfs K) : PySem.W.findIn K (.ref (ad_CX0 K)) "__init__" = some (some (.ref (ad_fX0 K))) := HK.dB (c.fact 9 20 rfl rfl)
theorem fa_tiX0 (c : HK.Says fs dfs K) : PySem.W.typeIn K (.ref (ad_fX0 K)) = some (.type "function") := HK.dB (c.fact 9 21 rfl rfl)
theorem ex_lfX0 (c : HK.Says fs dfs K) : (∃ oc od osl doc pm an ct, K.lookup (ad_fX0 K) = some ⟨oc, od, .func (PySem.W.ksFn "__init__" "InvalidName.__init__" (defArgs st_InvalidName___init__) (defBody st_InvalidName___init__) (defScope st_InvalidName___init__) .none (HK.fdAt K (ad_fX0 K)).kwdefaults doc pm an (.ref (ad_cdX0 K)) ct (ad_ccX0 K)), osl⟩) ∧ PySem.W.codeIn K (.ref (ad_cdX0 K)) "InvalidName.__init__" = true := c.fnC 56 (dV := .none) (kV := (HK.fdAt K (ad_fX0 K)).kwdefaults) (cdv := (.ref (ad_cdX0 K))) rfl rfl (HK.dB (c.fact 9 22 rfl rfl)) rfl (HK.dB (c.fact 9 23 rfl rfl))
theorem ex_lcX0 (c : HK.Says fs dfs K) : ∃ e dd sl, K.lookup (ad_cdX0 K) = some ⟨e, dd, .fields (HK.fsAt K (ad_cdX0 K)), sl⟩ := HK.isFields_ok (c.fact 9 24 rfl rfl)
theorem ex_h2X0 (c : HK.Says fs dfs K) : ∃ f t, (HK.fsAt K (ad_cdX0 K))[2]? = some (Value.str f t) ∧ ((RW.prog.main.file : Str) == f) = true := HK.fileB_ok (c.fact 10 0 rfl rfl)
theorem ex_lccX0 (c : HK.Says fs dfs K) : ∃ e d s, K.lookup (ad_ccX0 K) = some ⟨e, d, .cell (some (.ref (ad_CX0 K))), s⟩ := HK.cellB_ok (c.fact 10 1 rfl rfl)
theorem fa_xfX0 (c : HK.Says fs dfs K) : xfB K (ad_CX0 K) = true := (c.fact 10 2 rfl rfl)
theorem fa_noX0 (c : HK.Says fs dfs K) : noB K (ad_CX0 K) NOSX = true := (c.fact 10 3 rfl rfl)
theorem fa_emX0 (c : HK.Says fs dfs K) : PySem.W.exmAny K (.ref (ad_CX0 K)) [.ref (ad_G1 K), .ref (ad_G2 K), .ref (ad_G3 K)] = some true := HK.dB (c.fact 10 4 rfl rfl)
theorem fa_aX1 (c : HK.Says fs dfs K) : PySem.W.nsIn K mainGlobals "InvalidCorners" = some (some (.ref (ad_CX1 K))) := HK.dB (c.fact 10 5 rfl rfl)
theorem ex_lX1 (c : HK.Says fs dfs K) : ∃ nm q N bs bm sn sub ab col dd k0 k1 k2 k3 k5, K.lookup (ad_CX1 K) = some (excClassObj nm q (ad_CX1 K) N bs bm true sn sub ab col dd k0 k1 k2 k3 k5 "ValueError.__new__") ∧ PySem.W.excTail [.type "ValueError", .type "Exception", .type "BaseException", .type "object"] bm = true := HK.exB_ok (c.fact 10 6 rfl rfl)
theorem fa_obX1 (c : HK.Says fs dfs K) : oxB K "ValueError" (ad_CX1 K) = true := (c.fact 10 7 rfl rfl)
theorem fa_iX1 (c : HK.Says fs dfs K) : PySem.W.findIn K (.ref (ad_CX1 K)) "__init__" = some (some (.ref (ad_fX1 K))) := HK.dB (c.fact 10 8 rfl rfl)
theorem fa_tiX1 (c : HK.Says fs dfs K) : PySem.W.typeIn K (.ref (ad_fX1 K)) = some (.type "function") := HK.dB (c.fact 10 9 rfl rfl)
theorem ex_lfX1 (c : HK.Says fs dfs K) : (∃ oc od osl doc pm an ct, K.lookup (ad_fX1 K) = some ⟨oc, od, .func (PySem.W.ksFn "__init__" "InvalidCorners.__init__" (defArgs st_InvalidCorners___init__) (defBody st_InvalidCorners___init__) (defScope st_InvalidCorners___init__) .none (HK.fdAt K (ad_fX1 K)).kwdefaults doc pm an (.ref (ad_cdX1 K)) ct (ad_ccX1 K)), osl⟩) ∧ PySem.W.codeIn K (.ref (ad_cdX1 K)) "InvalidCorners.__init__" = true := c.fnC 57 (dV := .none) (kV := (HK.fdAt K (ad_fX1 K)).kwdefaults) (cdv := (.ref (ad_cdX1 K))) rfl rfl (HK.dB (c.fact 10 10 rfl rfl)) rfl (HK.dB (c.fact 10 11 rfl rfl))
theorem ex_lcX1 (c : HK.Says fs dfs K) : ∃ e dd sl, K.lookup (ad_cdX1 K) = some ⟨e, dd, .fields (HK.fsAt K (ad_cdX1 K)), sl⟩ := HK.isFields_ok (c.fact 10 12 rfl rfl)
theorem ex_h2X1 (c : HK.Says fs dfs K) : ∃ f t, (HK.fsAt K (ad_cdX1 K))[2]? = some (Value.str f t) ∧ ((RW.prog.main.file : Str) == f) = true := HK.fileB_ok (c.fact 10 13 rfl rfl)
theorem ex_lccX1 (c : HK.Says fs dfs K) : ∃ e d s, K.lookup (ad_ccX1 K) = some ⟨e, d, .cell (some (.ref (ad_CX1 K))), s⟩ := HK.cellB_ok (c.fact 10 14 rfl rfl)
theorem fa_xfX1 (c : HK.Says fs dfs K) : xfB K (ad_CX1 K) = true := (c.fact 10 15 rfl rfl)
theorem fa_noX1 (c : HK.Says fs dfs K) : noB K (ad_CX1 K) NOSX = true := (c.fact 10 16 rfl rfl)
theorem fa_emX1 (c : HK.Says fs dfs K) : PySem.W.exmAny K (.ref (ad_CX1 K)) [.ref (ad_G1 K), .ref (ad_G2 K), .ref (ad_G3 K)] = some true := HK.dB (c.fact 10 17 rfl rfl)
theorem fa_aX2 (c : HK.Says fs dfs K) : PySem.W.nsIn K mainGlobals "NotConvex" = some (some (.ref (ad_CX2 K))) := HK.dB (c.fact 10 18 rfl rfl)
theorem ex_lX2 (c : HK.Says fs dfs K) : ∃ nm q N bs bm sn sub ab col dd k0 k1 k2 k3 k5, K.lookup (ad_CX2 K) = some (excClassObj nm q (ad_CX2 K) N bs bm true sn sub ab col dd k0 k1 k2 k3 k5 "ValueError.__new__") ∧ PySem.W.excTail [.type "ValueError", .type "Exception", .type "BaseException", .type "object"] bm = true := HK.exB_ok (c.fact 10 19 rfl rfl)
theorem fa_obX2 (c : HK.Says fs dfs K) : oxB K "ValueError" (ad_CX2 K) = true := (c.fact 10 20 rfl rfl)
theorem fa_iX2 (c : HK.Says fs dfs K) : PySem.W.findIn K (.ref (ad_CX2 K)) "__init__" = some (some (.ref (ad_fX2 K))) := HK.dB (c.fact 10 21 rfl rfl)
theorem fa_tiX2 (c : HK.Says fs dfs K) : PySem.W.typeIn K (.ref (ad_fX2 K)) = some (.type "function") := HK.dB (c.fact 10 22 rfl rfl)
theorem ex_lfX2 (c : HK.Says fs dfs K) : (∃ oc od osl doc pm an ct, K.lookup (ad_fX2 K) = some ⟨oc, od, .func (PySem.W.ksFn "__init__" "NotConvex.__init__" (defArgs st_NotConvex___init__) (defBody st_NotConvex___init__) (defScope st_NotConvex___init__) .none (HK.fdAt K (ad_fX2 K)).kwdefaults doc pm an (.ref (ad_cdX2 K)) ct (ad_ccX2 K)), osl⟩) ∧ PySem.W.codeIn K (.ref (ad_cdX2 K)) "NotConvex.__init__" = true := c.fnC 58 (dV := .none) (kV := (HK.fdAt K (ad_fX2 K)).kwdefaults) (cdv := (.ref (ad_cdX2 K))) rfl rfl (HK.dB (c.fact 10 23 rfl rfl)) rfl (HK.dB (c.fact 10 24 rfl rfl))
theorem ex_lcX2 (c : HK.Says fs dfs K) : ∃ e dd sl, K.lookup (ad_cdX2 K) = some ⟨e, dd, .fields (HK.fsAt K (ad_cdX2 K)), sl⟩ := HK.isFields_ok (c.fact 11 0 rfl rfl)
theorem ex_h2X2 (c : HK.Says fs dfs K) : ∃ f t, (HK.fsAt K (ad_cdX2 K))[2]? = some (Value.str f t) ∧ ((RW.prog.main.file : Str) == f) = true := HK.fileB_ok (c.fact 11 1 rfl rfl)
theorem ex_lccX2 (c : HK.Says fs dfs K) : ∃ e d s, K.lookup (ad_ccX2 K) = some ⟨e, d, .cell (some (.ref (ad_CX2 K))), s⟩ := HK.cellB_ok (c.fact 11 2 rfl rfl)
theorem fa_xfX2 (c : HK.Says fs dfs K) : xfB K (ad_CX2 K) = true := (c.fact 11 3 rfl rfl)
theorem fa_noX2 (c : HK.Says fs dfs K) : noB K (ad_CX2 K) NOSX = true := (c.fact 11 4 rfl rfl)
theorem fa_emX2 (c : HK.Says fs dfs K) : PySem.W.exmAny K (.ref (ad_CX2 K)) [.ref (ad_G1 K), .ref (ad_G2 K), .ref (ad_G3 K)] = some true := HK.dB (c.fact 11 5 rfl rfl)
theorem fa_aX3 (c : HK.Says fs dfs K) : PySem.W.nsIn K mainGlobals "InvalidWinds" = some (some (.ref (ad_CX3 K))) := HK.dB (c.fact 11 6 rfl rfl)
theorem ex_lX3 (c : HK.Says fs dfs K) : ∃ nm q N bs bm sn sub ab col dd k0 k1 k2 k3 k5, K.lookup (ad_CX3 K) = some (excClassObj nm q (ad_CX3 K) N bs bm true sn sub ab col dd k0 k1 k2 k3 k5 "ValueError.__new__") ∧ PySem.W.excTail [.type "ValueError", .type "Exception", .type "BaseException", .type "object"] bm = true := HK.exB_ok (c.fact 11 7 rfl rfl)
theorem fa_obX3 (c : HK.Says fs dfs K) : oxB K "ValueError" (ad_CX3 K) = true := (c.fact 11 8 rfl rfl)
theorem fa_iX3 (c : HK.Says fs dfs K) : PySem.W.findIn K (.ref (ad_CX3 K)) "__init__" = some (some (.ref (ad_fX3 K))) := HK.dB (c.fact 11 9 rfl rfl)
theorem fa_tiX3 (c : HK.Says fs dfs K) : PySem.W.typeIn K (.ref (ad_fX3 K)) = some (.type "function") := HK.dB (c.fact 11 10 rfl rfl)
theorem ex_lfX3 (c : HK.Says fs dfs K) : (∃ oc od osl doc pm an ct, K.lookup (ad_fX3 K) = some ⟨oc, od, .func (PySem.W.ksFn "__init__" "InvalidWinds.__init__" (defArgs st_InvalidWinds___init__) (defBody st_InvalidWinds___init__) (defScope st_InvalidWinds___init__) .none (HK.fdAt K (ad_fX3 K)).kwdefaults doc pm an (.ref (ad_cdX3 K)) ct (ad_ccX3 K)), osl⟩) ∧ PySem.W.codeIn K (.ref (ad_cdX3 K)) "InvalidWinds.__init__" = true := c.fnC 59 (dV := .none) (kV := (HK.fdAt K (ad_fX3 K)).kwdefaults) (cdv := (.ref (ad_cdX3 K))) rfl rfl (HK.dB (c.fact 11 11 rfl rfl)) rfl (HK.dB (c.fact 11 12 rfl rfl))
theorem ex_lcX3 (c : HK.Says fs dfs K) : ∃ e dd sl, K.lookup (ad_cdX3 K) = some ⟨e, dd, .fields (HK.fsAt K (ad_cdX3 K)), sl⟩ := HK.isFields_ok (c.fact 11 13 rfl rfl)
theorem ex_h2X3 (c : HK.Says fs dfs K) : ∃ f t, (HK.fsAt K (ad_cdX3 K))[2]? = some (Value.str f t) ∧ ((RW.prog.main.file : Str) == f) = true := HK.fileB_ok (c.fact 11 14 rfl rfl)
theorem ex_lccX3 (c : HK.Says fs dfs K) : ∃ e d s, K.lookup (ad_ccX3 K) = some ⟨e, d, .cell (some (.ref (ad_CX3 K))), s⟩ := HK.cellB_ok (c.fact 11 15 rfl rfl)
theorem fa_xfX3 (c : HK.Says fs dfs K) : xfB K (ad_CX3 K) = true := (c.fact 11 16 rfl rfl)
theorem fa_noX3 (c : HK.Says fs dfs K) : noB K (ad_CX3 K) NOSX = true := (c.fact 11 17 rfl rfl)
theorem fa_emX3 (c : HK.Says fs dfs K) : PySem.W.exmAny K (.ref (ad_CX3 K)) [.ref (ad_G1 K), .ref (ad_G2 K), .ref (ad_G3 K)] = some true := HK.dB (c.fact 11 18 rfl rfl)
theorem fa_aX4 (c : HK.Says fs dfs K) : PySem.W.nsIn K mainGlobals "SplitSide" = some (some (.ref (ad_CX4 K))) := HK.dB (c.fact 11 19 rfl rfl)
theorem ex_lX4 (c : HK.Says fs dfs K) : ∃ nm q N bs bm sn sub ab col dd k0 k1 k2 k3 k5, K.lookup (ad_CX4 K) = some (excClassObj nm q (ad_CX4 K) N bs bm true sn sub ab col dd k0 k1 k2 k3 k5 "ValueError.__new__") ∧ PySem.W.excTail [.type "ValueError", .type "Exception", .type "BaseException", .type "object"] bm = true := HK.exB_ok (c.fact 11 20 rfl rfl)
theorem fa_obX4 (c : HK.Says fs dfs K) : oxB K "ValueError" (ad_CX4 K) = true := (c.fact 11 21 rfl rfl)
theorem fa_iX4 (c : HK.Says fs dfs K) : PySem.W.findIn K (.ref (ad_CX4 K)) "__init__" = some (some (.ref (ad_fX4 K))) := HK.dB (c.fact 11 22 rfl rfl)
theorem fa_tiX4 (c : HK.Says fs dfs K) : PySem.W.typeIn K (.ref (ad_fX4 K)) = some (.type "function") := HK.dB (c.fact 11 23 rfl rfl)
theorem ex_lfX4 (c : HK.Says fs dfs K) : (∃ oc od osl doc pm an ct, K.lookup (ad_fX4 K) = some ⟨oc, od, .func (PySem.W.ksFn "__init__" "SplitSide.__init__" (defArgs st_SplitSide___init__) (defBody st_SplitSide___init__) (defScope st_SplitSide___init__) .none (HK.fdAt K (ad_fX4 K)).kwdefaults doc pm an (.ref (ad_cdX4 K)) ct (ad_ccX4 K)), osl⟩) ∧ PySem.W.codeIn K (.ref (ad_cdX4 K)) "SplitSide.__init__" = true := c.fnC 60 (dV := .none) (kV := (HK.fdAt K (ad_fX4 K)).kwdefaults) (cdv := (.ref (ad_cdX4 K))) rfl rfl (HK.dB (c.fact 11 24 rfl rfl)) rfl (HK.dB (c.fact 12 0 rfl rfl))
theorem ex_lcX4 (c : HK.Says fs dfs K) : ∃ e dd sl, K.lookup (ad_cdX4 K) = some ⟨e, dd, .fields (HK.fsAt K (ad_cdX4 K)), sl⟩ := HK.isFields_ok (c.fact 12 1 rfl rfl)
theorem ex_h2X4 (c : HK.Says fs dfs K) : ∃ f t, (HK.fsAt K (ad_cdX4 K))[2]? = some (Value.str f t) ∧ ((RW.prog.main.file : Str) == f) = true := HK.fileB_ok (c.fact 12 2 rfl rfl)
theorem ex_lccX4 (c : HK.Says fs dfs K) : ∃ e d s, K.lookup (ad_ccX4 K) = some ⟨e, d, .cell (some (.ref (ad_CX4 K))), s⟩ := HK.cellB_ok (c.fact 12 3 rfl rfl)
theorem fa_xfX4 (c : HK.Says fs dfs K) : xfB K (ad_CX4 K) = true := (c.fact 12 4 rfl rfl)
theorem fa_noX4 (c : HK.Says fs dfs K) : noB K (ad_CX4 K) NOSX = true := (c.fact 12 5 rfl rfl)
theorem fa_emX4 (c : HK.Says fs dfs K) : PySem.W.exmAny K (.ref (ad_CX4 K)) [.ref (ad_G1 K), .ref (ad_G2 K), .ref (ad_G3 K)] = some true := HK.dB (c.fact 12 6 rfl rfl)
theorem fa_aX5 (c : HK.Says fs dfs K) : PySem.W.nsIn K mainGlobals "UnknownSide" = some (some (.ref (ad_CX5 K))) := HK.dB (c.fact 12 7 rfl rfl)
theorem ex_lX5 (c : HK.Says fs dfs K) : ∃ nm q N bs bm sn sub ab col dd k0 k1 k2 k3 k5, K.lookup (ad_CX5 K) = some (excClassObj nm q (ad_CX5 K) N bs bm true sn sub ab col dd k0 k1 k2 k3 k5 "LookupError.__new__") ∧ PySem.W.excTail [.type "LookupError", .type "Exception", .type "BaseException", .type "object"] bm = true := HK.exB_ok (c.fact 12 8 rfl rfl)
theorem fa_obX5 (c : HK.Says fs dfs K) : oxB K "LookupError" (ad_CX5 K) = true := (c.fact 12 9 rfl rfl)
theorem fa_iX5 (c : HK.Says fs dfs K) : PySem.W.findIn K (.ref (ad_CX5 K)) "__init__" = some (some (.ref (ad_fX5 K))) := HK.dB (c.fact 12 10 rfl rfl)
theorem fa_tiX5 (c : HK.Says fs dfs K) : PySem.W.typeIn K (.ref (ad_fX5 K)) = some (.type "function") := HK.dB (c.fact 12 11 rfl rfl)
theorem ex_lfX5 (c : HK.Says fs dfs K) : (∃ oc od osl doc pm an ct, K.lookup (ad_fX5 K) = some ⟨oc, od, .func (PySem.W.ksFn "__init__" "UnknownSide.__init__" (defArgs st_UnknownSide___init__) (defBody st_UnknownSide___init__) (defScope st_UnknownSide___init__) .none (HK.fdAt K (ad_fX5 K)).kwdefaults doc pm an (.ref (ad_cdX5 K)) ct (ad_ccX5 K)), osl⟩) ∧ PySem.W.codeIn K (.ref (ad_cdX5 K)) "UnknownSide.__init__" = true := c.fnC 61 (dV := .none) (kV := (HK.fdAt K (ad_fX5 K)).kwdefaults) (cdv := (.ref (ad_cdX5 K))) rfl rfl (HK.dB (c.fact 12 12 rfl rfl)) rfl (HK.dB (c.fact 12 13 rfl rfl))
theorem ex_lcX5 (c : HK.Says fs dfs K) : ∃ e dd sl, K.lookup (ad_cdX5 K) = some ⟨e, dd, .fields (HK.fsAt K (ad_cdX5 K)), sl⟩ := HK.isFields_ok (c.fact 12 14 rfl rfl)
theorem ex_h2X5 (c : HK.Says fs dfs K) : ∃ f t, (HK.fsAt K (ad_cdX5 K))[2]? = some (Value.str f t) ∧ ((RW.prog.main.file : Str) == f) = true := HK.fileB_ok (c.fact 12 15 rfl rfl)
theorem ex_lccX5 (c : HK.Says fs dfs K) : ∃ e d s, K.lookup (ad_ccX5 K) = some ⟨e, d, .cell (some (.ref (ad_CX5 K))), s⟩ := HK.cellB_ok (c.fact 12 16 rfl rfl)
theorem fa_xfX5 (c : HK.Says fs dfs K) : xfB K (ad_CX5 K) = true := (c.fact 12 17 rfl rfl)
theorem fa_noX5 (c : HK.Says fs dfs K) : noB K (ad_CX5 K) NOSX = true := (c.fact 12 18 rfl rfl)
theorem fa_emX5 (c : HK.Says fs dfs K) : PySem.W.exmAny K (.ref (ad_CX5 K)) [.ref (ad_G1 K), .ref (ad_G2 K), .ref (ad_G3 K)] = some true := HK.dB (c.fact 12 19 rfl rfl)
abbrev RO : PySem.W.OpenRow := PySem.W.OpenLaw.row RW
abbrev qv : Program := PySem.W.view RO.prog [67]
theorem facts {w : World} {h : Heap} {mg : Str → Option Value} {fa : Addr} (X : K.In h) (G : h.Ns mainGlobals mg) (hfa : mg "law" = some (.ref fa)) (c : HK.Says fs dfs K)
    : ∃ (fd : FuncData) (cs : List (Addr × Addr)), (cs.map (·.2)).Nodup ∧ cs.length = 1 ∧
        (∀ p ∈ cs, K.lookup p.2 = none ∧ PySem.W.codeHdIn K p.1 p.2 = true ∧ ∃ (nm : Str) (f : Addr) (o : Obj) (fd : FuncData) (e : Value) (dd : Option Addr) (vs : Array Value) (sl : Array (Option Value)), ((recsOf qv).any fun e => e.name == nm) = true ∧ mg nm = some (.ref f) ∧ K.lookup f = some o ∧ o.data = .func fd ∧ fd.code = .ref p.1 ∧ K.lookup p.1 = some ⟨e, dd, .fields vs, sl⟩ ∧ vs[11]? = some (.ref p.2)) ∧
        (∀ (s : Shared) (u : Value), BindsTo s fd ⟨[u], []⟩ [("_law_script", u)]) ∧
        ∀ base : Heap, K.In base → base.Ns mainGlobals mg → (∀ p ∈ cs, LamX.TabB base mg p.1 p.2) → FnOk RW.prog w K mg base (L2.CX RW.prog w) 40 fa fd ["_law_script"] (spD K 1 (ph_law (cs.map (·.2)))) := by
  obtain ⟨_, _, _, _, _, _, _, h_l0⟩ := (ex_l0 c).1
  obtain ⟨_, _, _, _, _, _, _, h_l1⟩ := (ex_l1 c).1
  obtain ⟨_, _, _, _, _, _, _, h_l2⟩ := (ex_l2 c).1
  obtain ⟨_, _, _, _, _, _, _, h_l3⟩ := (ex_l3 c).1
  obtain ⟨_, _, _, _, _, _, _, h_l4⟩ := (ex_l4 c).1
  obtain ⟨_, _, _, _, _, _, _, h_l5⟩ := (ex_l5 c).1
  obtain ⟨_, _, _, _, _, _, _, h_l6⟩ := (ex_l6 c).1
  obtain ⟨_, _, _, _, _, _, _, h_l7⟩ := (ex_l7 c).1
  obtain ⟨_, _, _, _, _, _, _, h_l8⟩ := (ex_l8 c).1
  obtain ⟨_, _, _, _, _, _, _, h_l9⟩ := (ex_l9 c).1
  obtain ⟨_, _, _, _, _, _, _, h_l10⟩ := (ex_l10 c).1
  obtain ⟨_, _, _, _, _, _, _, h_l11⟩ := (ex_l11 c).1
  obtain ⟨_, _, _, _, _, _, _, h_l12⟩ := (ex_l12 c).1
  obtain ⟨_, _, _, _, _, _, _, h_l13⟩ := (ex_l13 c).1
  obtain ⟨_, _, _, _, _, _, _, h_l14⟩ := (ex_l14 c).1
  obtain ⟨_, _, _, _, _, _, _, h_l15⟩ := (ex_l15 c).1
  obtain ⟨_, _, _, _, _, _, _, h_l16⟩ := (ex_l16 c).1
  obtain ⟨_, _, _, _, _, _, _, h_l17⟩ := (ex_l17 c).1
  obtain ⟨_, _, _, _, _, _, _, h_l18⟩ := (ex_l18 c).1
  obtain ⟨_, _, _, _, _, _, _, h_l19⟩ := (ex_l19 c).1
  obtain ⟨_, _, _, _, _, _, _, h_l20⟩ := (ex_l20 c).1
  obtain ⟨_, _, _, _, _, _, _, h_l21⟩ := (ex_l21 c).1
  obtain ⟨_, _, _, _, _, _, _, h_l22⟩ := (ex_l22 c).1
  obtain ⟨_, _, _, _, _, _, _, h_l23⟩ := (ex_l23 c).1
  obtain ⟨_, _, _, _, _, _, _, h_l24⟩ := (ex_l24 c).1
  obtain ⟨_, _, _, _, _, _, _, h_l25⟩ := (ex_l25 c).1
  obtain ⟨_, _, _, _, _, _, _, h_l26⟩ := (ex_l26 c).1
  obtain ⟨_, _, _, _, _, _, _, h_l27⟩ := (ex_l27 c).1
  obtain ⟨_, _, _, _, _, _, _, h_l28⟩ := (ex_l28 c).1
  obtain ⟨_, _, _, _, _, _, _, h_l29⟩ := (ex_l29 c).1
  obtain ⟨_, _, _, _, _, _, _, h_l30⟩ := (ex_l30 c).1
  obtain ⟨_, _, _, _, _, _, _, h_l31⟩ := (ex_l31 c).1
  obtain ⟨_, _, _, _, _, _, _, h_l32⟩ := (ex_l32 c).1
  obtain ⟨_, _, _, _, _, _, _, h_l33⟩ := (ex_l33 c).1
  obtain ⟨_, _, _, _, _, _, _, h_l34⟩ := (ex_l34 c).1
  obtain ⟨_, _, _, _, _, _, _, h_l35⟩ := (ex_l35 c).1
  obtain ⟨_, _, _, _, _, _, _, h_l36⟩ := (ex_l36 c).1
  obtain ⟨_, _, _, _, _, _, _, h_l37⟩ := (ex_l37 c).1
  obtain ⟨_, _, _, _, _, _, _, h_l38⟩ := (ex_l38 c).1
  obtain ⟨_, _, _, _, _, _, _, h_l39⟩ := (ex_l39 c).1
  obtain ⟨_, _, _, _, _, _, _, h_l40⟩ := (ex_l40 c).1
  obtain ⟨_, _, _, _, _, _, _, h_l41⟩ := (ex_l41 c).1
  obtain ⟨_, _, _, _, _, _, _, h_l42⟩ := (ex_l42 c).1
  obtain ⟨_, _, _, _, _, _, _, h_l43⟩ := (ex_l43 c).1
  obtain ⟨_, _, _, _, _, _, _, h_l44⟩ := (ex_l44 c).1
  obtain ⟨_, _, _, _, _, _, _, h_l45⟩ := (ex_l45 c).1
  obtain ⟨_, _, _, _, _, _, _, h_l46⟩ := (ex_l46 c).1
  obtain ⟨_, _, _, _, _, _, _, h_l47⟩ := (ex_l47 c).1
  obtain ⟨_, _, _, _, _, _, _, h_l48⟩ := (ex_l48 c).1
  obtain ⟨_, _, _, _, _, _, _, h_l49⟩ := (ex_l49 c).1
  obtain ⟨_, _, _, _, _, _, _, h_l50⟩ := (ex_l50 c).1
  obtain ⟨_, _, _, _, _, _, _, h_l51⟩ := (ex_l51 c).1
  obtain ⟨_, _, _, _, _, _, _, h_l52⟩ := (ex_l52 c).1
  obtain ⟨_, _, _, _, _, _, _, h_l53⟩ := (ex_l53 c).1
  obtain ⟨_, _, _, _, _, _, _, h_l54⟩ := (ex_l54 c).1
  obtain ⟨_, _, _, h_lcL54⟩ := ex_lcL54 c
  obtain ⟨_, _, _, _, _, _, _, h_lT⟩ := (ex_lT c).1
  obtain ⟨_, _, _, _, _, _, _, _, _, _, _, _, _, _, _, h_lX0, r_bmX0⟩ := ex_lX0 c
  obtain ⟨_, _, _, _, _, _, _, h_lfX0⟩ := (ex_lfX0 c).1
  obtain ⟨_, _, _, h_lcX0⟩ := ex_lcX0 c
  obtain ⟨_, _, h_h2X0, r_fileX0⟩ := ex_h2X0 c
  obtain ⟨_, _, _, h_lccX0⟩ := ex_lccX0 c
  obtain ⟨_, _, _, _, _, _, _, _, _, _, _, _, _, _, _, h_lX1, r_bmX1⟩ := ex_lX1 c
  obtain ⟨_, _, _, _, _, _, _, h_lfX1⟩ := (ex_lfX1 c).1
  obtain ⟨_, _, _, h_lcX1⟩ := ex_lcX1 c
  obtain ⟨_, _, h_h2X1, r_fileX1⟩ := ex_h2X1 c
  obtain ⟨_, _, _, h_lccX1⟩ := ex_lccX1 c
  obtain ⟨_, _, _, _, _, _, _, _, _, _, _, _, _, _, _, h_lX2, r_bmX2⟩ := ex_lX2 c
  obtain ⟨_, _, _, _, _, _, _, h_lfX2⟩ := (ex_lfX2 c).1
  obtain ⟨_, _, _, h_lcX2⟩ := ex_lcX2 c
  obtain ⟨_, _, h_h2X2, r_fileX2⟩ := ex_h2X2 c
  obtain ⟨_, _, _, h_lccX2⟩ := ex_lccX2 c
  obtain ⟨_, _, _, _, _, _, _, _, _, _, _, _, _, _, _, h_lX3, r_bmX3⟩ := ex_lX3 c
  obtain ⟨_, _, _, _, _, _, _, h_lfX3⟩ := (ex_lfX3 c).1
  obtain ⟨_, _, _, h_lcX3⟩ := ex_lcX3 c
  obtain ⟨_, _, h_h2X3, r_fileX3⟩ := ex_h2X3 c
  obtain ⟨_, _, _, h_lccX3⟩ := ex_lccX3 c
  obtain ⟨_, _, _, _, _, _, _, _, _, _, _, _, _, _, _, h_lX4, r_bmX4⟩ := ex_lX4 c
  obtain ⟨_, _, _, _, _, _, _, h_lfX4⟩ := (ex_lfX4 c).1
  obtain ⟨_, _, _, h_lcX4⟩ := ex_lcX4 c
  obtain ⟨_, _, h_h2X4, r_fileX4⟩ := ex_h2X4 c
  obtain ⟨_, _, _, h_lccX4⟩ := ex_lccX4 c
  obtain ⟨_, _, _, _, _, _, _, _, _, _, _, _, _, _, _, h_lX5, r_bmX5⟩ := ex_lX5 c
  obtain ⟨_, _, _, _, _, _, _, h_lfX5⟩ := (ex_lfX5 c).1
  obtain ⟨_, _, _, h_lcX5⟩ := ex_lcX5 c
  obtain ⟨_, _, h_h2X5, r_fileX5⟩ := ex_h2X5 c
  obtain ⟨_, _, _, h_lccX5⟩ := ex_lccX5 c
  exact all_mk (l := RW) (q := qv) X G hfa (fa_aC0 c) (fa_pg0 c) (fa_hd0 c) (fa_po0 c) (fa_sa0 c) (fa_ha0 c) (fa_hm0 c) (fa_ic0 c) (fa_ty0 c) (fa_sf0 c) (fa_kb0_non c) (fa_kb0_bl c) (fa_kb0_int c) (fa_kb0_str c) (fa_kb0_lst c) (fa_kb0_tup c) (fa_ki0_bool c) (fa_ki0_int c) (fa_ki0_list c) (fa_ki0_str c) (fa_ki0_tuple c) (fa_hn c) (fa_htk c) (fa_na_Tile_inward c) (fa_na_Tile_own_corners c) (fa_na_Tile_own_name c) (fa_na_Tile_own_winds c) (fa_a0 c) h_l0 (ex_l0 c).2 (fa_k0 c) (fa_a1 c) h_l1 (ex_l1 c).2 (fa_k1 c) (fa_a2 c) h_l2 (ex_l2 c).2 (fa_k2 c) (fa_a3 c) h_l3 (ex_l3 c).2 (fa_k3 c) (fa_a4 c) h_l4 (ex_l4 c).2 (fa_k4 c) (fa_a5 c) h_l5 (ex_l5 c).2 (fa_k5 c) (fa_a6 c) h_l6 (ex_l6 c).2 (fa_k6 c) (fa_a7 c) h_l7 (ex_l7 c).2 (fa_k7 c) (fa_a8 c) h_l8 (ex_l8 c).2 (fa_k8 c) (fa_a9 c) h_l9 (ex_l9 c).2 (fa_k9 c) (fa_a10 c) h_l10 (ex_l10 c).2 (fa_k10 c) (fa_a11 c) h_l11 (ex_l11 c).2 (fa_k11 c) (fa_a12 c) h_l12 (ex_l12 c).2 (fa_k12 c) (fa_a13 c) (fa_i13 c) h_l13 (ex_l13 c).2 (fa_k13 c) (fa_a14 c) (fa_g14 c) (fa_t14 c) (fa_r14 c) h_l14 (ex_l14 c).2 (fa_k14 c) (fa_a15 c) (fa_g15 c) (fa_t15 c) (fa_r15 c) h_l15 (ex_l15 c).2 (fa_k15 c) (fa_a16 c) (fa_g16 c) (fa_t16 c) (fa_r16 c) h_l16 (ex_l16 c).2 (fa_k16 c) (fa_a17 c) (fa_i17 c) h_l17 (ex_l17 c).2 (fa_k17 c) (fa_a18 c) (fa_i18 c) h_l18 (ex_l18 c).2 (fa_k18 c) (fa_a19 c) (fa_i19 c) h_l19 (ex_l19 c).2 (fa_k19 c) (fa_a20 c) (fa_i20 c) h_l20 (ex_l20 c).2 (fa_k20 c) (fa_a21 c) (fa_i21 c) h_l21 (ex_l21 c).2 (fa_k21 c) (fa_a22 c) h_l22 (ex_l22 c).2 (fa_k22 c) (fa_a23 c) h_l23 (ex_l23 c).2 (fa_k23 c) (fa_a24 c) h_l24 (ex_l24 c).2 (fa_k24 c) (fa_a25 c) h_l25 (ex_l25 c).2 (fa_k25 c) (fa_a26 c) h_l26 (ex_l26 c).2 (fa_k26 c) (fa_a27 c) h_l27 (ex_l27 c).2 (fa_k27 c) (fa_a28 c) h_l28 (ex_l28 c).2 (fa_k28 c) (fa_a29 c) h_l29 (ex_l29 c).2 (fa_k29 c) (fa_a30 c) h_l30 (ex_l30 c).2 (fa_k30 c) (fa_a31 c) h_l31 (ex_l31 c).2 (fa_k31 c) (fa_a32 c) h_l32 (ex_l32 c).2 (fa_k32 c) (fa_a33 c) h_l33 (ex_l33 c).2 (fa_k33 c) (fa_a34 c) h_l34 (ex_l34 c).2 (fa_k34 c) (fa_a35 c) h_l35 (ex_l35 c).2 (fa_k35 c) (fa_a36 c) h_l36 (ex_l36 c).2 (fa_k36 c) (fa_a37 c) h_l37 (ex_l37 c).2 (fa_k37 c) (fa_a38 c) h_l38 (ex_l38 c).2 (fa_k38 c) (fa_a39 c) h_l39 (ex_l39 c).2 (fa_k39 c) (fa_a40 c) h_l40 (ex_l40 c).2 (fa_k40 c) (fa_a41 c) h_l41 (ex_l41 c).2 (fa_k41 c) (fa_a42 c) h_l42 (ex_l42 c).2 (fa_k42 c) (fa_a43 c) h_l43 (ex_l43 c).2 (fa_k43 c) (fa_a44 c) h_l44 (ex_l44 c).2 (fa_k44 c) (fa_a45 c) h_l45 (ex_l45 c).2 (fa_k45 c) (fa_a46 c) h_l46 (ex_l46 c).2 (fa_k46 c) (fa_a47 c) h_l47 (ex_l47 c).2 (fa_k47 c) (fa_a48 c) h_l48 (ex_l48 c).2 (fa_k48 c) (fa_a49 c) h_l49 (ex_l49 c).2 (fa_k49 c) (fa_a50 c) h_l50 (ex_l50 c).2 (fa_k50 c) (fa_a51 c) h_l51 (ex_l51 c).2 (fa_k51 c) (fa_a52 c) h_l52 (ex_l52 c).2 (fa_k52 c) (fa_a53 c) h_l53 (ex_l53 c).2 (fa_k53 c) (fa_a54 c) h_l54 (ex_l54 c).2 (fa_k54 c) (fa_mk0 c) (fa_kc0 c) (fa_b_abs c) (fa_b_all c) (fa_b_bool c) (fa_b_enumerate c) (fa_b_int c) (fa_b_isinstance c) (fa_b_len c) (fa_b_list c) (fa_b_max c) (fa_b_min c) (fa_b_range c) (fa_b_repr c) (fa_b_str c) (fa_b_tuple c) (fa_b_zip c) (fa_c_FARTHEST c) (fa_c_FEWEST c) (fa_c_LETTERS c) (fa_c_LONGEST_NAME c) (fa_c_MOST_CORNERS c) h_lcL54 (fa_pL54 c) (fa_nPL54 c) (fa_hdL54 c) (by first | decide +kernel | kernel_rfl) (fa_aT c) (fa_kT c) h_lT (ex_lT c).2 (fa_ga c) (fa_gb c) (fa_gc c) (fa_suX c) (fa_opX c) (by kernel_rfl) (fa_aX0 c) h_lX0 r_bmX0 (fa_obX0 c) (fa_iX0 c) (fa_tiX0 c) h_lfX0 h_lcX0 h_h2X0 r_fileX0 h_lccX0 (ex_lfX0 c).2 (fa_xfX0 c) (fa_noX0 c) (fa_emX0 c) (fa_aX1 c) h_lX1 r_bmX1 (fa_obX1 c) (fa_iX1 c) (fa_tiX1 c) h_lfX1 h_lcX1 h_h2X1 r_fileX1 h_lccX1 (ex_lfX1 c).2 (fa_xfX1 c) (fa_noX1 c) (fa_emX1 c) (fa_aX2 c) h_lX2 r_bmX2 (fa_obX2 c) (fa_iX2 c) (fa_tiX2 c) h_lfX2 h_lcX2 h_h2X2 r_fileX2 h_lccX2 (ex_lfX2 c).2 (fa_xfX2 c) (fa_noX2 c) (fa_emX2 c) (fa_aX3 c) h_lX3 r_bmX3 (fa_obX3 c) (fa_iX3 c) (fa_tiX3 c) h_lfX3 h_lcX3 h_h2X3 r_fileX3 h_lccX3 (ex_lfX3 c).2 (fa_xfX3 c) (fa_noX3 c) (fa_emX3 c) (fa_aX4 c) h_lX4 r_bmX4 (fa_obX4 c) (fa_iX4 c) (fa_tiX4 c) h_lfX4 h_lcX4 h_h2X4 r_fileX4 h_lccX4 (ex_lfX4 c).2 (fa_xfX4 c) (fa_noX4 c) (fa_emX4 c) (fa_aX5 c) h_lX5 r_bmX5 (fa_obX5 c) (fa_iX5 c) (fa_tiX5 c) h_lfX5 h_lcX5 h_h2X5 r_fileX5 h_lccX5 (ex_lfX5 c).2 (fa_xfX5 c) (fa_noX5 c) (fa_emX5 c)
end
def nm0 : List PySem.Str := ["_wall", "GustError", "Missing", "InvalidName", "InvalidCorners", "NotConvex", "InvalidWinds", "SplitSide", "UnknownSide", "NothingLeft", "is_number", "LETTERS", "LONGEST_NAME", "FARTHEST", "is_name", "is_point", "is_wind", "is_listed", "cross", "towards", "turning", "side_of", "is_side", "FEWEST", "MOST_CORNERS", "check_corners", "check_winds", "corner_pairs", "Tile", "_law_pull"]
def nm1 : List PySem.Str := ["_law_pick", "_law_is_dot", "_law_lead", "_law_is_wind", "_law_start", "_law_shapes", "_law_new_names", "_law_moved", "_law_shuffled", "_law_finished", "_law_quarter", "_law_key", "_law_bordered", "_law_cross", "_law_winds", "_law_grid", "_law_drawn", "_law_is_name", "_law_border", "_law_turn", "_law_dots_due", "_law_winds_due", "_law_tile_due", "_law_fields", "_law_try", "_law_keys", "_law_sort", "_law_same", "_law_lets", "_law_tile_so"]
def nm2 : List PySem.Str := ["_law_bent_dots", "_law_bent_winds"]
def names : List PySem.Str := nm0 ++ nm1 ++ nm2
abbrev hk : PySem.W.Hook := HK.hookK fs dfs
theorem run (w : World) : HandSHeadRun.RunEq RO qv hk (HK.obK fs dfs) 40000 names w := by
  intro os
  kernel_rfl
end W12
open PySem PySem.W PySem.Calls PyProof.Rows
theorem PySem.Challenge.cw_gustfloor_k12_tiles_refused_holds : PySem.Challenge.rw_gustfloor_k12_tiles_refused.Holds := by
  w_on; o_law
  refine HandSHeadRun.head_any (r := OpenLaw.row PySem.Challenge.rw_gustfloor_k12_tiles_refused) (q := W12.qv) (H := W12.hk) (ob := HK.obK W12.fs W12.dfs) (M := 40000) (loose := W12.names) (d := HandSHeadRun.topDef (OpenLaw.row PySem.Challenge.rw_gustfloor_k12_tiles_refused).prog 67) (kwd := []) (HK.obK_eq W12.fs W12.dfs)
    (by kernel_rfl) (fun s => by kernel_rfl) W12.run (by kernel_rfl) (by kernel_rfl) (by kernel_rfl) (by rfl) (by first | assumption | decide +kernel) (by decide +kernel) ⟨rfl, rfl, rfl, rfl, rfl, by decide +kernel⟩ ?hw ?hc
  case hw => w_witness2
  case hc =>
    refine DL.walk_DTsE (l := PySem.Challenge.rw_gustfloor_k12_tiles_refused) (k := 40) (φ := W12.ph_law) (x := "_law_script") ["law" ++ ".<locals>." ++ "<lambda>"] rfl rfl ⟨rfl, by decide, by decide⟩ (fun Ps ns M kk xx h1 h2 h3 h4 h5 h6 h7 => W12.ph_law_of h1 h4 h5 h7) ?F
    intro w mg fa h Y G hmg0
    obtain ⟨K, KX, c⟩ := Y
    have hmg : mg ("law" : PySem.Str) = some (.ref fa) := by
      have e : (HandSHeadRun.topDef (OpenLaw.row PySem.Challenge.rw_gustfloor_k12_tiles_refused).prog 67).name = ("law" : PySem.Str) := by kernel_rfl
      rw [← e]
      exact hmg0
    exact ⟨K, KX, W12.facts KX G hmg c⟩
#print axioms PySem.Challenge.cw_gustfloor_k12_tiles_refused_holds
