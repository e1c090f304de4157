import PyProof.Rows.All
import Wide.All
import OpenK.AllK
import Wide.FinOn
import HandS.ForMost
import HandS.IsInst
import HandS.Zip
import HandS.Wide
import HandS.Defaults
import HandS.OwnEq
import HandS.EndBits
import HandS.Flow
import HandS.ExcInit
import HandS.Style
import HandS.Lambda
import KE.KeyNested
import KE.KDictKeyed
import HandS.MakeKw
import HandS.MakeKwOnly
import HandS.Property
import HandS.ForExc
import HandS.TupAny
import HandS.More
import KE.KOpsOwn
import KE.KCallOwn
import HandS.SlotsOwn
import HandS.ClsMeth
import HandS.Star
import PyProof.NeKinds
import HandS.TryMany
import HandS.ExcField
import KE.KExcSuper
import HandS.HotCalls
import KE.KTryMore
import HandS.EndTab
import HandS.EndOwn
import KE.KNestM
import KE.KExcInit
import KE.KExcIs
import KE.KDflt
import KE.KFmtOwn
import HandS.FStr
import HandS.Text
import PyProof.Rows.StrOr
import PyProof.StrOps2
import HandS.TryOnly
import HandS.Deep
import KE.DataCmp
import HandS.Iter
import PySem.Challenge.RW_gustfloor_k09_errors_by_themselves
import KE.KStateDown
import HandS.Head0
import HandS.Head1
import HandS.Head2
import HandS.HeadHook1
import HandS.HeadHook2
import HandS.HeadEnd
set_option Elab.async false
set_option linter.all false
set_option maxRecDepth 100000
set_option maxHeartbeats 2000000
namespace DL
open PySem PySem.Spec PyProof.Rows L2

/-- data as trees; cel a: the changing object at a -/
inductive D where
  | non | bl (b : Bool) | int (i : Int) | str (x : Str) | lst (ds : List D) | tup (ds : List D) | obj (C : Addr) (fs : List (Str × D)) | cel (a : Addr) | scr (ns : List Int) | exc (a dd : Addr) (fs : List (Str × D)) | lam (f c : Addr) (q : Str) (P : Heap → Prop) (t : Option Addr) | err (C : Addr) (fs : List (Str × D)) | dic (w : World) (es : List (NestedKey × D))
mutual
/-- a key of a dict, as data -/
def kD : NestedKey → D
  | .none => .non
  | .num i => .int i
  | .text x => .str x
  | .tup ks => .tup (kDs ks)
def kDs : List NestedKey → List D
  | [] => []
  | k :: ks => kD k :: kDs ks
end
/-- a dict whose keys are tuples of keys, by its own object: keys, where they stand, values -/
def DicO (w : World) (a : Addr) (kvs : List (NestedKey × Addr × V)) : HO := .ext fun h => kvs.length ≤ sizeLine ∧ (a == sysModules) = false ∧ ∃ xs : List (NestedKey × Addr × Value),
  Paired (fun (p : NestedKey × Addr × V) (q : NestedKey × Addr × Value) => p.1 = q.1 ∧ p.2.1 = q.2.1 ∧ RelV p.2.2 q.2.2) kvs xs ∧
  ∃ o es ep, h.get? a = some o ∧ o.ExactDict ∧ o.data = .dict es ep ∧ es.toList = xs.map (fun x => (⟨x.1.hash w, .ref x.2.1, x.2.2⟩ : DictEntry)) ∧ (xs.map (·.1)).Nodup

mutual
inductive Rep (K : PySem.W.Frag) (G : Hp) : V → D → Prop where
  | non : Rep K G .non .non
  | bl {b : Bool} : Rep K G (.bl b) (.bl b)
  | int {i : Int} : Rep K G (.int i) (.int i)
  | str {x : Str} : Rep K G (.str x) (.str x)
  | lst {a : Addr} {vs : List V} {ds : List D} (h : G a = some (.lst vs)) (r : Reps K G vs ds) : Rep K G (.ref a) (.lst ds)
  | tup {a : Addr} {vs : List V} {ds : List D} (h : SqT K G a vs) (r : Reps K G vs ds) : Rep K G (.ref a) (.tup ds)
  | obj {a C dx : Addr} {fvs : List (Str × V)} {fs : List (Str × D)} (h : G a = some (.ins C dx fvs)) (r : FRep K G fvs fs) : Rep K G (.ref a) (.obj C fs)
  | cel {a : Addr} : Rep K G (.ref a) (.cel a)
  | scr {a : Addr} {ns : List Int} (h : SqL K G a (ns.map V.int)) : Rep K G (.ref a) (.scr ns)
  | exc {a dd : Addr} {fvs : List (Str × V)} {fs : List (Str × D)} (h : G dd = some (.xd fvs)) (r : FRep K G fvs fs) : Rep K G (.ref a) (.exc a dd fs)
  | lam {f c : Addr} {q : Str} {P : Heap → Prop} {t : Option Addr} (h : G f = some (.ext P)) (hc : G c = some (LamX.CodeO c q)) (ht : ∀ b, t = some b → G b = some (.tup [.int 0])) : Rep K G (.ref f) (.lam f c q P t)
  | err {a dd C : Addr} {fvs : List (Str × V)} {fs : List (Str × D)} (h : G a = some (exo a C (some dd))) (hd : G dd = some (exd dd fvs)) (r : FRep K G fvs fs) : Rep K G (.ref a) (.err C fs)
  | dic {a : Addr} {w : World} {kvs : List (NestedKey × Addr × V)} {es : List (NestedKey × D)} (h : G a = some (DicO w a kvs)) (r : DRep K G kvs es) : Rep K G (.ref a) (.dic w es)
inductive Reps (K : PySem.W.Frag) (G : Hp) : List V → List D → Prop where
  | nil : Reps K G [] []
  | cons {v : V} {d : D} {vs : List V} {ds : List D} (h : Rep K G v d) (r : Reps K G vs ds) : Reps K G (v :: vs) (d :: ds)
inductive FRep (K : PySem.W.Frag) (G : Hp) : List (Str × V) → List (Str × D) → Prop where
  | nil : FRep K G [] []
  | cons {f : Str} {v : V} {d : D} {vs : List (Str × V)} {ds : List (Str × D)} (h : Rep K G v d) (r : FRep K G vs ds) : FRep K G ((f, v) :: vs) ((f, d) :: ds)
inductive DRep (K : PySem.W.Frag) (G : Hp) : List (NestedKey × Addr × V) → List (NestedKey × D) → Prop where
  | nil : DRep K G [] []
  | cons {k : NestedKey} {b : Addr} {v : V} {d : D} {vs : List (NestedKey × Addr × V)} {ds : List (NestedKey × D)} (hz : k.depth ≤ 8) (hk : Rep K G (.ref b) (kD k)) (h : Rep K G v d) (r : DRep K G vs ds) : DRep K G ((k, b, v) :: vs) ((k, d) :: ds)
end

theorem Same.seqL {K : PySem.W.Frag} {H H' : Hp} {a : Addr} {xs : List V} (e : Same H H') (h : SqL K H a xs) : SqL K H' a xs := by
  rcases h with (h | ⟨o, h⟩) | h
  · exact .inl (.inl (e _ _ h))
  · exact .inl (.inr ⟨o, e _ _ h⟩)
  · exact .inr h
theorem Same.seqT {K : PySem.W.Frag} {H H' : Hp} {a : Addr} {xs : List V} (e : Same H H') (h : SqT K H a xs) : SqT K H' a xs := by
  rcases h with (h | ⟨o, h⟩) | h
  · exact .inl (.inl (e _ _ h))
  · exact .inl (.inr ⟨o, e _ _ h⟩)
  · exact .inr h
section
variable {K : PySem.W.Frag} {G G' : Hp}
mutual
theorem Rep.same (s : Same G G') : ∀ {v : V} {d : D}, Rep K G v d → Rep K G' v d
  | _, _, .non => .non
  | _, _, .bl => .bl
  | _, _, .int => .int
  | _, _, .str => .str
  | _, _, .lst h r => .lst (s _ _ h) (Reps.same s r)
  | _, _, .tup h r => .tup (Same.seqT s h) (Reps.same s r)
  | _, _, .obj h r => .obj (s _ _ h) (FRep.same s r)
  | _, _, .cel => .cel
  | _, _, .scr h => .scr (Same.seqL s h)
  | _, _, .exc h r => .exc (s _ _ h) (FRep.same s r)
  | _, _, .lam h hc ht => .lam (s _ _ h) (s _ _ hc) (fun b e => s _ _ (ht b e))
  | _, _, .err h hd r => .err (s _ _ h) (s _ _ hd) (FRep.same s r)
  | _, _, .dic h r => .dic (s _ _ h) (DRep.same s r)
theorem Reps.same (s : Same G G') : ∀ {v : List V} {d : List D}, Reps K G v d → Reps K G' v d
  | _, _, .nil => .nil
  | _, _, .cons h r => .cons (Rep.same s h) (Reps.same s r)
theorem FRep.same (s : Same G G') : ∀ {v : List (Str × V)} {d : List (Str × D)}, FRep K G v d → FRep K G' v d
  | _, _, .nil => .nil
  | _, _, .cons h r => .cons (Rep.same s h) (FRep.same s r)
theorem DRep.same (s : Same G G') : ∀ {v : List (NestedKey × Addr × V)} {d : List (NestedKey × D)}, DRep K G v d → DRep K G' v d
  | _, _, .nil => .nil
  | _, _, .cons hz hk h r => .cons hz (Rep.same s hk) (Rep.same s h) (DRep.same s r)
end
theorem Reps.length : ∀ {vs : List V} {ds : List D}, Reps K G vs ds → vs.length = ds.length
  | _, _, .nil => rfl
  | _, _, .cons _ r => by rw [List.length_cons, List.length_cons, Reps.length r]
theorem Reps.get : ∀ {vs : List V} {ds : List D} {i : Nat} {d : D}, Reps K G vs ds → ds[i]? = some d → ∃ v, vs[i]? = some v ∧ Rep K G v d
  | _, _, _, _, .nil, e => by simp at e
  | _, _, 0, _, .cons h _, e => by simp at e; subst e; exact ⟨_, rfl, h⟩
  | _, _, i + 1, d, .cons _ r, e => by
    obtain ⟨v, h1, h2⟩ := Reps.get (i := i) (d := d) r (by simpa using e)
    exact ⟨v, by simpa using h1, h2⟩
theorem Reps.getV : ∀ {vs : List V} {ds : List D} {i : Nat} {v : V}, Reps K G vs ds → vs[i]? = some v → ∃ d, ds[i]? = some d ∧ Rep K G v d
  | _, _, _, _, .nil, e => by simp at e
  | _, _, 0, _, .cons h _, e => by simp at e; subst e; exact ⟨_, rfl, h⟩
  | _, _, i + 1, d, .cons _ r, e => by
    obtain ⟨v, h1, h2⟩ := Reps.getV (i := i) (v := d) r (by simpa using e)
    exact ⟨v, by simpa using h1, h2⟩
theorem Reps.append : ∀ {xs ys : List V} {ds es : List D}, Reps K G xs ds → Reps K G ys es → Reps K G (xs ++ ys) (ds ++ es)
  | _, _, _, _, .nil, s => s
  | _, _, _, _, .cons r t, s => .cons r (Reps.append t s)
theorem Reps.take : ∀ {xs : List V} {ds : List D} (n : Nat), Reps K G xs ds → Reps K G (xs.take n) (ds.take n)
  | _, _, 0, _ => .nil
  | _, _, _ + 1, .nil => .nil
  | _, _, n + 1, .cons r t => .cons r (Reps.take n t)
theorem Reps.drop : ∀ {xs : List V} {ds : List D} (n : Nat), Reps K G xs ds → Reps K G (xs.drop n) (ds.drop n)
  | _, _, 0, r => r
  | _, _, _ + 1, .nil => .nil
  | _, _, n + 1, .cons _ t => Reps.drop n t
theorem Reps.set {x : V} {u : D} (r : Rep K G x u) : ∀ {xs : List V} {us : List D} (i : Nat), Reps K G xs us → Reps K G (xs.set i x) (us.set i u)
  | _, _, _, .nil => .nil
  | _, _, 0, .cons _ t => .cons r t
  | _, _, i + 1, .cons q t => .cons q (Reps.set r i t)
theorem Reps.ints : ∀ (ns : List Int), Reps K G (ns.map V.int) (ns.map D.int)
  | [] => .nil
  | _ :: r => .cons .int (Reps.ints r)
theorem FRep.get : ∀ {vs : List (Str × V)} {ds : List (Str × D)} {f : Str} {d : D}, FRep K G vs ds → ds.lookup f = some d → ∃ v, vs.lookup f = some v ∧ Rep K G v d
  | _, _, _, _, .nil, e => by simp at e
  | _, _, f, d, .cons (f := g) (v := v) h r, e => by
    rw [List.lookup_cons] at e ⊢
    cases hb : (f == g) with
    | true =>
      rw [hb] at e
      cases e
      exact ⟨v, rfl, h⟩
    | false =>
      rw [hb] at e
      exact FRep.get r e
theorem FRep.none : ∀ {vs : List (Str × V)} {ds : List (Str × D)} {f : Str}, FRep K G vs ds → ds.lookup f = none → vs.lookup f = none
  | _, _, _, .nil, e => by simp
  | _, _, f, .cons (f := g) (v := v) h r, e => by
    rw [List.lookup_cons] at e ⊢
    cases hb : (f == g) with
    | true =>
      rw [hb] at e
      cases e
    | false =>
      rw [hb] at e
      exact FRep.none r e
theorem FRep.length : ∀ {vs : List (Str × V)} {ds : List (Str × D)}, FRep K G vs ds → vs.length = ds.length
  | _, _, .nil => rfl
  | _, _, .cons _ r => by rw [List.length_cons, List.length_cons, FRep.length r]
def putD (f : Str) (v : D) : List (Str × D) → List (Str × D)
  | [] => [(f, v)]
  | (g, u) :: r => if g = f then (f, v) :: r else (g, u) :: putD f v r
end

/-- what changes -/
inductive MO where
  | lst (ds : List D) | ins (C : Addr) (fs : List (Str × D)) | tbl (q : Str) | dic (a : Addr) (w : World) (es : List (NestedKey × D))
abbrev Mm := Addr → Option MO
def mup (M : Mm) (a : Addr) (o : MO) : Mm := fun b => if b = a then some o else M b
theorem mup_same {M : Mm} {a : Addr} {o : MO} : mup M a o a = some o := by unfold mup; rw [if_pos rfl]
theorem mup_ne {M : Mm} {a b : Addr} {o : MO} (h : b ≠ a) : mup M a o b = M b := by unfold mup; rw [if_neg h]
theorem mup_mup {M : Mm} {a : Addr} {o u : MO} : mup (mup M a o) a u = mup M a u := by
  funext b; unfold mup; split <;> rfl
def mdel (M : Mm) (a : Addr) : Mm := fun b => if b = a then none else M b
theorem mdel_same {M : Mm} {a : Addr} : mdel M a a = none := by unfold mdel; rw [if_pos rfl]
theorem mdel_ne {M : Mm} {a b : Addr} (h : b ≠ a) : mdel M a b = M b := by unfold mdel; rw [if_neg h]
theorem mdel_mup {M : Mm} {a : Addr} {o : MO} (h : M a = none) : mdel (mup M a o) a = M := by
  funext b
  unfold mdel mup
  by_cases e : b = a
  · subst e; rw [if_pos rfl, h]
  · rw [if_neg e, if_neg e]
/-- a state: the tracked heap, the part of it that never changes, what changes; the rest is hidden -/
structure Sta where
  H : Hp
  G : Hp
  M : Mm
def MRep (K : PySem.W.Frag) (G : Hp) (o : Option HO) : MO → Prop
  | .lst ds => ∃ vs, o = some (.lst vs) ∧ Reps K G vs ds
  | .ins C fs => ∃ dx fvs, o = some (.ins C dx fvs) ∧ FRep K G fvs fs
  | .tbl q => ∃ ps : Array Value, o = some (.tbl ps) ∧ TriplesOk ps.toList ∧ ∀ (pos : Pos) (cv : Value), codeAmong pos ps.toList = some cv → ∃ c, cv = .ref c ∧ G c = some (LamX.CodeO c q)
  | .dic a w es => ∃ kvs, o = some (DicO w a kvs) ∧ DRep K G kvs es
/-- an object that is hidden -/
def Sta.hidden (s : Sta) (a : Addr) : Prop := ∃ o, s.H a = some o ∧ s.G a = none ∧ s.M a = none
structure Ok (K : PySem.W.Frag) (s : Sta) : Prop where
  sub : Same s.G s.H
  apart : ∀ a mo, s.M a = some mo → s.G a = none
  cells : ∀ a mo, s.M a = some mo → MRep K s.G (s.H a) mo
structure Step (s t : Sta) : Prop where
  same : Same s.G t.G
  dom : ∀ a, (s.M a).isSome = true → (t.M a).isSome = true
  hid : ∀ a o, s.H a = some o → s.G a = none → s.M a = none → t.H a = some o ∧ t.G a = none ∧ t.M a = none
theorem Step.refl (s : Sta) : Step s s := ⟨Same.refl _, fun _ h => h, fun _ _ h1 h2 h3 => ⟨h1, h2, h3⟩⟩
theorem Step.trans {s t u : Sta} (a : Step s t) (b : Step t u) : Step s u :=
  ⟨a.same.trans b.same, fun x h => b.dom x (a.dom x h), fun x o h1 h2 h3 => let ⟨g1, g2, g3⟩ := a.hid x o h1 h2 h3; b.hid x o g1 g2 g3⟩
theorem MRep.same {K : PySem.W.Frag} {G G' : Hp} {o : Option HO} {mo : MO} (s : Same G G') (h : MRep K G o mo) : MRep K G' o mo := by
  cases mo with
  | lst ds => obtain ⟨vs, e, r⟩ := h; exact ⟨vs, e, r.same s⟩
  | ins C fs => obtain ⟨dx, fvs, e, r⟩ := h; exact ⟨dx, fvs, e, r.same s⟩
  | tbl q => obtain ⟨ps, e, ht, r⟩ := h; exact ⟨ps, e, ht, fun p cv z => let ⟨c, e1, e2⟩ := r p cv z; ⟨c, e1, s _ _ e2⟩⟩
  | dic a w es => obtain ⟨kvs, e, r⟩ := h; exact ⟨kvs, e, r.same s⟩
theorem MRep.some {K : PySem.W.Frag} {G : Hp} {o : Option HO} {mo : MO} (h : MRep K G o mo) : ∃ u, o = Option.some u := by
  cases mo with
  | lst ds => obtain ⟨vs, e, r⟩ := h; exact ⟨_, e⟩
  | ins C fs => obtain ⟨dx, fvs, e, r⟩ := h; exact ⟨_, e⟩
  | tbl q => obtain ⟨ps, e, r⟩ := h; exact ⟨_, e⟩
  | dic a w es => obtain ⟨kvs, e, r⟩ := h; exact ⟨_, e⟩
theorem same_new {G : Hp} {p : Addr} {o : HO} (h : G p = none) : Same G (upd G p o) := fun b u e => by
  rw [upd_ne (ne_of_none e h)]
  exact e
section
variable {K : PySem.W.Frag} {s : Sta} {p : Addr} {o : HO} {mo : MO}
theorem Ok.freeM (k : Ok K s) (h : s.H p = none) : s.M p = none := by
  cases e : s.M p with
  | none => rfl
  | some mo =>
    obtain ⟨u, q⟩ := (k.cells p mo e).some
    rw [h] at q
    cases q
theorem Ok.freeG (k : Ok K s) (h : s.H p = none) : s.G p = none := k.sub.free h
/-- a new object that does not change -/
theorem Ok.new (k : Ok K s) (h : s.H p = none) : Ok K ⟨upd s.H p o, upd s.G p o, s.M⟩ ∧ Step s ⟨upd s.H p o, upd s.G p o, s.M⟩ := by
  have hm := k.freeM h
  have hg := k.freeG h
  refine ⟨⟨fun b u e => ?_, fun a mo e => ?_, fun a mo e => ?_⟩, ⟨same_new hg, fun _ x => x, fun a u h1 h2 h3 => ?_⟩⟩
  · have e' : upd s.G p o b = some u := e
    show upd s.H p o b = some u
    by_cases eb : b = p
    · subst eb
      rw [upd_same] at e' ⊢
      exact e'
    · rw [upd_ne eb] at e' ⊢
      exact k.sub b u e'
  · have ne : a ≠ p := fun z => by rw [z, hm] at e; cases e
    show upd s.G p o a = none
    rw [upd_ne ne]
    exact k.apart a mo e
  · have ne : a ≠ p := fun z => by rw [z, hm] at e; cases e
    show MRep K (upd s.G p o) (upd s.H p o a) mo
    rw [upd_ne ne]
    exact (k.cells a mo e).same (same_new hg)
  · have ne : a ≠ p := ne_of_none h1 h
    exact ⟨by show upd s.H p o a = _; rw [upd_ne ne]; exact h1, by show upd s.G p o a = _; rw [upd_ne ne]; exact h2, h3⟩
/-- a new object that changes -/
theorem Ok.newM (k : Ok K s) (h : s.H p = none) (r : MRep K s.G (some o) mo) : Ok K ⟨upd s.H p o, s.G, mup s.M p mo⟩ ∧ Step s ⟨upd s.H p o, s.G, mup s.M p mo⟩ := by
  have hm := k.freeM h
  have hg := k.freeG h
  refine ⟨⟨fun b u e => ?_, fun a mo' e => ?_, fun a mo' e => ?_⟩, ⟨Same.refl _, fun a x => ?_, fun a u h1 h2 h3 => ?_⟩⟩
  · have ne : b ≠ p := ne_of_none e hg
    show upd s.H p o b = _
    rw [upd_ne ne]
    exact k.sub b u e
  · by_cases ea : a = p
    · subst ea; exact hg
    · have e' : mup s.M p mo a = some mo' := e
      rw [mup_ne ea] at e'
      exact k.apart a mo' e'
  · have e' : mup s.M p mo a = some mo' := e
    show MRep K s.G (upd s.H p o a) mo'
    by_cases ea : a = p
    · subst ea
      rw [mup_same] at e'
      cases e'
      rw [upd_same]
      exact r
    · rw [mup_ne ea] at e'
      rw [upd_ne ea]
      exact k.cells a mo' e'
  · show (mup s.M p mo a).isSome = true
    by_cases ea : a = p
    · subst ea; rw [mup_same]; rfl
    · rw [mup_ne ea]; exact x
  · have ne : a ≠ p := ne_of_none h1 h
    exact ⟨by show upd s.H p o a = _; rw [upd_ne ne]; exact h1, h2, by show mup s.M p mo a = none; rw [mup_ne ne]; exact h3⟩
/-- a changing object is changed -/
theorem Ok.put (k : Ok K s) (h : (s.M p).isSome = true) (r : MRep K s.G (some o) mo) : Ok K ⟨upd s.H p o, s.G, mup s.M p mo⟩ ∧ Step s ⟨upd s.H p o, s.G, mup s.M p mo⟩ := by
  have hg : s.G p = none := by
    cases e : s.M p with
    | none => rw [e] at h; cases h
    | some m => exact k.apart p m e
  refine ⟨⟨fun b u e => ?_, fun a mo' e => ?_, fun a mo' e => ?_⟩, ⟨Same.refl _, fun a x => ?_, fun a u h1 h2 h3 => ?_⟩⟩
  · have ne : b ≠ p := ne_of_none e hg
    show upd s.H p o b = _
    rw [upd_ne ne]
    exact k.sub b u e
  · by_cases ea : a = p
    · subst ea; exact hg
    · have e' : mup s.M p mo a = some mo' := e
      rw [mup_ne ea] at e'
      exact k.apart a mo' e'
  · have e' : mup s.M p mo a = some mo' := e
    show MRep K s.G (upd s.H p o a) mo'
    by_cases ea : a = p
    · subst ea
      rw [mup_same] at e'
      cases e'
      rw [upd_same]
      exact r
    · rw [mup_ne ea] at e'
      rw [upd_ne ea]
      exact k.cells a mo' e'
  · show (mup s.M p mo a).isSome = true
    by_cases ea : a = p
    · subst ea; rw [mup_same]; rfl
    · rw [mup_ne ea]; exact x
  · have ne : a ≠ p := fun z => by rw [z] at h3; rw [h3] at h; cases h
    exact ⟨by show upd s.H p o a = _; rw [upd_ne ne]; exact h1, h2, by show mup s.M p mo a = none; rw [mup_ne ne]; exact h3⟩
/-- a changing object is kept as it is from now on; b: the state that is looked back to, which did not know it -/
theorem Ok.freeze {b : Sta} (k : Ok K s) (st : Step b s) (hb : b.H p = none) (hbm : b.M p = none) (hm : (s.M p).isSome = true) (ho : s.H p = some o) : Ok K ⟨s.H, upd s.G p o, mdel s.M p⟩ ∧ Step b ⟨s.H, upd s.G p o, mdel s.M p⟩ ∧ Same s.G (upd s.G p o) := by
  have hg : s.G p = none := by
    cases e : s.M p with
    | none => rw [e] at hm; cases hm
    | some m => exact k.apart p m e
  refine ⟨⟨fun c u e => ?_, fun a mo' e => ?_, fun a mo' e => ?_⟩, ⟨st.same.trans (same_new hg), fun a x => ?_, fun a u h1 h2 h3 => ?_⟩, same_new hg⟩
  · have e' : upd s.G p o c = some u := e
    by_cases ec : c = p
    · subst ec
      rw [upd_same] at e'
      cases e'
      exact ho
    · rw [upd_ne ec] at e'
      exact k.sub c u e'
  · have e' : mdel s.M p a = some mo' := e
    by_cases ea : a = p
    · subst ea; rw [mdel_same] at e'; cases e'
    · rw [mdel_ne ea] at e'
      show upd s.G p o a = none
      rw [upd_ne ea]
      exact k.apart a mo' e'
  · have e' : mdel s.M p a = some mo' := e
    by_cases ea : a = p
    · subst ea; rw [mdel_same] at e'; cases e'
    · rw [mdel_ne ea] at e'
      exact (k.cells a mo' e').same (same_new hg)
  · have ne : a ≠ p := fun z => by rw [z, hbm] at x; cases x
    show (mdel s.M p a).isSome = true
    rw [mdel_ne ne]
    exact st.dom a x
  · have ne : a ≠ p := ne_of_none h1 hb
    obtain ⟨g1, g2, g3⟩ := st.hid a u h1 h2 h3
    exact ⟨g1, by show upd s.G p o a = none; rw [upd_ne ne]; exact g2, by show mdel s.M p a = none; rw [mdel_ne ne]; exact g3⟩
/-- a hidden object is shown -/
theorem Ok.shown {b : Sta} (k : Ok K s) (st : Step b s) (hb : b.H p = none) (hg : s.G p = none) (hm : s.M p = none) (ho : s.H p = some o) : Ok K ⟨s.H, upd s.G p o, s.M⟩ ∧ Step b ⟨s.H, upd s.G p o, s.M⟩ ∧ Same s.G (upd s.G p o) := by
  refine ⟨⟨fun c u e => ?_, fun a mo' e => ?_, fun a mo' e => ?_⟩, ⟨st.same.trans (same_new hg), st.dom, fun a u h1 h2 h3 => ?_⟩, same_new hg⟩
  · have e' : upd s.G p o c = some u := e
    by_cases ec : c = p
    · subst ec
      rw [upd_same] at e'
      cases e'
      exact ho
    · rw [upd_ne ec] at e'
      exact k.sub c u e'
  · have ne : a ≠ p := fun z => by rw [z, hm] at e; cases e
    show upd s.G p o a = none
    rw [upd_ne ne]
    exact k.apart a mo' e
  · exact (k.cells a mo' e).same (same_new hg)
  · have ne : a ≠ p := ne_of_none h1 hb
    obtain ⟨g1, g2, g3⟩ := st.hid a u h1 h2 h3
    exact ⟨g1, by show upd s.G p o a = none; rw [upd_ne ne]; exact g2, g3⟩
/-- .. where it was not hidden before -/
theorem Ok.shown2 {b : Sta} (k : Ok K s) (st : Step b s) (hb : ¬ b.hidden p) (hg : s.G p = none) (hm : s.M p = none) (ho : s.H p = some o) : Ok K ⟨s.H, upd s.G p o, s.M⟩ ∧ Step b ⟨s.H, upd s.G p o, s.M⟩ ∧ Same s.G (upd s.G p o) := by
  refine ⟨⟨fun c u e => ?_, fun a mo' e => ?_, fun a mo' e => ?_⟩, ⟨st.same.trans (same_new hg), st.dom, fun a u h1 h2 h3 => ?_⟩, same_new hg⟩
  · have e' : upd s.G p o c = some u := e
    by_cases ec : c = p
    · subst ec
      rw [upd_same] at e'
      cases e'
      exact ho
    · rw [upd_ne ec] at e'
      exact k.sub c u e'
  · have ne : a ≠ p := fun z => by rw [z, hm] at e; cases e
    show upd s.G p o a = none
    rw [upd_ne ne]
    exact k.apart a mo' e
  · exact (k.cells a mo' e).same (same_new hg)
  · have ne : a ≠ p := fun z => hb (by rw [← z]; exact ⟨u, h1, h2, h3⟩)
    obtain ⟨g1, g2, g3⟩ := st.hid a u h1 h2 h3
    exact ⟨g1, by show upd s.G p o a = none; rw [upd_ne ne]; exact g2, g3⟩
/-- a hidden object is laid, or changed -/
theorem Ok.hide {b : Sta} (k : Ok K s) (st : Step b s) (hb : b.H p = none) (hg : s.G p = none) (hm : s.M p = none) : Ok K ⟨upd s.H p o, s.G, s.M⟩ ∧ Step b ⟨upd s.H p o, s.G, s.M⟩ := by
  refine ⟨⟨fun c u e => ?_, k.apart, fun a mo' e => ?_⟩, ⟨st.same, st.dom, fun a u h1 h2 h3 => ?_⟩⟩
  · have ne : c ≠ p := ne_of_none e hg
    show upd s.H p o c = _
    rw [upd_ne ne]
    exact k.sub c u e
  · have ne : a ≠ p := fun z => by rw [z, hm] at e; cases e
    show MRep K s.G (upd s.H p o a) mo'
    rw [upd_ne ne]
    exact k.cells a mo' e
  · have ne : a ≠ p := ne_of_none h1 hb
    obtain ⟨g1, g2, g3⟩ := st.hid a u h1 h2 h3
    exact ⟨by show upd s.H p o a = _; rw [upd_ne ne]; exact g1, g2, g3⟩
end

/-! ### readings over data -/
abbrev DEnv := List (Option D)
abbrev DK := D → Mm → Prop
abbrev DKA := List D → Mm → Prop
abbrev DX := Addr → List (Str × D) → Mm → Prop
abbrev DE := DEnv → Mm → DK → DX → Prop
abbrev DT := DEnv → Mm → (Bool → Mm → Prop) → DX → Prop
abbrev DA := DEnv → Mm → DKA → DX → Prop
structure DEnds where
  nx : DEnv → Mm → Prop
  rt : DK
  m0 : Mm
  bk : DEnv → Mm → Prop := fun _ _ => False
  ct : DEnv → Mm → Prop := fun _ _ => False
abbrev DS := DEnds → DX → DEnv → Mm → Prop

structure ER (K : PySem.W.Frag) (s : Sta) (σ : L2.St) (ρ : DEnv) : Prop where
  ok : Ok K s
  len : σ.length = ρ.length
  at_ : ∀ (i : Nat) (d : D), ρ[i]? = some (some d) → ∃ v, σ[i]? = some (some v) ∧ Rep K s.G v d
section
variable {K : PySem.W.Frag} {s t : Sta} {σ : L2.St} {ρ ρ' : DEnv}
theorem ER.step (e : ER K s σ ρ) (st : Step s t) (k : Ok K t) : ER K t σ ρ := ⟨k, e.len, fun i d h => let ⟨v, h1, h2⟩ := e.at_ i d h; ⟨v, h1, h2.same st.same⟩⟩
theorem ER.set (e : ER K s σ ρ) (i : Nat) {v : V} {d : D} (r : Rep K s.G v d) : ER K s (σ.set i (some v)) (ρ.set i (some d)) := by
  refine ⟨e.ok, by rw [List.length_set, List.length_set]; exact e.len, fun j d' h => ?_⟩
  by_cases hj : j = i
  · subst hj
    by_cases hl : j < ρ.length
    · rw [List.getElem?_set_self hl] at h
      cases h
      exact ⟨v, List.getElem?_set_self (by rw [e.len]; exact hl), r⟩
    · rw [List.getElem?_eq_none (by rw [List.length_set]; omega)] at h
      cases h
  · rw [List.getElem?_set_ne (Ne.symm hj)] at h
    rw [List.getElem?_set_ne (Ne.symm hj)]
    exact e.at_ j d' h
theorem ER.unset (e : ER K s σ ρ) (i : Nat) : ER K s (σ.set i none) (ρ.set i none) := by
  refine ⟨e.ok, by rw [List.length_set, List.length_set]; exact e.len, fun j d' h => ?_⟩
  by_cases hj : j = i
  · subst hj
    by_cases hl : j < ρ.length
    · rw [List.getElem?_set_self hl] at h
      cases h
    · rw [List.getElem?_eq_none (by rw [List.length_set]; omega)] at h
      cases h
  · rw [List.getElem?_set_ne (Ne.symm hj)] at h
    rw [List.getElem?_set_ne (Ne.symm hj)]
    exact e.at_ j d' h
end

def Post (K : PySem.W.Frag) (s : Sta) (k : DK) (Q : VK) : Prop := ∀ (d : D) (t : Sta), k d t.M → Step s t → Ok K t → ∀ v, Rep K t.G v d → Q v t.H
def PostT (K : PySem.W.Frag) (s : Sta) (k : Bool → Mm → Prop) (Q : Bool → Hp → Prop) : Prop := ∀ (b : Bool) (t : Sta), k b t.M → Step s t → Ok K t → Q b t.H
def PostA (K : PySem.W.Frag) (s : Sta) (k : DKA) (Q : List V → Hp → Prop) : Prop := ∀ (ds : List D) (t : Sta), k ds t.M → Step s t → Ok K t → ∀ vs, Reps K t.G vs ds → Q vs t.H
def PostN (K : PySem.W.Frag) (s : Sta) (k : DEnv → Mm → Prop) (Q : L2.St → Hp → Prop) : Prop := ∀ (ρ : DEnv) (t : Sta), k ρ t.M → Step s t → ∀ σ, ER K t σ ρ → Q σ t.H
def PostX (K : PySem.W.Frag) (E : XK) (s : Sta) (x : DX) : Prop := ∀ (C : Addr) (fs : List (Str × D)) (t : Sta), x C fs t.M → Step s t → Ok K t → ∀ dx fvs, t.H dx = some (.xd fvs) → t.G dx = none → t.M dx = none → ¬ s.hidden dx → FRep K t.G fvs fs → E (.ref C) (some dx) t.H
section
variable {K : PySem.W.Frag} {s t : Sta} {E : XK}
theorem Post.step {k : DK} {Q : VK} (p : Post K s k Q) (st : Step s t) : Post K t k Q := fun d u h s' r v e => p d u h (st.trans s') r v e
theorem PostT.step {k : Bool → Mm → Prop} {Q : Bool → Hp → Prop} (p : PostT K s k Q) (st : Step s t) : PostT K t k Q := fun d u h s' r => p d u h (st.trans s') r
theorem PostA.step {k : DKA} {Q : List V → Hp → Prop} (p : PostA K s k Q) (st : Step s t) : PostA K t k Q := fun d u h s' r v e => p d u h (st.trans s') r v e
theorem PostN.step {k : DEnv → Mm → Prop} {Q : L2.St → Hp → Prop} (p : PostN K s k Q) (st : Step s t) : PostN K t k Q := fun d u h s' v e => p d u h (st.trans s') v e
theorem PostX.step {x : DX} (p : PostX K E s x) (st : Step s t) : PostX K E t x := fun C fs u h s' k dx fvs h1 h2 h3 hn h4 => p C fs u h (st.trans s') k dx fvs h1 h2 h3 (fun ⟨o, z1, z2, z3⟩ => hn ⟨o, st.hid dx o z1 z2 z3⟩) h4
theorem PostX.never : PostX K E s (fun _ _ _ => False) := fun _ _ _ h => h.elim
theorem Post.now {k : DK} {Q : VK} (p : Post K s k Q) {d : D} {v : V} (h : k d s.M) (o : Ok K s) (r : Rep K s.G v d) : Q v s.H := p d s h (Step.refl s) o v r
end

def up (K : PySem.W.Frag) (E : XK) (τ : DE) : TE := fun σ H Q => ∃ ρ s k x, s.H = H ∧ ER K s σ ρ ∧ τ ρ s.M k x ∧ Post K s k Q ∧ PostX K E s x
def upT (K : PySem.W.Frag) (E : XK) (τ : DT) : TT := fun σ H Q => ∃ ρ s k x, s.H = H ∧ ER K s σ ρ ∧ τ ρ s.M k x ∧ PostT K s k Q ∧ PostX K E s x
def upA (K : PySem.W.Frag) (E : XK) (τ : DA) : TA := fun σ H Q => ∃ ρ s k x, s.H = H ∧ ER K s σ ρ ∧ τ ρ s.M k x ∧ PostA K s k Q ∧ PostX K E s x
structure EndsR (K : PySem.W.Frag) (s : Sta) (k : DEnds) (D : Ends) : Prop where
  nx : PostN K s k.nx D.nx
  rt : ∃ b, Step b s ∧ Ok K b ∧ b.M = k.m0 ∧ Post K b k.rt D.rt
  bk : PostN K s k.bk D.bk
  ct : PostN K s k.ct D.ct
theorem EndsR.step {K : PySem.W.Frag} {s t : Sta} {k : DEnds} {D : Ends} (p : EndsR K s k D) (st : Step s t) : EndsR K t k D :=
  ⟨p.nx.step st, let ⟨b, s1, o, m, q⟩ := p.rt; ⟨b, s1.trans st, o, m, q⟩, p.bk.step st, p.ct.step st⟩
def upS (K : PySem.W.Frag) (E : XK) (τ : DS) : TS := fun D σ H => ∃ ρ s k x, s.H = H ∧ ER K s σ ρ ∧ τ k x ρ s.M ∧ EndsR K s k D ∧ PostX K E s x

def DP (X : Cx) (E : XK) (e : Expr) (τ : DE) : Prop := PE X e (up X.K E τ)
def DPT (X : Cx) (E : XK) (e : Expr) (τ : DT) : Prop := PT X e (upT X.K E τ)
def DPW (X : Cx) (E : XK) (e : Expr) (τ : DT) : Prop := PW X e (upT X.K E τ)
def DPA (X : Cx) (E : XK) (es : List Expr) (τ : DA) : Prop := PA X es (upA X.K E τ)
def DPS (X : Cx) (E : XK) (st : Stmt) (τ : DS) : Prop := PS X st (upS X.K E τ)
def DPB (X : Cx) (E : XK) (st : List Stmt) (τ : DS) : Prop := PSs X st (upS X.K E τ)

section
variable {X : Cx} {E : XK} {e a b c : Expr} {pos : Pos}
theorem pe_mono {t t' : TE} (h : PE X e t) (m : ∀ σ H Q, t' σ H Q → t σ H Q) : PE X e t' := ⟨fun pins s σ H Q I q => h.run pins s σ H Q I (m σ H Q q)⟩
theorem pt_mono {t t' : TT} (h : PT X e t) (m : ∀ σ H Q, t' σ H Q → t σ H Q) : PT X e t' := ⟨fun pins s σ H Q I q => h.run pins s σ H Q I (m σ H Q q)⟩
theorem pw_mono {t t' : TT} (h : PW X e t) (m : ∀ σ H Q, t' σ H Q → t σ H Q) : PW X e t' := ⟨fun wh pins s σ H Q I q => h.run wh pins s σ H Q I (m σ H Q q)⟩
theorem pa_mono {es : List Expr} {t t' : TA} (h : PA X es t) (m : ∀ σ H Q, t' σ H Q → t σ H Q) : PA X es t' := ⟨fun p pins s σ H Q I q => h.run p pins s σ H Q I (m σ H Q q)⟩
theorem ps_mono {st : Stmt} {t t' : TS} (h : PS X st t) (m : ∀ D σ H, t' D σ H → t D σ H) : PS X st t' := ⟨fun pins s σ H D I q => h.run pins s σ H D I (m D σ H q)⟩
theorem pss_mono {st : List Stmt} {t t' : TS} (h : PSs X st t) (m : ∀ D σ H, t' D σ H → t D σ H) : PSs X st t' := ⟨fun pins s σ H D I q => h.run pins s σ H D I (m D σ H q)⟩

/-! ### names and constants -/
def dVar (i : Nat) : DE := fun ρ M k _ => ∃ d, ρ[i]? = some (some d) ∧ k d M
def dC (d : D) : DE := fun _ M k _ => k d M
theorem up_var {K : PySem.W.Frag} {i : Nat} {σ : L2.St} {H : Hp} {Q : VK} (h : up K E (dVar i) σ H Q) : tVar i σ H Q := by
  obtain ⟨ρ, s, k, x, rfl, er, ⟨d, e1, q⟩, p, _⟩ := h
  obtain ⟨v, e2, r⟩ := er.at_ i d e1
  exact ⟨v, e2, p.now q er.ok r⟩
theorem dv (i : Nat) {x : Str} (hN : X.N[i]? = some x := by rfl) (hv : Vis X.env.scope x := by first | exact Or.inl rfl | exact Or.inr (Or.inl rfl) | exact Or.inr (Or.inr rfl)) (hd : (x == ("__debug__" : Str)) = false := by decide)
    (hcd : (x == ("__classdict__" : Str)) = false := by decide) : DP X E (.Name x pos) (dVar i) := pe_mono (pe_var hN hv hd hcd) fun _ _ _ h => up_var h
theorem up_c {K : PySem.W.Frag} {d : D} {v : V} {σ : L2.St} {H : Hp} {Q : VK} (r : ∀ G, Rep K G v d) (h : up K E (dC d) σ H Q) : tC v σ H Q := by
  obtain ⟨ρ, s, k, x, rfl, er, q, p, _⟩ := h
  exact p.now q er.ok (r _)
theorem d_int {i j} : DP X E (.Constant (.int i) j pos) (dC (.int i)) := pe_mono pe_int fun _ _ _ h => up_c (fun _ => .int) h
theorem d_bl {b j} : DP X E (.Constant (.bool b) j pos) (dC (.bl b)) := pe_mono pe_bl fun _ _ _ h => up_c (fun _ => .bl) h
theorem d_non {j} : DP X E (.Constant .none j pos) (dC .non) := pe_mono pe_non fun _ _ _ h => up_c (fun _ => .non) h
theorem d_str {x j} : DP X E (.Constant (.str x) j pos) (dC (.str x)) := pe_mono pe_str fun _ _ _ h => up_c (fun _ => .str) h
/-- a module's constant -/
inductive KC : D → Value → Prop where
  | int {i t} : KC (.int i) (.int i t)
  | str {x t} : KC (.str x) (.str x t)
theorem d_glob {x : Str} {d : D} {u : Value} (hg : Gl X x) (hm : X.mg x = some u) (r : KC d u) (hd : (x == ("__debug__" : Str)) = false := by decide) : DP X E (.Name x pos) (dC d) := by
  cases r with
  | int => exact pe_mono (pe_glob (v := .int _) hg hm ⟨_, rfl⟩ hd) fun _ _ _ h => up_c (fun _ => .int) h
  | str => exact pe_mono (pe_glob (v := .str _) hg hm ⟨_, rfl⟩ hd) fun _ _ _ h => up_c (fun _ => .str) h

/-! ### operators -/
abbrev D2 := D → D → Mm → DK → DX → Prop
abbrev D1 := D → Mm → DK → DX → Prop
abbrev DN := List D → Mm → DK → DX → Prop
def r2 (K : PySem.W.Frag) (E : XK) (f : D2) : R2 := fun x y H Q => ∃ s dx dy k xx, s.H = H ∧ Ok K s ∧ Rep K s.G x dx ∧ Rep K s.G y dy ∧ f dx dy s.M k xx ∧ Post K s k Q ∧ PostX K E s xx
def r1 (K : PySem.W.Frag) (E : XK) (f : D1) : V → Hp → VK → Prop := fun x H Q => ∃ s dx k xx, s.H = H ∧ Ok K s ∧ Rep K s.G x dx ∧ f dx s.M k xx ∧ Post K s k Q ∧ PostX K E s xx
def rA (K : PySem.W.Frag) (E : XK) (f : DN) : List V → Hp → VK → Prop := fun xs H Q => ∃ s ds k xx, s.H = H ∧ Ok K s ∧ Reps K s.G xs ds ∧ f ds s.M k xx ∧ Post K s k Q ∧ PostX K E s xx
def dOp (f : D2) (τa τb : DE) : DE := fun ρ M k x => τa ρ M (fun u M1 => τb ρ M1 (fun v M2 => f u v M2 k x) x) x
def dUn (f : D1) (τa : DE) : DE := fun ρ M k x => τa ρ M (fun u M1 => f u M1 k x) x
theorem up_op {K : PySem.W.Frag} {f : D2} {τa τb : DE} {σ : L2.St} {H : Hp} {Q : VK} (h : up K E (dOp f τa τb) σ H Q) : tOp (r2 K E f) (up K E τa) (up K E τb) σ H Q := by
  obtain ⟨ρ, s, k, x, rfl, er, q, p, px⟩ := h
  refine ⟨ρ, s, _, x, rfl, er, q, fun u s1 q1 st1 ok1 v1 r1 => ?_, px⟩
  refine ⟨ρ, s1, _, x, rfl, er.step st1 ok1, q1, fun w s2 q2 st2 ok2 v2 r2 => ?_, px.step st1⟩
  exact ⟨s2, u, w, k, x, rfl, ok2, r1.same st2.same, r2, q2, p.step (st1.trans st2), px.step (st1.trans st2)⟩
theorem up_un {K : PySem.W.Frag} {f : D1} {τa : DE} {σ : L2.St} {H : Hp} {Q : VK} (h : up K E (dUn f τa) σ H Q) : tUn (r1 K E f) (up K E τa) σ H Q := by
  obtain ⟨ρ, s, k, x, rfl, er, q, p, px⟩ := h
  exact ⟨ρ, s, _, x, rfl, er, q, fun u s1 q1 st1 ok1 v1 r1 => ⟨s1, u, k, x, rfl, ok1, r1, q1, p.step st1, px.step st1⟩, px⟩
variable {τa τb τc : DE}
theorem d_op {op : Operator} {f : D2} (ho : OpR X (binaryOp op) (r2 X.K E f)) (ha : DP X E a τa) (hb : DP X E b τb) : DP X E (.BinOp a op b pos) (dOp f τa τb) := pe_mono (pe_op ho ha hb) fun _ _ _ h => up_op h
theorem d_un {op : UnaryOp} {f : D1} (ho : UnR X (unaryOp op) (r1 X.K E f)) (ha : DP X E a τa) : DP X E (.UnaryOp op a pos) (dUn f τa) := pe_mono (pe_un ho ha) fun _ _ _ h => up_un h
theorem d_cmp {op : CmpOp} {f : D2} (ho : OpR X (compareOp op) (r2 X.K E f)) (ha : DP X E a τa) (hb : DP X E b τb) (hm : behindInMarks op b = false) : DP X E (.Compare a [op] [b] pos) (dOp f τa τb) := pe_mono (pe_cmpR ho ha hb hm) fun _ _ _ h => up_op h
/-- a value that is a bool, as a test -/
def dB (τ : DE) : DT := fun ρ M k x => τ ρ M (fun u M1 => ∃ b, u = .bl b ∧ k b M1) x
section
variable {K : PySem.W.Frag} {G : Hp} {v : V}
theorem Rep.bl_of {b : Bool} (h : Rep K G v (.bl b)) : v = .bl b := by cases h; rfl
theorem Rep.int_of {b : Int} (h : Rep K G v (.int b)) : v = .int b := by cases h; rfl
theorem Rep.str_of {b : Str} (h : Rep K G v (.str b)) : v = .str b := by cases h; rfl
theorem Rep.non_of (h : Rep K G v .non) : v = .non := by cases h; rfl
theorem Rep.cel_of {a : Addr} (h : Rep K G v (.cel a)) : v = .ref a := by cases h; rfl
theorem Rep.lst_of {ds : List D} (h : Rep K G v (.lst ds)) : ∃ a vs, v = .ref a ∧ G a = some (.lst vs) ∧ Reps K G vs ds := by cases h with | lst h r => exact ⟨_, _, rfl, h, r⟩
theorem Rep.tup_of {ds : List D} (h : Rep K G v (.tup ds)) : ∃ a vs, v = .ref a ∧ SqT K G a vs ∧ Reps K G vs ds := by cases h with | tup h r => exact ⟨_, _, rfl, h, r⟩
theorem Rep.obj_of {C : Addr} {fs : List (Str × D)} (h : Rep K G v (.obj C fs)) : ∃ a dx fvs, v = .ref a ∧ G a = some (.ins C dx fvs) ∧ FRep K G fvs fs := by cases h with | obj h r => exact ⟨_, _, _, rfl, h, r⟩
theorem Reps.one {v : List V} {d : D} (h : Reps K G v [d]) : ∃ x, v = [x] ∧ Rep K G x d := by
  cases h with | cons h r => cases r; exact ⟨_, rfl, h⟩
theorem Reps.two {v : List V} {d e : D} (h : Reps K G v [d, e]) : ∃ x y, v = [x, y] ∧ Rep K G x d ∧ Rep K G y e := by
  cases h with | cons h r => cases r with | cons h' r => cases r; exact ⟨_, _, rfl, h, h'⟩
end
theorem upT_B {K : PySem.W.Frag} {τ : DE} {σ : L2.St} {H : Hp} {Q : Bool → Hp → Prop} (h : upT K E (dB τ) σ H Q) : up K E τ σ H fun x H' => ∃ k, x = .bl k ∧ Q k H' := by
  obtain ⟨ρ, s, k, x, rfl, er, q, p, px⟩ := h
  refine ⟨ρ, s, _, x, rfl, er, q, fun u s1 q1 st1 ok1 v1 r1 => ?_, px⟩
  obtain ⟨b, rfl, q1⟩ := q1
  exact ⟨b, r1.bl_of, p b s1 q1 st1 ok1⟩
theorem t_cmp {op : CmpOp} {f : D2} (ho : OpR X (compareOp op) (r2 X.K E f)) (ha : DP X E a τa) (hb : DP X E b τb) (hm : behindInMarks op b = false) : DPT X E (.Compare a [op] [b] pos) (dB (dOp f τa τb)) :=
  pt_mono (pt_cmpR ho ha hb hm) fun σ H Q h => up_op (upT_B h)
theorem t_val (h : DP X E e τa) (he : ∀ whole, isTrue e X.env whole = (do let v ← whole; standAt e.pos; holding [v] (truthy v)) := by intro _; rfl) : DPT X E e (dB τa) :=
  pt_mono (pt_val h he) fun σ H Q h => upT_B h

/-! ### and, or, not, if -/
variable {θa θb : DT} {rest : List Expr}
def dAnd (t u : DT) : DT := fun ρ M k x => t ρ M (fun c M1 => if c = true then u ρ M1 k x else k false M1) x
def dOr (t u : DT) : DT := fun ρ M k x => t ρ M (fun c M1 => if c = true then k true M1 else u ρ M1 k x) x
def dNot (t : DT) : DT := fun ρ M k x => t ρ M (fun c M1 => k (!c) M1) x
theorem w_and1 (ha : DPT X E a θa) : DPW X E (.BoolOp .And [a] pos) θa := pw_and1 ha
theorem w_or1 (ha : DPT X E a θa) : DPW X E (.BoolOp .Or [a] pos) θa := pw_or1 ha
theorem w_and (ha : DPT X E a θa) (hb : DPW X E (.BoolOp .And (b :: rest) pos) θb) : DPW X E (.BoolOp .And (a :: b :: rest) pos) (dAnd θa θb) :=
  pw_mono (pw_and ha hb) fun σ H Q h => by
    obtain ⟨ρ, s, k, x, rfl, er, q, p, px⟩ := h
    refine ⟨ρ, s, _, x, rfl, er, q, fun b s1 q1 st1 ok1 => ?_, px⟩
    cases b with
    | true =>
      rw [if_pos rfl] at q1 ⊢
      exact ⟨ρ, s1, k, x, rfl, er.step st1 ok1, q1, p.step st1, px.step st1⟩
    | false =>
      rw [if_neg Bool.false_ne_true] at q1 ⊢
      exact p false s1 q1 st1 ok1
theorem w_or (ha : DPT X E a θa) (hb : DPW X E (.BoolOp .Or (b :: rest) pos) θb) : DPW X E (.BoolOp .Or (a :: b :: rest) pos) (dOr θa θb) :=
  pw_mono (pw_or ha hb) fun σ H Q h => by
    obtain ⟨ρ, s, k, x, rfl, er, q, p, px⟩ := h
    refine ⟨ρ, s, _, x, rfl, er, q, fun b s1 q1 st1 ok1 => ?_, px⟩
    cases b with
    | true =>
      rw [if_pos rfl] at q1 ⊢
      exact p true s1 q1 st1 ok1
    | false =>
      rw [if_neg Bool.false_ne_true] at q1 ⊢
      exact ⟨ρ, s1, k, x, rfl, er.step st1 ok1, q1, p.step st1, px.step st1⟩
theorem t_not (ha : DPT X E a θa) : DPT X E (.UnaryOp .Not a pos) (dNot θa) :=
  pt_mono (pt_not ha) fun σ H Q h => by
    obtain ⟨ρ, s, k, x, rfl, er, q, p, px⟩ := h
    exact ⟨ρ, s, _, x, rfl, er, q, fun b s1 q1 st1 ok1 => p (!b) s1 q1 st1 ok1, px⟩
theorem DPW.t (h : DPW X E e θa) : DPT X E e θa := PW.pt h
/-- .. as values -/
def dAndV (ta tb : DE) : DE := fun ρ M k x => ta ρ M (fun u M1 => ∃ c, u = .bl c ∧ if c = true then tb ρ M1 k x else k (.bl false) M1) x
def dOrV (ta tb : DE) : DE := fun ρ M k x => ta ρ M (fun u M1 => ∃ c, u = .bl c ∧ if c = true then k (.bl true) M1 else tb ρ M1 k x) x
def dNotV (ta : DE) : DE := fun ρ M k x => ta ρ M (fun u M1 => ∃ c, u = .bl c ∧ k (.bl (!c)) M1) x
theorem d_one {op} (h : DP X E a τa) : DP X E (.BoolOp op [a] pos) τa := pe_one h
theorem d_and (ha : DP X E a τa) (hb : DP X E (.BoolOp .And (b :: rest) pos) τb) : DP X E (.BoolOp .And (a :: b :: rest) pos) (dAndV τa τb) :=
  pe_mono (pe_and ha hb) fun σ H Q h => by
    obtain ⟨ρ, s, k, x, rfl, er, q, p, px⟩ := h
    refine ⟨ρ, s, _, x, rfl, er, q, fun u s1 q1 st1 ok1 v1 r1 => ?_, px⟩
    obtain ⟨c, rfl, q1⟩ := q1
    refine ⟨c, r1.bl_of, ?_⟩
    cases c with
    | true =>
      rw [if_pos rfl] at q1 ⊢
      exact ⟨ρ, s1, k, x, rfl, er.step st1 ok1, q1, p.step st1, px.step st1⟩
    | false =>
      rw [if_neg Bool.false_ne_true] at q1 ⊢
      exact p _ s1 q1 st1 ok1 _ .bl
theorem d_or (ha : DP X E a τa) (hb : DP X E (.BoolOp .Or (b :: rest) pos) τb) : DP X E (.BoolOp .Or (a :: b :: rest) pos) (dOrV τa τb) :=
  pe_mono (pe_or ha hb) fun σ H Q h => by
    obtain ⟨ρ, s, k, x, rfl, er, q, p, px⟩ := h
    refine ⟨ρ, s, _, x, rfl, er, q, fun u s1 q1 st1 ok1 v1 r1 => ?_, px⟩
    obtain ⟨c, rfl, q1⟩ := q1
    refine ⟨c, r1.bl_of, ?_⟩
    cases c with
    | true =>
      rw [if_pos rfl] at q1 ⊢
      exact p _ s1 q1 st1 ok1 _ .bl
    | false =>
      rw [if_neg Bool.false_ne_true] at q1 ⊢
      exact ⟨ρ, s1, k, x, rfl, er.step st1 ok1, q1, p.step st1, px.step st1⟩
theorem d_not (ha : DP X E a τa) : DP X E (.UnaryOp .Not a pos) (dNotV τa) :=
  pe_mono (pe_not ha) fun σ H Q h => by
    obtain ⟨ρ, s, k, x, rfl, er, q, p, px⟩ := h
    refine ⟨ρ, s, _, x, rfl, er, q, fun u s1 q1 st1 ok1 v1 r1 => ?_, px⟩
    obtain ⟨c, rfl, q1⟩ := q1
    exact ⟨c, r1.bl_of, p _ s1 q1 st1 ok1 _ .bl⟩
def dIf (t : DT) (ta tb : DE) : DE := fun ρ M k x => t ρ M (fun c M1 => if c = true then ta ρ M1 k x else tb ρ M1 k x) x
theorem d_if (hc : DPT X E c θa) (ha : DP X E a τa) (hb : DP X E b τb) : DP X E (.IfExp c a b pos) (dIf θa τa τb) :=
  pe_mono (pe_ifExp hc ha hb) fun σ H Q h => by
    obtain ⟨ρ, s, k, x, rfl, er, q, p, px⟩ := h
    refine ⟨ρ, s, _, x, rfl, er, q, fun c s1 q1 st1 ok1 => ?_, px⟩
    cases c with
    | true =>
      rw [if_pos rfl] at q1 ⊢
      exact ⟨ρ, s1, k, x, rfl, er.step st1 ok1, q1, p.step st1, px.step st1⟩
    | false =>
      rw [if_neg Bool.false_ne_true] at q1 ⊢
      exact ⟨ρ, s1, k, x, rfl, er.step st1 ok1, q1, p.step st1, px.step st1⟩
/-- a < b < c -/
def dChain (f g : D2) (τa τb τc : DE) : DE := fun ρ M k x => τa ρ M (fun u M1 => τb ρ M1 (fun v M2 => f u v M2 (fun z M3 => ∃ c, z = .bl c ∧ if c = true then τc ρ M3 (fun w M4 => g v w M4 k x) x else k (.bl false) M3) x) x) x

/-! ### argument lists, displays -/
variable {es : List Expr} {αa : DA}
def dNil : DA := fun _ M k _ => k [] M
def dCons (ta : DE) (tr : DA) : DA := fun ρ M k x => ta ρ M (fun u M1 => tr ρ M1 (fun us M2 => k (u :: us) M2) x) x
theorem a_nil : DPA X E [] dNil := pa_mono pa_nil fun σ H Q h => by
  obtain ⟨ρ, s, k, x, rfl, er, q, p, px⟩ := h
  exact p [] s q (Step.refl s) er.ok [] .nil
theorem a_cons (ha : DP X E e τa) (hr : DPA X E es αa) (hs : starEach (e :: es) X.env = (false, eval e X.env) :: starEach es X.env := by rfl) : DPA X E (e :: es) (dCons τa αa) :=
  pa_mono (pa_cons ha hr hs) fun σ H Q h => by
    obtain ⟨ρ, s, k, x, rfl, er, q, p, px⟩ := h
    refine ⟨ρ, s, _, x, rfl, er, q, fun u s1 q1 st1 ok1 v1 r1 => ?_, px⟩
    refine ⟨ρ, s1, _, x, rfl, er.step st1 ok1, q1, fun us s2 q2 st2 ok2 vs r2 => ?_, px.step st1⟩
    exact p _ s2 q2 (st1.trans st2) ok2 _ (.cons (r1.same st2.same) r2)
def dTup (t : DA) : DE := fun ρ M k x => t ρ M (fun xs M1 => xs.length ≤ sizeLine ∧ k (.tup xs) M1) x
def dLst (t : DA) : DE := fun ρ M k x => t ρ M (fun xs M1 => xs.length ≤ sizeLine ∧ k (.lst xs) M1) x
/-- a list that changes -/
def dLstM (t : DA) : DE := fun ρ M k x => t ρ M (fun xs M1 => xs.length ≤ sizeLine ∧ ∀ p, M1 p = none → k (.cel p) (mup M1 p (.lst xs))) x
section
variable {K : PySem.W.Frag} {s : Sta} {k : DK} {Q : VK} {xs : List V} {ds : List D} {q : Addr}
theorem Post.tup (p : Post K s k Q) (h : k (.tup ds) s.M) (o : Ok K s) (r : Reps K s.G xs ds) (hq : s.H q = none) : Q (.ref q) (upd s.H q (.tup xs)) := by
  obtain ⟨a, b⟩ := o.new (o := .tup xs) hq
  exact p _ ⟨upd s.H q (.tup xs), upd s.G q (.tup xs), s.M⟩ h b a _ (.tup (SqT.of upd_same) (r.same b.same))
theorem Post.lst (p : Post K s k Q) (h : k (.lst ds) s.M) (o : Ok K s) (r : Reps K s.G xs ds) (hq : s.H q = none) : Q (.ref q) (upd s.H q (.lst xs)) := by
  obtain ⟨a, b⟩ := o.new (o := .lst xs) hq
  exact p _ ⟨upd s.H q (.lst xs), upd s.G q (.lst xs), s.M⟩ h b a _ (.lst upd_same (r.same b.same))
theorem Post.lstM (p : Post K s k Q) (h : ∀ p, s.M p = none → k (.cel p) (mup s.M p (.lst ds))) (o : Ok K s) (r : Reps K s.G xs ds) (hq : s.H q = none) : Q (.ref q) (upd s.H q (.lst xs)) := by
  obtain ⟨a, b⟩ := o.newM (o := .lst xs) (mo := .lst ds) hq ⟨xs, rfl, r⟩
  exact p _ ⟨upd s.H q (.lst xs), s.G, mup s.M q (.lst ds)⟩ (h q (o.freeM hq)) b a _ .cel
end
theorem d_tup {x1} (h : DPA X E es αa) : DP X E (.Tuple es x1 pos) (dTup αa) :=
  pe_mono (pe_tup h) fun σ H Q h => by
    obtain ⟨ρ, s, k, x, rfl, er, q, p, px⟩ := h
    refine ⟨ρ, s, _, x, rfl, er, q, fun us s1 q1 st1 ok1 vs r1 => ?_, px⟩
    exact ⟨by rw [r1.length]; exact q1.1, fun t ht => (p.step st1).tup q1.2 ok1 r1 ht⟩
theorem d_lst (h : DPA X E es αa) : DP X E (.List es pos) (dLst αa) :=
  pe_mono (pe_lst h) fun σ H Q h => by
    obtain ⟨ρ, s, k, x, rfl, er, q, p, px⟩ := h
    refine ⟨ρ, s, _, x, rfl, er, q, fun us s1 q1 st1 ok1 vs r1 => ?_, px⟩
    exact ⟨by rw [r1.length]; exact q1.1, fun t ht => (p.step st1).lst q1.2 ok1 r1 ht⟩
theorem d_lstM (h : DPA X E es αa) : DP X E (.List es pos) (dLstM αa) :=
  pe_mono (pe_lst h) fun σ H Q h => by
    obtain ⟨ρ, s, k, x, rfl, er, q, p, px⟩ := h
    refine ⟨ρ, s, _, x, rfl, er, q, fun us s1 q1 st1 ok1 vs r1 => ?_, px⟩
    exact ⟨by rw [r1.length]; exact q1.1, fun t ht => (p.step st1).lstM q1.2 ok1 r1 ht⟩

/-! ### calls of built-ins -/
def dCB (f : DN) (t : DA) : DE := fun ρ M k x => t ρ M (fun ds M1 => f ds M1 k x) x
theorem up_cb {K : PySem.W.Frag} {f : DN} {σ : L2.St} {H : Hp} {Q : VK} (h : up K E (dCB f αa) σ H Q) : tCB (rA K E f) (upA K E αa) σ H Q := by
  obtain ⟨ρ, s, k, x, rfl, er, q, p, px⟩ := h
  exact ⟨ρ, s, _, x, rfl, er, q, fun us s1 q1 st1 ok1 vs r1 => ⟨s1, us, k, x, rfl, ok1, r1, q1, p.step st1, px.step st1⟩, px⟩
theorem d_callB {id : String} {x : Str} {p : Pos} {f : DN} (hc : CallR X (.builtin id) (rA X.K E f)) (hg : Gl X x) (hm : X.mg x = none) (hv : bootBuiltins x = some (.builtin id)) (ha : DPA X E (e :: es) αa) (hn : x ≠ "__name__" := by decide) (hdb : (x == ("__debug__" : Str)) = false := by decide) (hs : starEach (e :: es) X.env = (false, eval e X.env) :: starEach es X.env := by rfl) (hpl : (backTo pos (starEach es X.env)).any (·.1) = false := by rfl) :
    DP X E (.Call (.Name x p) (e :: es) [] pos) (dCB f αa) := pe_mono (pe_callB hc hg hm hv ha hn hdb hs hpl) fun _ _ _ h => up_cb h
theorem d_callTy {T : String} {x : Str} {p : Pos} {f : DN} (hc : CallR X (.type T) (rA X.K E f)) (hg : Gl X x) (hm : X.mg x = none) (hv : bootBuiltins x = some (.type T)) (ha : DPA X E (e :: es) αa) (hn : x ≠ "__name__" := by decide) (hdb : (x == ("__debug__" : Str)) = false := by decide) (hs : starEach (e :: es) X.env = (false, eval e X.env) :: starEach es X.env := by rfl) (hpl : (backTo pos (starEach es X.env)).any (·.1) = false := by rfl) :
    DP X E (.Call (.Name x p) (e :: es) [] pos) (dCB f αa) := pe_mono (pe_callTy hc hg hm hv ha hn hdb hs hpl) fun _ _ _ h => up_cb h

/-! ### statements -/
variable {st : Stmt} {sts : List Stmt} {τs τt : DS}
def dNext : DS := fun k _ ρ M => k.nx ρ M
def dSeq (t u : DS) : DS := fun k x ρ M => t { k with nx := u k x } x ρ M
theorem b_nil : DPB X E [] dNext := pss_mono pss_nil fun D σ H h => by
  obtain ⟨ρ, s, k, x, rfl, er, q, p, px⟩ := h
  exact p.nx ρ s q (Step.refl s) σ er
theorem b_cons (h1 : DPS X E st τs) (h2 : DPB X E sts τt) : DPB X E (st :: sts) (dSeq τs τt) := pss_mono (pss_cons h1 h2) fun D σ H h => by
  obtain ⟨ρ, s, k, x, rfl, er, q, p, px⟩ := h
  refine ⟨ρ, s, _, x, rfl, er, q, ⟨fun ρ1 s1 q1 st1 σ1 er1 => ?_, p.rt, p.bk, p.ct⟩, px⟩
  exact ⟨ρ1, s1, k, x, rfl, er1, q1, p.step st1, px.step st1⟩
theorem b_one (h1 : DPS X E st τs) : DPB X E [st] τs := pss_one h1
theorem s_pass : DPS X E (.Pass pos) dNext := ps_mono ps_pass fun D σ H h => by
  obtain ⟨ρ, s, k, x, rfl, er, q, p, px⟩ := h
  exact p.nx ρ s q (Step.refl s) σ er
def dBrk : DS := fun k _ ρ M => k.bk ρ M
theorem s_break : DPS X E (.Break pos) dBrk := ps_mono ps_break fun D σ H h => by
  obtain ⟨ρ, s, k, x, rfl, er, q, p, px⟩ := h
  exact p.bk ρ s q (Step.refl s) σ er
def dCont : DS := fun k _ ρ M => k.ct ρ M
theorem s_continue : DPS X E (.Continue pos) dCont := ps_mono ps_continue fun D σ H h => by
  obtain ⟨ρ, s, k, x, rfl, er, q, p, px⟩ := h
  exact p.ct ρ s q (Step.refl s) σ er
def dDrop (τ : DE) : DS := fun k x ρ M => τ ρ M (fun _ M1 => k.nx ρ M1) x
theorem s_expr (he : DP X E e τa) (hs : swapsWith e none pos.line X.env = pure false := by rfl) : DPS X E (.Expr e pos) (dDrop τa) := ps_mono (ps_expr he hs) fun D σ H h => by
  obtain ⟨ρ, s, k, x, rfl, er, q, p, px⟩ := h
  exact ⟨ρ, s, _, x, rfl, er, q, fun u s1 q1 st1 ok1 v1 r1 => p.nx ρ s1 q1 st1 σ (er.step st1 ok1), px⟩
def dRet (τ : DE) : DS := fun k x ρ M => τ ρ M k.rt x
theorem s_ret (he : DP X E e τa) : DPS X E (.Return (some e) pos) (dRet τa) := ps_mono (ps_ret he) fun D σ H h => by
  obtain ⟨ρ, s, k, x, rfl, er, q, p, px⟩ := h
  obtain ⟨b, sb, ob, mb, pb⟩ := p.rt
  exact ⟨ρ, s, k.rt, x, rfl, er, q, pb.step sb, px⟩
/-- a changing list, as it is from now on, given back -/
def dRetZ (τ : DE) : DS := fun k x ρ M => τ ρ M (fun u M1 => ∃ a ds, u = .cel a ∧ M1 a = some (.lst ds) ∧ k.m0 a = none ∧ k.rt (.lst ds) (mdel M1 a)) x
theorem s_retZ (he : DP X E e τa) : DPS X E (.Return (some e) pos) (dRetZ τa) := ps_mono (ps_ret he) fun D σ H h => by
  obtain ⟨ρ, s, k, x, rfl, er, q, p, px⟩ := h
  obtain ⟨b, sb, ob, mb, pb⟩ := p.rt
  refine ⟨ρ, s, _, x, rfl, er, q, fun u s1 q1 st1 ok1 v1 r1 => ?_, px⟩
  obtain ⟨a, ds, rfl, hm, h0, q1⟩ := q1
  have hv := r1.cel_of
  subst hv
  obtain ⟨vs, ho, rs⟩ := ok1.cells _ _ hm
  have st : Step b s1 := sb.trans st1
  have bm : b.M a = none := by rw [mb]; exact h0
  have bh : b.H a = none := by
    cases eh : b.H a with
    | none => rfl
    | some o =>
      cases eg : b.G a with
      | none =>
        have z := (st.hid a o eh eg bm).2.2
        rw [hm] at z
        cases z
      | some u =>
        have z := st.same a u eg
        rw [ok1.apart _ _ hm] at z
        cases z
  obtain ⟨k2, st2, sm⟩ := ok1.freeze st bh bm (by rw [hm]; rfl) ho
  exact pb _ ⟨s1.H, upd s1.G a (.lst vs), mdel s1.M a⟩ q1 st2 k2 _ (.lst upd_same (rs.same sm))
def dRetN : DS := fun k _ _ M => k.rt .non M
theorem s_retN : DPS X E (.Return none pos) dRetN := ps_mono ps_retN fun D σ H h => by
  obtain ⟨ρ, s, k, x, rfl, er, q, p, px⟩ := h
  obtain ⟨b, sb, ob, mb, pb⟩ := p.rt
  exact pb _ s q sb er.ok _ .non
def dIfS (c : DT) (t u : DS) : DS := fun k x ρ M => c ρ M (fun b M1 => if b = true then t k x ρ M1 else u k x ρ M1) x
theorem s_if {sa sb : List Stmt} (hc : DPT X E c θa) (ha : DPB X E sa τs) (hb : DPB X E sb τt) : DPS X E (.If c sa sb pos) (dIfS θa τs τt) := ps_mono (ps_if hc ha hb) fun D σ H h => by
  obtain ⟨ρ, s, k, x, rfl, er, q, p, px⟩ := h
  refine ⟨ρ, s, _, x, rfl, er, q, fun c s1 q1 st1 ok1 => ?_, px⟩
  cases c with
  | true =>
    rw [if_pos rfl] at q1 ⊢
    exact ⟨ρ, s1, k, x, rfl, er.step st1 ok1, q1, p.step st1, px.step st1⟩
  | false =>
    rw [if_neg Bool.false_ne_true] at q1 ⊢
    exact ⟨ρ, s1, k, x, rfl, er.step st1 ok1, q1, p.step st1, px.step st1⟩
/-- code that is never come to -/
def dNever : DS := fun _ _ _ _ => False
theorem s_never : DPS X E st dNever := ps_mono ps_never fun D σ H h => by
  obtain ⟨ρ, s, k, x, rfl, er, q, p, px⟩ := h
  exact q
theorem b_never : DPB X E sts dNever := pss_mono pss_never fun D σ H h => by
  obtain ⟨ρ, s, k, x, rfl, er, q, p, px⟩ := h
  exact q
/-- name = value -/
def dSet (i : Nat) (τ : DE) : DS := fun k x ρ M => τ ρ M (fun u M1 => k.nx (ρ.set i (some u)) M1) x
theorem s_set {i : Nat} {x : Str} {pos' : Pos} (hN : X.N.Nodup) (hi : X.N[i]? = some x) (hx : Loc X.env.scope x) (he : DP X E e τa) (hs : swapsWith e (some (.Name x pos')) pos.line X.env = pure false := by rfl) (hf : X.fn x = true ∨ X.env.scope.names.lookup x = some .local := by first | exact .inl rfl | exact .inr rfl | assumption) :
    DPS X E (.Assign [.Name x pos'] e pos) (dSet i τa) := ps_mono (ps_set hN hi hx he hs hf) fun D σ H h => by
  obtain ⟨ρ, s, k, x, rfl, er, q, p, px⟩ := h
  exact ⟨ρ, s, _, x, rfl, er, q, fun u s1 q1 st1 ok1 v1 r1 => p.nx _ s1 q1 st1 _ ((er.step st1 ok1).set i r1), px⟩
/-- a, b = x, y -/
def dPar (i j : Nat) (α : DA) : DS := fun k x ρ M => α ρ M (fun us M1 => ∃ u v, us = [u, v] ∧ k.nx ((ρ.set i (some u)).set j (some v)) M1) x
theorem s_par {i j : Nat} {x y : Str} {px py pt : Pos} {kt k2 pt2} (hc : X.calm = true) (hN : X.N.Nodup) (hi : X.N[i]? = some x) (hj : X.N[j]? = some y) (hij : i ≠ j)
    (hx : X.env.scope.names.lookup x = some .local) (hy : X.env.scope.names.lookup y = some .local) (ha : DPA X E [a, b] αa)
    (hw : swappedStores [.Tuple [.Name x px, .Name y py] kt pt] (.Tuple [a, b] k2 pt2) X.env = pure (some [x, y]))
    (hs : swapsWithSole [.Tuple [.Name x px, .Name y py] kt pt] (.Tuple [a, b] k2 pt2) pos.line X.env = pure false := by rfl) :
    DPS X E (.Assign [.Tuple [.Name x px, .Name y py] kt pt] (.Tuple [a, b] k2 pt2) pos) (dPar i j αa) := ps_mono (ps_par hc hN hi hj hij hx hy ha hw hs) fun D σ H h => by
  obtain ⟨ρ, s, k, x, rfl, er, q, p, px⟩ := h
  refine ⟨ρ, s, _, x, rfl, er, q, fun us s1 q1 st1 ok1 vs r1 => ?_, px⟩
  obtain ⟨u, v, rfl, q1⟩ := q1
  obtain ⟨u', v', rfl, ru, rv⟩ := r1.two
  exact ⟨u', v', rfl, p.nx _ s1 q1 st1 _ (((er.step st1 ok1).set i ru).set j rv)⟩
end
end DL
set_option Elab.async false
set_option linter.all false
set_option maxRecDepth 100000
set_option maxHeartbeats 2000000
namespace DL
open PySem PySem.Spec PyProof.Rows L2

/-! ### what is walked -/
/-- J gives the data ds, one by one, in s and whatever follows it -/
structure ItD (K : PySem.W.Frag) (s : Sta) (J : It) (ds : List D) : Prop where
  go : ∀ (i : Nat) (t : Sta), Step s t → Ok K t → i < ds.length → J.go i t.H
  stop : ∀ (t : Sta), Step s t → Ok K t → J.stop ds.length t.H
  yld : ∀ (i : Nat) (t : Sta) (x : V) (H' : Hp), Step s t → Ok K t → J.yld i t.H x H' → ∀ d, ds[i]? = some d → ∃ u : Sta, u.H = H' ∧ u.M = t.M ∧ Step t u ∧ Ok K u ∧ Rep K u.G x d
abbrev DI := DEnv → Mm → DKA → DX → Prop
def upI (K : PySem.W.Frag) (E : XK) (ι : DI) : TI := fun σ H R => ∃ ρ s k x, s.H = H ∧ ER K s σ ρ ∧ ι ρ s.M k x ∧ PostX K E s x ∧ ∀ (ds : List D) (t : Sta), k ds t.M → Step s t → Ok K t → ∀ J, ItD K t J ds → R J t.H
def DPI (X : Cx) (E : XK) (tg iter : Expr) (ι : DI) : Prop := PI X tg iter (upI X.K E ι)
section
variable {X : Cx} {E : XK} {e a b c : Expr} {pos : Pos} {tg iter : Expr} {τa τb : DE} {αa : DA}
theorem pi_mono {t t' : TI} (h : PI X tg iter t) (m : ∀ σ H R, t' σ H R → t σ H R) : PI X tg iter t' := ⟨fun pins s σ H R I q => h.run pins s σ H R I (m σ H R q)⟩
theorem itD_list {K : PySem.W.Frag} {s : Sta} {l : Addr} {vs : List V} {ds : List D} (h : s.G l = some (.lst vs)) (r : Reps K s.G vs ds) : ItD K s (Itl K l) ds := by
  have at_ : ∀ t, Step s t → Ok K t → SqL K t.H l vs := fun t st ok => SqL.of (ok.sub _ _ (st.same _ _ h))
  have hl := r.length
  refine ⟨fun i t st ok hi => ?_, fun t st ok => ⟨vs, at_ t st ok, by omega⟩, fun i t x H' st ok y d hd => ?_⟩
  · exact ⟨vs, vs[i]'(by omega), at_ t st ok, by simp [hl ▸ hi]⟩
  · obtain ⟨v, hv, rv⟩ := r.get hd
    have q := y.2 vs (at_ t st ok)
    rw [hv] at q
    cases q
    exact ⟨t, y.1.symm, rfl, Step.refl t, ok, rv.same st.same⟩
theorem itD_tup {K : PySem.W.Frag} {s : Sta} {l : Addr} {vs : List V} {ds : List D} (h : SqT K s.G l vs) (r : Reps K s.G vs ds) : ItD K s (Itt K l) ds := by
  have at_ : ∀ t, Step s t → Ok K t → SqT K t.H l vs := fun t st ok => Same.seqT ok.sub (Same.seqT st.same h)
  have hl := r.length
  refine ⟨fun i t st ok hi => ?_, fun t st ok => ⟨vs, at_ t st ok, by omega⟩, fun i t x H' st ok y d hd => ?_⟩
  · exact ⟨vs, vs[i]'(by omega), at_ t st ok, by simp [hl ▸ hi]⟩
  · obtain ⟨v, hv, rv⟩ := r.get hd
    have q := y.2 vs (at_ t st ok)
    rw [hv] at q
    cases q
    exact ⟨t, y.1.symm, rfl, Step.refl t, ok, rv.same st.same⟩
/-- a text's signs -/
def signs (x : Str) : List D := x.cps.toList.map fun c => D.str ⟨#[c]⟩
theorem itD_str {K : PySem.W.Frag} {s : Sta} (x : Str) : ItD K s (Its x) (signs x) := by
  have hl : (signs x).length = x.cps.size := by unfold signs; simp
  refine ⟨fun i t st ok hi => by rw [hl] at hi; exact hi, fun t st ok => by rw [hl]; exact Nat.le_refl _, fun i t v H' st ok y d hd => ?_⟩
  obtain ⟨e, c, hc, rfl⟩ := y
  have q : d = D.str ⟨#[c]⟩ := by
    unfold signs at hd
    rw [List.getElem?_map] at hd
    have : x.cps.toList[i]? = some c := by simpa using hc
    rw [this] at hd
    exact (Option.some.inj hd).symm
  subst q
  exact ⟨t, e.symm, rfl, Step.refl t, ok, .str⟩
def upto (lo : Int) (n : Nat) : List D := (List.range n).map fun i => D.int (lo + (i : Nat))
theorem upto_length (lo : Int) (n : Nat) : (upto lo n).length = n := by unfold upto; simp
theorem upto_get {lo : Int} {n i : Nat} {d : D} (h : (upto lo n)[i]? = some d) : i < n ∧ d = .int (lo + i) := by
  unfold upto at h
  rw [List.getElem?_map] at h
  by_cases hi : i < n
  · rw [List.getElem?_range hi] at h
    exact ⟨hi, (Option.some.inj h).symm⟩
  · rw [List.getElem?_eq_none (by simpa using hi)] at h
    cases h
theorem itD_range {K : PySem.W.Frag} {s : Sta} (lo : Int) (n : Nat) : ItD K s (Itr lo n) (upto lo n) := by
  refine ⟨fun i t st ok hi => by rw [upto_length] at hi; exact hi, fun t st ok => by rw [upto_length]; exact Nat.le_refl _, fun i t v H' st ok y d hd => ?_⟩
  obtain ⟨e, rfl⟩ := y
  obtain ⟨_, rfl⟩ := upto_get hd
  exact ⟨t, e.symm, rfl, Step.refl t, ok, .int⟩
/-- pairs of two lists -/
def zips : List D → List D → List D
  | x :: xs, y :: ys => .tup [x, y] :: zips xs ys
  | _, _ => []
theorem zips_get : ∀ {xs ys : List D} {i : Nat} {d : D}, (zips xs ys)[i]? = some d → ∃ x y, xs[i]? = some x ∧ ys[i]? = some y ∧ d = .tup [x, y]
  | [], _, _, _, h => by simp [zips] at h
  | _ :: _, [], _, _, h => by simp [zips] at h
  | x :: xs, y :: ys, 0, d, h => by simp [zips] at h; exact ⟨x, y, rfl, rfl, h.symm⟩
  | x :: xs, y :: ys, i + 1, d, h => by
    obtain ⟨u, v, h1, h2, h3⟩ := zips_get (xs := xs) (ys := ys) (i := i) (d := d) (by simpa [zips] using h)
    exact ⟨u, v, by simpa using h1, by simpa using h2, h3⟩
theorem zips_length : ∀ (xs ys : List D), (zips xs ys).length = min xs.length ys.length
  | [], _ => by simp [zips]
  | _ :: _, [] => by simp [zips]
  | x :: xs, y :: ys => by simp [zips, zips_length xs ys]
theorem yld_pair {K : PySem.W.Frag} {t : Sta} {T : Addr} {x y : V} {d e : D} (ok : Ok K t) (hT : t.H T = none) (rx : Rep K t.G x d) (ry : Rep K t.G y e) :
    ∃ u : Sta, u.H = upd t.H T (.tup [x, y]) ∧ u.M = t.M ∧ Step t u ∧ Ok K u ∧ Rep K u.G (.ref T) (.tup [d, e]) := by
  obtain ⟨k, st⟩ := ok.new (o := .tup [x, y]) hT
  exact ⟨⟨_, _, _⟩, rfl, rfl, st, k, .tup (SqT.of upd_same) (.cons (rx.same st.same) (.cons (ry.same st.same) .nil))⟩
theorem itD_zipL {K : PySem.W.Frag} {s : Sta} {l m : Addr} {vs us : List V} {ds es : List D} (h : s.G l = some (.lst vs)) (h' : s.G m = some (.lst us)) (r : Reps K s.G vs ds) (r' : Reps K s.G us es) : ItD K s (Itz K l m) (zips ds es) := by
  have at1 : ∀ t, Step s t → Ok K t → SqL K t.H l vs := fun t st ok => SqL.of (ok.sub _ _ (st.same _ _ h))
  have at2 : ∀ t, Step s t → Ok K t → SqL K t.H m us := fun t st ok => SqL.of (ok.sub _ _ (st.same _ _ h'))
  have hl := r.length
  have hl' := r'.length
  refine ⟨fun i t st ok hi => ?_, fun t st ok => ⟨vs, us, at1 t st ok, at2 t st ok, ?_⟩, fun i t x H' st ok y d hd => ?_⟩
  · rw [zips_length] at hi
    exact ⟨vs, us, vs[i]'(by omega), us[i]'(by omega), at1 t st ok, at2 t st ok, by simp, by simp⟩
  · rw [zips_length]; omega
  · obtain ⟨d1, d2, e1, e2, rfl⟩ := zips_get hd
    obtain ⟨T, x1, x2, rfl, hT, rfl, y1, y2⟩ := y
    obtain ⟨v1, w1, p1⟩ := r.get e1
    obtain ⟨v2, w2, p2⟩ := r'.get e2
    have q1 := y1 vs (at1 t st ok)
    have q2 := y2 us (at2 t st ok)
    rw [w1] at q1
    rw [w2] at q2
    cases q1
    cases q2
    exact yld_pair ok hT (p1.same st.same) (p2.same st.same)
theorem itD_zipT {K : PySem.W.Frag} {s : Sta} {l m : Addr} {vs us : List V} {ds es : List D} (h : SqT K s.G l vs) (h' : SqT K s.G m us) (r : Reps K s.G vs ds) (r' : Reps K s.G us es) : ItD K s (RZ.ItzT K l m) (zips ds es) := by
  have at1 : ∀ t, Step s t → Ok K t → SqT K t.H l vs := fun t st ok => Same.seqT ok.sub (Same.seqT st.same h)
  have at2 : ∀ t, Step s t → Ok K t → SqT K t.H m us := fun t st ok => Same.seqT ok.sub (Same.seqT st.same h')
  have hl := r.length
  have hl' := r'.length
  refine ⟨fun i t st ok hi => ?_, fun t st ok => ⟨vs, us, at1 t st ok, at2 t st ok, ?_⟩, fun i t x H' st ok y d hd => ?_⟩
  · rw [zips_length] at hi
    exact ⟨vs, us, vs[i]'(by omega), us[i]'(by omega), at1 t st ok, at2 t st ok, by simp, by simp⟩
  · rw [zips_length]; omega
  · obtain ⟨d1, d2, e1, e2, rfl⟩ := zips_get hd
    obtain ⟨T, x1, x2, rfl, hT, rfl, y1, y2⟩ := y
    obtain ⟨v1, w1, p1⟩ := r.get e1
    obtain ⟨v2, w2, p2⟩ := r'.get e2
    have q1 := y1 vs (at1 t st ok)
    have q2 := y2 us (at2 t st ok)
    rw [w1] at q1
    rw [w2] at q2
    cases q1
    cases q2
    exact yld_pair ok hT (p1.same st.same) (p2.same st.same)

/-- what a walked value gives -/
def dItems : D → DKA → Mm → Prop
  | .lst ds, k, M => k ds M
  | .tup ds, k, M => k ds M
  | .str x, k, M => k (signs x) M
  | _, _, _ => False
def iSeq (τ : DE) : DI := fun ρ M k x => τ ρ M (fun u M1 => dItems u k M1) x
theorem i_seq (he : DP X E e τa) : DPI X E tg e (iSeq τa) := by
  refine ⟨fun pins s σ H R I h => ?_⟩
  obtain ⟨ρ, s0, k, x, rfl, er, q, px, p⟩ := h
  refine thn (he.run pins s σ s0.H (fun v H1 => ∃ d t, t.H = H1 ∧ Step s0 t ∧ Ok X.K t ∧ Rep X.K t.G v d ∧ dItems d k t.M) I ⟨ρ, s0, _, x, rfl, er, q, fun d t q1 st1 ok1 v1 r1 => ⟨d, t, rfl, st1, ok1, r1, q1⟩, px⟩) fun v s1 ⟨y, H1, I1, r1, d, t, eH, st, ok, rd, q1⟩ => ?_
  subst eH
  cases rd with
  | lst ha rs =>
    rename_i a vs ds
    cases r1
    have hq : SqL X.K t.H a vs := SqL.of (ok.sub _ _ ha)
    obtain ⟨its, rv, pl, hz⟩ := I1.list hq
    refine wpAny_pyIter_list pl.isList ?_
    refine ⟨s1.heap.objs.size, [s1.heap.objs.size], _, _, t.H, rfl, I1.kept (t' := s1.toks) fun b o e => Heap.get?_push_of_some _ e, turn_list a _, ⟨_, Heap.get?_push_size _ rfl, rfl, rfl⟩, fun b hb => ?_, p ds t q1 st ok _ (itD_list ha rs)⟩
    have e : b = s1.heap.objs.size := by simpa using hb
    subst e
    exact I1.fpOk (Nat.le_refl _) (I1.hok.fresh (Nat.le_refl _))
  | tup ha rs =>
    rename_i a vs ds
    cases r1
    have hq : SqT X.K t.H a vs := (Same.seqT ok.sub ha)
    obtain ⟨its, rv, pl, hz⟩ := I1.tuple hq
    refine wpAny_pyIter_tuple (show s1.heap.IsTuple a its.toArray from pl) ?_
    refine ⟨s1.heap.objs.size, [s1.heap.objs.size], _, _, t.H, rfl, I1.kept (t' := s1.toks) fun b o e => Heap.get?_push_of_some _ e, turn_tuple a _, ⟨_, Heap.get?_push_size _ rfl, rfl, rfl⟩, fun b hb => ?_, p ds t q1 st ok _ (itD_tup ha rs)⟩
    have e : b = s1.heap.objs.size := by simpa using hb
    subst e
    exact I1.fpOk (Nat.le_refl _) (I1.hok.fresh (Nat.le_refl _))
  | str =>
    rename_i z
    obtain ⟨tt, rfl⟩ := r1
    have q2 := p (signs z) t q1 st ok _ (itD_str z)
    cases ha : z.cps.all (· < 128)
    · exact wpAny_pyIter_wide ha (pi_one (tk := s1.toks) I1 _ (turn_str _ z tt "str_iterator" (.inr rfl)) ⟨_, Heap.get?_push_size _ rfl, rfl, rfl⟩ q2)
    · exact wpAny_pyIter_ascii ha (pi_one (tk := s1.toks) I1 _ (turn_str _ z tt "str_ascii_iterator" (.inl rfl)) ⟨_, Heap.get?_push_size _ rfl, rfl, rfl⟩ q2)
  | _ => exact q1.elim
def iRange1 (α : DA) : DI := fun ρ M k x => α ρ M (fun us M1 => ∃ j : Int, us = [.int j] ∧ -(2 ^ 62) ≤ j ∧ j < 2 ^ 62 ∧ k (upto 0 j.toNat) M1) x
theorem i_range1 {p : Pos} (hg : Gl X "range") (hm : X.mg "range" = none) (ha : DPA X E [a] αa) (hs : starEach [a] X.env = [(false, eval a X.env)] := by rfl) : DPI X E tg (.Call (.Name "range" p) [a] [] pos) (iRange1 αa) :=
  pi_mono (pi_range1 hg hm ha hs) fun σ H R h => by
    obtain ⟨ρ, s, k, x, rfl, er, q, px, p⟩ := h
    refine ⟨ρ, s, _, x, rfl, er, q, fun us s1 q1 st1 ok1 vs r1 => ?_, px⟩
    obtain ⟨j, rfl, h1, h2, q1⟩ := q1
    obtain ⟨v, rfl, rv⟩ := r1.one
    exact ⟨j, by rw [rv.int_of], h1, h2, p _ s1 q1 st1 ok1 _ (itD_range 0 j.toNat)⟩
def iRange2 (α : DA) : DI := fun ρ M k x => α ρ M (fun us M1 => ∃ i j : Int, us = [.int i, .int j] ∧ (-(2 ^ 62) ≤ i ∧ i < 2 ^ 62 ∧ -(2 ^ 62) ≤ j ∧ j < 2 ^ 62) ∧ k (upto i (j - i).toNat) M1) x
theorem i_range2 {p : Pos} (hg : Gl X "range") (hm : X.mg "range" = none) (ha : DPA X E [a, b] αa) (hs : starEach [a, b] X.env = [(false, eval a X.env), (false, eval b X.env)] := by rfl) (hs2 : starEach [b] X.env = [(false, eval b X.env)] := by rfl) : DPI X E tg (.Call (.Name "range" p) [a, b] [] pos) (iRange2 αa) :=
  pi_mono (pi_range2 hg hm ha hs hs2) fun σ H R h => by
    obtain ⟨ρ, s, k, x, rfl, er, q, px, p⟩ := h
    refine ⟨ρ, s, _, x, rfl, er, q, fun us s1 q1 st1 ok1 vs r1 => ?_, px⟩
    obtain ⟨i, j, rfl, h1, q1⟩ := q1
    obtain ⟨v, w, rfl, rv, rw'⟩ := r1.two
    exact ⟨i, j, by rw [rv.int_of, rw'.int_of], h1, p _ s1 q1 st1 ok1 _ (itD_range i (j - i).toNat)⟩
def dZip : List D → DKA → Mm → Prop
  | [.lst a, .lst b], k, M => k (zips a b) M
  | [.tup a, .tup b], k, M => k (zips a b) M
  | _, _, _ => False
def iZip (α : DA) : DI := fun ρ M k x => α ρ M (fun us M1 => dZip us k M1) x
theorem i_zip {p tpos : Pos} {elts : List Expr} {kk : Nat} (hg : Gl X "zip") (hm : X.mg "zip" = none) (ha : DPA X E [a, b] αa) (hs : starEach [a, b] X.env = (false, eval a X.env) :: starEach [b] X.env := by rfl) (hpl : (backTo pos (starEach [b] X.env)).any (·.1) = false := by rfl) :
    DPI X E (.Tuple elts kk tpos) (.Call (.Name "zip" p) [a, b] [] pos) (iZip αa) :=
  pi_mono (RZ.pi_zipA hg hm ha hs hpl) fun σ H R h => by
    obtain ⟨ρ, s, k, x, rfl, er, q, px, p⟩ := h
    refine ⟨ρ, s, _, x, rfl, er, q, fun us s1 q1 st1 ok1 vs r1 => ?_, px⟩
    change dZip us k s1.M at q1
    unfold dZip at q1
    split at q1
    · obtain ⟨v, w, rfl, rv, rw'⟩ := r1.two
      obtain ⟨c, vs, rfl, hc, rs⟩ := rv.lst_of
      obtain ⟨d, ws, rfl, hd, rt⟩ := rw'.lst_of
      exact ⟨c, d, vs, ws, rfl, .inl ⟨SqL.of (ok1.sub _ _ hc), SqL.of (ok1.sub _ _ hd), p _ s1 q1 st1 ok1 _ (itD_zipL hc hd rs rt)⟩⟩
    · obtain ⟨v, w, rfl, rv, rw'⟩ := r1.two
      obtain ⟨c, vs, rfl, hc, rs⟩ := rv.tup_of
      obtain ⟨d, ws, rfl, hd, rt⟩ := rw'.tup_of
      exact ⟨c, d, vs, ws, rfl, .inr ⟨(Same.seqT ok1.sub hc), (Same.seqT ok1.sub hd), p _ s1 q1 st1 ok1 _ (itD_zipT hc hd rs rt)⟩⟩
    · exact q1.elim

/-! ### targets -/
abbrev DG := D → DEnv → Mm → (DEnv → Mm → Prop) → Prop
abbrev DGs := List D → DEnv → Mm → (DEnv → Mm → Prop) → Prop
def upG (K : PySem.W.Frag) (g : DG) : TG := fun v σ H Q => ∃ d ρ s k, s.H = H ∧ ER K s σ ρ ∧ Rep K s.G v d ∧ g d ρ s.M k ∧ PostN K s k Q
def upGs (K : PySem.W.Frag) (g : DGs) : TGs := fun vs σ H Q => ∃ ds ρ s k, s.H = H ∧ ER K s σ ρ ∧ Reps K s.G vs ds ∧ g ds ρ s.M k ∧ PostN K s k Q
def DPG (X : Cx) (tg : Expr) (g : DG) : Prop := PG X tg (upG X.K g)
def DPGs (X : Cx) (ts : List Expr) (g : DGs) : Prop := PGs X ts (upGs X.K g)
def gN (i : Nat) : DG := fun d ρ M k => k (ρ.set i (some d)) M
theorem pg_mono {t t' : TG} (h : PG X e t) (m : ∀ v σ H Q, t' v σ H Q → t v σ H Q) : PG X e t' := ⟨fun pins s σ H v u Q I r q => h.run pins s σ H v u Q I r (m v σ H Q q)⟩
theorem pgs_mono {es : List Expr} {t t' : TGs} (h : PGs X es t) (m : ∀ v σ H Q, t' v σ H Q → t v σ H Q) : PGs X es t' := ⟨fun pins s σ H v u Q I r q => h.run pins s σ H v u Q I r (m v σ H Q q)⟩
theorem g_name {i : Nat} {x : Str} (hN : X.N.Nodup) (hi : X.N[i]? = some x) (hx : Loc X.env.scope x) (hf : X.fn x = true ∨ X.env.scope.names.lookup x = some .local := by first | exact .inl rfl | exact .inr rfl | assumption) : DPG X (.Name x pos) (gN i) :=
  pg_mono (pg_name hN hi hx hf) fun v σ H Q h => by
    obtain ⟨d, ρ, s, k, rfl, er, r, q, p⟩ := h
    exact p _ s q (Step.refl s) _ (er.set i r)
def gsNil : DGs := fun ds ρ M k => ds = [] ∧ k ρ M
def gsCons (g : DG) (h : DGs) : DGs := fun ds ρ M k => ∃ d r, ds = d :: r ∧ g d ρ M fun ρ1 M1 => h r ρ1 M1 k
theorem gs_nil : DPGs X [] gsNil := pgs_mono pgs_nil fun vs σ H Q h => by
  obtain ⟨ds, ρ, s, k, rfl, er, r, ⟨rfl, q⟩, p⟩ := h
  cases r
  exact ⟨rfl, p _ s q (Step.refl s) _ er⟩
theorem gs_cons {es : List Expr} {g : DG} {h : DGs} (h1 : DPG X e g) (h2 : DPGs X es h) (hs : (assignEach (e :: es) X.env).map (·.2) = assign e X.env :: (assignEach es X.env).map (·.2) := by rfl) : DPGs X (e :: es) (gsCons g h) :=
  pgs_mono (pgs_cons h1 h2 hs) fun vs σ H Q hh => by
    obtain ⟨ds, ρ, s, k, rfl, er, r, ⟨d, dr, rfl, q⟩, p⟩ := hh
    cases r with
    | cons rv rs =>
      refine ⟨_, _, rfl, d, ρ, s, _, rfl, er, rv, q, fun ρ1 s1 q1 st1 σ1 er1 => ?_⟩
      exact ⟨dr, ρ1, s1, k, rfl, er1, rs.same st1.same, q1, p.step st1⟩
/-- (a, b, ..) = a tuple of that length -/
def gTupD (n : Nat) (g : DGs) : DG := fun d ρ M k => ∃ ds, d = .tup ds ∧ ds.length = n ∧ g ds ρ M k
theorem g_tup {es : List Expr} {k : Nat} {g : DGs} {n : Nat} (hc : X.calm = true) (h : DPGs X es g) (hn : (assignEach es X.env).length = n := by rfl) (hst : (assignEach es X.env).findIdx? (·.1) = none := by rfl) : DPG X (.Tuple es k pos) (gTupD n g) :=
  pg_mono (pg_tup hc h hn hst) fun v σ H Q hh => by
    obtain ⟨d, ρ, s, k, rfl, er, r, ⟨ds, rfl, hl, q⟩, p⟩ := hh
    obtain ⟨a, vs, rfl, ha, rs⟩ := r.tup_of
    exact ⟨a, vs, rfl, (Same.seqT er.ok.sub ha), by rw [rs.length]; exact hl, ds, ρ, s, k, rfl, er, rs, q, p⟩
/-- target = value -/
def dAsg (g : DG) (τ : DE) : DS := fun k x ρ M => τ ρ M (fun u M1 => g u ρ M1 k.nx) x
theorem s_asg {tg : Expr} {g : DG} (he : DP X E e τa) (hg : DPG X tg g) (hs : swapsWithSole [tg] e pos.line X.env = pure false := by rfl) (hw : swappedStores [tg] e X.env = pure none := by rfl)
    (h1 : (assignEach [tg] X.env).map (·.2) = [assign tg X.env] := by rfl) : DPS X E (.Assign [tg] e pos) (dAsg g τa) := ps_mono (ps_asg he hg hs hw h1) fun D σ H h => by
  obtain ⟨ρ, s, k, x, rfl, er, q, p, px⟩ := h
  exact ⟨ρ, s, _, x, rfl, er, q, fun u s1 q1 st1 ok1 v1 r1 => ⟨u, ρ, s1, k.nx, rfl, er.step st1 ok1, r1, q1, p.nx.step st1⟩, px⟩

/-! ### for -/
/-- the turns over ds; I: what holds ahead of each turn -/
inductive ForK (g : DG) (β : DS) (k : DEnds) (x : DX) (ρ0 : DEnv) (ds : List D) (M0 : Mm) : Prop where
  | of (I : Nat → DEnv → Mm → Prop) (i0 : I 0 ρ0 M0) (turn : ∀ (j : Nat) (d : D) (ρ : DEnv) (M : Mm), ds[j]? = some d → I j ρ M → g d ρ M fun ρ1 M2 => β { k with nx := I (j + 1), bk := k.nx, ct := I (j + 1) } x ρ1 M2)
      (fin : ∀ ρ M, I ds.length ρ M → k.nx ρ M)
  | no (h : False)
def dFor (ι : DI) (g : DG) (β : DS) : DS := fun k x ρ M => ι ρ M (fun ds M1 => ForK g β k x ρ ds M1) x
theorem s_for {body : List Stmt} {ι : DI} {g : DG} {β : DS} (hp : PassesOwn (model X.prog X.w) X.A X.env X.xe) (hc : X.calm = true) (hi : DPI X E tg iter ι) (hg : DPG X tg g) (hb : DPB X E body β)
    (hs : ∀ x, foldedSetIterable iter X.env x = pure x := by intro _; rfl) : DPS X E (.For tg iter body [] pos) (dFor ι g β) := ps_mono (ps_for hp hc hi hg hb hs) fun D σ H h => by
  obtain ⟨ρ, s, k, x, rfl, er, q, p, px⟩ := h
  refine ⟨ρ, s, _, x, rfl, er, q, px, fun ds s1 q1 st1 ok1 J it => ?_⟩
  rcases q1 with ⟨I, i0, turn, fin⟩ | z
  case no => exact z.elim
  refine ⟨fun j m σ' H' => m = ds.length - j ∧ j ≤ ds.length ∧ ∃ ρ' s', s'.H = H' ∧ ER X.K s' σ' ρ' ∧ Step s1 s' ∧ I j ρ' s'.M, ⟨_, rfl, Nat.zero_le _, ρ, s1, rfl, er.step st1 ok1, Step.refl s1, i0⟩, ?_⟩
  rintro j m σ' H' ⟨rfl, hj, ρ', s', rfl, er', st', ij⟩
  by_cases hlt : j < ds.length
  · refine .inr ⟨it.go j s' st' er'.ok hlt, fun σ2 H2 => ∃ ρ2 s2, s2.H = H2 ∧ ER X.K s2 σ2 ρ2 ∧ Step s1 s2 ∧ I (j + 1) ρ2 s2.M, ?_, ?_⟩
    · rintro σ2 H2 ⟨ρ2, s2, e2, er2, st2, i2⟩
      exact ⟨ds.length - (j + 1), by omega, rfl, hlt, ρ2, s2, e2, er2, st2, i2⟩
    · intro v H2 y
      obtain ⟨d, hd⟩ : ∃ d, ds[j]? = some d := ⟨ds[j], by simp [hlt]⟩
      obtain ⟨u, rfl, eM, stu, oku, ru⟩ := it.yld j s' v H2 st' er'.ok y d hd
      have ij' : I j ρ' u.M := by rw [eM]; exact ij
      refine ⟨d, ρ', u, _, rfl, er'.step stu oku, ru, turn j d ρ' u.M hd ij', fun ρ3 s3 q3 st3 σ3 er3 => ?_⟩
      have sb : Step s1 s3 := (st'.trans stu).trans st3
      refine ⟨ρ3, s3, _, x, rfl, er3, q3, ⟨fun ρ4 s4 q4 st4 σ4 er4 => ⟨ρ4, s4, rfl, er4, sb.trans st4, q4⟩, ?_, fun ρ4 s4 q4 st4 σ4 er4 => p.nx ρ4 s4 q4 ((st1.trans sb).trans st4) σ4 er4, fun ρ4 s4 q4 st4 σ4 er4 => ⟨ρ4, s4, rfl, er4, sb.trans st4, q4⟩⟩, px.step (st1.trans sb)⟩
      obtain ⟨b, b1, b2, b3, b4⟩ := p.rt
      exact ⟨b, b1.trans (st1.trans sb), b2, b3, b4⟩
  · have ej : j = ds.length := by omega
    subst ej
    exact .inl ⟨it.stop s' st' er'.ok, p.nx ρ' s' (fin ρ' s'.M ij) (st1.trans st') σ' er'⟩

/-! ### while -/
inductive WhK (c : DT) (β : DS) (k : DEnds) (x : DX) (ρ0 : DEnv) (M0 : Mm) : Prop where
  | of (W : Nat → DEnv → Mm → Prop) (w0 : ∃ m, W m ρ0 M0) (turn : ∀ m ρ M, W m ρ M →
      c ρ M (fun b M1 => if b = true then β { k with nx := fun ρ M => ∃ m', m' < m ∧ W m' ρ M, bk := k.nx, ct := fun ρ M => ∃ m', m' < m ∧ W m' ρ M } x ρ M1 else k.nx ρ M1) x)
  | no (h : False)
def dWhile (c : DT) (β : DS) : DS := fun k x ρ M => WhK c β k x ρ M
theorem s_while {body : List Stmt} {θ : DT} {β : DS} (hp : PassesOwn (model X.prog X.w) X.A X.env X.xe) (hc : DPT X E c θ) (hb : DPB X E body β) : DPS X E (.While c body [] pos) (dWhile θ β) := ps_mono (ps_while hp hc hb) fun D σ H h => by
  obtain ⟨ρ, s, k, x, rfl, er, q, p, px⟩ := h
  rcases q with ⟨W, ⟨m0, w0⟩, turn⟩ | z
  case no => exact z.elim
  refine ⟨fun m σ' H' => ∃ ρ' s', s'.H = H' ∧ ER X.K s' σ' ρ' ∧ Step s s' ∧ W m ρ' s'.M, ⟨m0, ρ, s, rfl, er, Step.refl s, w0⟩, ?_⟩
  rintro m σ' H' ⟨ρ', s', rfl, er', st', w'⟩
  refine ⟨ρ', s', _, x, rfl, er', turn m ρ' s'.M w', fun b s1 q1 st1 ok1 => ?_, px.step st'⟩
  cases b with
  | true =>
    rw [if_pos rfl] at q1 ⊢
    have sb : Step s s1 := st'.trans st1
    refine ⟨fun σ2 H2 => ∃ m', m' < m ∧ ∃ ρ2 s2, s2.H = H2 ∧ ER X.K s2 σ2 ρ2 ∧ Step s s2 ∧ W m' ρ2 s2.M, fun σ2 H2 z => z, ?_⟩
    refine ⟨ρ', s1, _, x, rfl, er'.step st1 ok1, q1, ⟨fun ρ4 s4 ⟨m', hm, q4⟩ st4 σ4 er4 => ⟨m', hm, ρ4, s4, rfl, er4, sb.trans st4, q4⟩, ?_, fun ρ4 s4 q4 st4 σ4 er4 => p.nx ρ4 s4 q4 (sb.trans st4) σ4 er4, fun ρ4 s4 ⟨m', hm, q4⟩ st4 σ4 er4 => ⟨m', hm, ρ4, s4, rfl, er4, sb.trans st4, q4⟩⟩, px.step sb⟩
    obtain ⟨b, b1, b2, b3, b4⟩ := p.rt
    exact ⟨b, b1.trans sb, b2, b3, b4⟩
  | false =>
    rw [if_neg Bool.false_ne_true] at q1 ⊢
    exact p.nx ρ' s1 q1 (st'.trans st1) σ' (er'.step st1 ok1)

/-! ### list comprehensions -/
def wipeD (ρ : DEnv) : List Nat → DEnv
  | [] => ρ
  | v :: vs => (wipeD ρ vs).set v none
theorem ER.wipe {K : PySem.W.Frag} {s : Sta} {σ : L2.St} {ρ : DEnv} (er : ER K s σ ρ) : ∀ vs : List Nat, ER K s (wipe σ vs) (wipeD ρ vs)
  | [] => er
  | v :: vs => (er.wipe vs).unset v
/-- the turns of a comprehension; I: what holds ahead of each turn of the list made so far -/
inductive LcK (g : DG) (θ : DT) (ε : DE) (vs : List Nat) (ρ : DEnv) (ds : List D) (M0 : Mm) (k : DK) : Prop where
  | of (hl : ds.length < sizeLine) (I : Nat → List D → Mm → Prop) (i0 : I 0 [] M0)
      (turn : ∀ (j : Nat) (d : D) (acc : List D) (M : Mm), ds[j]? = some d → I j acc M → g d (wipeD ρ vs) M fun ρ1 M2 => θ ρ1 M2 (fun b M3 => if b = true then ε ρ1 M3 (fun y M4 => I (j + 1) (acc ++ [y]) M4) (fun _ _ _ => False) else I (j + 1) acc M3) (fun _ _ _ => False))
      (fin : ∀ acc M, I ds.length acc M → k (.lst acc) M)
  | no (h : False)
def dLc (ι : DI) (g : DG) (θ : DT) (ε : DE) (vs : List Nat) : DE := fun ρ M k x => ι ρ M (fun ds M1 => LcK g θ ε vs ρ ds M1 k) x
def DPTs (X : Cx) (E : XK) (ifs : List Expr) (θ : DT) : Prop := PTs X ifs (upT X.K E θ)
def dYes : DT := fun _ M k _ => k true M
theorem ts_nil : DPTs X E [] dYes := ⟨fun pins s σ H Q I h => by
  obtain ⟨ρ, s0, k, x, rfl, er, q, p, px⟩ := h
  exact pts_nil.run pins s σ s0.H Q I (p true s0 q (Step.refl s0) er.ok)⟩
theorem ts_one {θ : DT} (h : DPT X E c θ) : DPTs X E [c] θ := pts_one h
/-- a target, over values and over data; the slots of vs alone are set -/
structure GPair (K : PySem.W.Frag) (g : TG) (γ : DG) (vs : List Nat) : Prop where
  run : ∀ (v : V) (d : D) (σ : L2.St) (ρ : DEnv) (s : Sta) (k : DEnv → Mm → Prop) (Q : L2.St → Hp → Prop), ER K s σ ρ → Rep K s.G v d → γ d ρ s.M k →
    (∀ ρ' σ', k ρ' s.M → ER K s σ' ρ' → wipe σ' vs = wipe σ vs → Q σ' s.H) → g v σ s.H Q
structure GsPair (K : PySem.W.Frag) (g : TGs) (γ : DGs) (vs : List Nat) : Prop where
  run : ∀ (v : List V) (d : List D) (σ : L2.St) (ρ : DEnv) (s : Sta) (k : DEnv → Mm → Prop) (Q : L2.St → Hp → Prop), ER K s σ ρ → Reps K s.G v d → γ d ρ s.M k →
    (∀ ρ' σ', k ρ' s.M → ER K s σ' ρ' → wipe σ' vs = wipe σ vs → Q σ' s.H) → g v σ s.H Q
theorem wipe_set (σ : L2.St) (i : Nat) (v : Option V) : ∀ vs : List Nat, i ∈ vs → wipe (σ.set i v) vs = wipe σ vs
  | [], h => by cases h
  | j :: vs, h => by
    unfold wipe
    by_cases e : i ∈ vs
    · rw [wipe_set σ i v vs e]
    · have hj : i = j := by
        rcases List.mem_cons.mp h with z | z
        · exact z
        · exact absurd z e
      subst hj
      have key : ∀ us : List Nat, i ∉ us → wipe (σ.set i v) us = (wipe σ us).set i v := by
        intro us
        induction us with
        | nil => intro _; rfl
        | cons u us ih =>
          intro hn
          unfold wipe
          rw [ih (fun z => hn (List.mem_cons_of_mem _ z))]
          exact List.set_comm _ _ (fun z => hn (by rw [z]; exact List.mem_cons_self))
      rw [key vs e, List.set_set]
theorem wipe_wipe (σ : L2.St) : ∀ vs : List Nat, wipe (wipe σ vs) vs = wipe σ vs := by
  have h : ∀ (us vs : List Nat), (∀ u ∈ us, u ∈ vs) → wipe (wipe σ us) vs = wipe σ vs := by
    intro us
    induction us with
    | nil => intro vs _; rfl
    | cons u us ih =>
      intro vs hs
      show wipe ((wipe σ us).set u none) vs = wipe σ vs
      rw [wipe_set _ _ _ _ (hs u List.mem_cons_self)]
      exact ih vs fun z hz => hs z (List.mem_cons_of_mem _ hz)
  exact fun vs => h vs vs fun _ z => z
theorem gp_name {K : PySem.W.Frag} {i : Nat} {vs : List Nat} (h : i ∈ vs) : GPair K (gName i) (gN i) vs :=
  ⟨fun v d σ ρ s k Q er r q f => f _ _ q (er.set i r) (wipe_set σ i _ vs h)⟩
theorem gps_nil {K : PySem.W.Frag} {vs : List Nat} : GsPair K gNil gsNil vs :=
  ⟨fun v d σ ρ s k Q er r q f => by
    obtain ⟨rfl, q⟩ := q
    cases r
    exact ⟨rfl, f _ _ q er rfl⟩⟩
theorem gps_cons {K : PySem.W.Frag} {vs : List Nat} {g : TG} {γ : DG} {gs : TGs} {γs : DGs} (h : GPair K g γ vs) (hs : GsPair K gs γs vs) : GsPair K (gCons g gs) (gsCons γ γs) vs :=
  ⟨fun v d σ ρ s k Q er r q f => by
    obtain ⟨d1, dr, rfl, q⟩ := q
    cases r with
    | cons rv rs =>
      exact ⟨_, _, rfl, h.run _ d1 σ ρ s _ _ er rv q fun ρ' σ' q' er' w' => hs.run _ dr σ' ρ' s k Q er' rs q' fun ρ2 σ2 q2 er2 w2 => f ρ2 σ2 q2 er2 (w2.trans w')⟩⟩
theorem gp_tup {K : PySem.W.Frag} {vs : List Nat} {n : Nat} {gs : TGs} {γs : DGs} (hs : GsPair K gs γs vs) : GPair K (gTup K n gs) (gTupD n γs) vs :=
  ⟨fun v d σ ρ s k Q er r q f => by
    obtain ⟨ds, rfl, hl, q⟩ := q
    obtain ⟨a, us, rfl, ha, rs⟩ := r.tup_of
    exact ⟨a, us, rfl, (Same.seqT er.ok.sub ha), by rw [rs.length]; exact hl, hs.run _ ds σ ρ s k Q er rs q f⟩⟩

theorem up_lc {K : PySem.W.Frag} {ι : DI} {g : TG} {γ : DG} {θ : DT} {ε : DE} {vs : List Nat} {σ : L2.St} {H : Hp} {Q : VK} (gp : GPair K g γ vs) (h : up K E (dLc ι γ θ ε vs) σ H Q) : tLc (upI K E ι) g (upT K E0 θ) (up K E0 ε) vs σ H Q := by
  obtain ⟨ρ, s, k, x, rfl, er, q, p, px⟩ := h
  refine ⟨ρ, s, _, x, rfl, er, q, px, fun ds s1 q1 st1 ok1 J it => ?_⟩
  rcases q1 with ⟨hlen, I, i0, turn, fin⟩ | z
  case no => exact z.elim
  intro L hL
  -- the list at L is hidden while it grows
  have inv0 : ∃ (acc : List D) (vs' : List V) (s' : Sta), s'.H = upd s1.H L (.lst []) ∧ Ok K s' ∧ Step s1 s' ∧ s'.G L = none ∧ s'.M L = none ∧ s'.H L = some (.lst vs') ∧ Reps K s'.G vs' acc ∧ acc.length ≤ 0 ∧ I 0 acc s'.M := by
    obtain ⟨k1, st⟩ := ok1.hide (o := .lst []) (Step.refl s1) hL (ok1.freeG hL) (ok1.freeM hL)
    exact ⟨[], [], ⟨_, _, _⟩, rfl, k1, st, ok1.freeG hL, ok1.freeM hL, upd_same, .nil, Nat.le_refl _, i0⟩
  refine ⟨fun j m H' => m = ds.length - j ∧ j ≤ ds.length ∧ ∃ (acc : List D) (vs' : List V) (s' : Sta), s'.H = H' ∧ Ok K s' ∧ Step s1 s' ∧ s'.G L = none ∧ s'.M L = none ∧ s'.H L = some (.lst vs') ∧ Reps K s'.G vs' acc ∧ acc.length ≤ j ∧ I j acc s'.M,
    ⟨ds.length, rfl, Nat.zero_le _, inv0⟩, ?_⟩
  rintro j m H' ⟨rfl, hj, acc, vs', s', rfl, ok', st', gL, mL, hL', rs, hal, ij⟩
  by_cases hlt : j < ds.length
  · refine .inr ⟨it.go j s' st' ok' hlt, fun H2 => ∃ (acc : List D) (vs' : List V) (s' : Sta), s'.H = H2 ∧ Ok K s' ∧ Step s1 s' ∧ s'.G L = none ∧ s'.M L = none ∧ s'.H L = some (.lst vs') ∧ Reps K s'.G vs' acc ∧ acc.length ≤ j + 1 ∧ I (j + 1) acc s'.M,
      fun H2 z => ⟨ds.length - (j + 1), by omega, rfl, hlt, z⟩, fun v H2 y => ?_⟩
    obtain ⟨d, hd⟩ : ∃ d, ds[j]? = some d := ⟨ds[j], by simp [hlt]⟩
    obtain ⟨u, rfl, eM, stu, oku, ru⟩ := it.yld j s' v H2 st' ok' y d hd
    have ij' : I j acc u.M := by rw [eM]; exact ij
    obtain ⟨hLu, gLu, mLu⟩ := stu.hid L _ hL' gL mL
    have eru : ER K u (wipe σ vs) (wipeD ρ vs) := (er.step ((st1.trans st').trans stu) oku).wipe vs
    refine gp.run v d _ _ u _ _ eru ru (turn j d acc u.M hd ij') fun ρ3 σ3 q3 er3 w3 => ⟨w3.trans (wipe_wipe σ vs), ?_⟩
    refine ⟨ρ3, u, _, _, rfl, er3, q3, fun b s4 q4 st4 ok4 => ?_, PostX.never⟩
    obtain ⟨hL4, gL4, mL4⟩ := st4.hid L _ hLu gLu mLu
    cases b with
    | true =>
      rw [if_pos rfl] at q4 ⊢
      refine ⟨ρ3, s4, _, _, rfl, er3.step st4 ok4, q4, fun yd s5 q5 st5 ok5 yv ry => ?_, PostX.never⟩
      obtain ⟨hL5, gL5, mL5⟩ := st5.hid L _ hL4 gL4 mL4
      have rs5 : Reps K s5.G vs' acc := rs.same ((stu.trans st4).trans st5).same
      refine ⟨vs', hL5, by rw [rs5.length]; omega, ?_⟩
      obtain ⟨k6, st6⟩ := ok5.hide (o := .lst (vs' ++ [yv])) (((st'.trans stu).trans st4).trans st5) hL gL5 mL5
      exact ⟨acc ++ [yd], vs' ++ [yv], ⟨_, _, _⟩, rfl, k6, st6, gL5, mL5, upd_same, rs5.append (.cons ry .nil), by simp; omega, q5⟩
    | false =>
      rw [if_neg Bool.false_ne_true] at q4 ⊢
      exact ⟨acc, vs', s4, rfl, ok4, (st'.trans stu).trans st4, gL4, mL4, hL4, rs.same (stu.trans st4).same, by omega, q4⟩
  · have ej : j = ds.length := by omega
    subst ej
    refine .inl ⟨it.stop s' st' ok', ?_⟩
    obtain ⟨k6, st6, sm⟩ := ok'.shown st' hL gL mL hL'
    exact p _ ⟨s'.H, upd s'.G L (.lst vs'), s'.M⟩ (fin acc s'.M ij) (st1.trans st6) k6 _ (.lst upd_same (rs.same sm))
variable {elt : Expr} {ifs : List Expr} {scope : Scope} {own : List (Str × Nat)} {ι : DI} {g : TG} {γ : DG} {θ : DT} {ε : DE}
theorem d_lc (hc : X.calm = true) (hN : X.N.Nodup) (hi : DPI X E tg iter ι) (ok : BlkOk X.N X.env.scope scope own) (gp : GPair X.K g γ (own.map (·.2)))
    (hg : ∀ (s : Shared) (H : Hp) (C : Addr) (cl : List (Str × Addr)) (fp : List Addr), PG (X.blk s H scope (compEnvC scope cl C X.env) fp) tg g) (ht : ∀ (s : Shared) (H : Hp) (C : Addr) (cl : List (Str × Addr)) (fp : List Addr), DPTs (X.blk s H scope (compEnvC scope cl C X.env) fp) E0 ifs θ)
    (he : ∀ (s : Shared) (H : Hp) (C : Addr) (cl : List (Str × Addr)) (fp : List Addr), DP (X.blk s H scope (compEnvC scope cl C X.env) fp) E0 elt ε) (hs : ∀ x, foldedSetIterable iter X.env x = pure x := by intro _; rfl) :
    DP X E (.ListComp elt [⟨tg, iter, ifs, 0⟩] scope pos) (dLc ι γ θ ε (own.map (·.2))) := pe_mono (pe_lc (tt := upT X.K E0 θ) (te := up X.K E0 ε) hc hN hi ok hg ht he hs) fun _ _ _ h => up_lc gp h
theorem s_setLc {i : Nat} {y : Str} {py spos : Pos} (hc : X.calm = true) (hN : X.N.Nodup) (hy : X.N[i]? = some y) (hyl : X.env.scope.names.lookup y = some .local)
    (hsw : swapsWith (.ListComp elt [⟨tg, iter, ifs, 0⟩] scope pos) (some (.Name y py)) spos.line X.env = pure true) (hi : DPI X E tg iter ι) (ok : BlkOk X.N X.env.scope scope own) (gp : GPair X.K g γ (own.map (·.2)))
    (hg : ∀ (s : Shared) (H : Hp) (C : Addr) (cl : List (Str × Addr)) (fp : List Addr), PG (X.blk s H scope (compEnvC scope cl C X.env) fp) tg g) (ht : ∀ (s : Shared) (H : Hp) (C : Addr) (cl : List (Str × Addr)) (fp : List Addr), DPTs (X.blk s H scope (compEnvC scope cl C X.env) fp) E0 ifs θ)
    (he : ∀ (s : Shared) (H : Hp) (C : Addr) (cl : List (Str × Addr)) (fp : List Addr), DP (X.blk s H scope (compEnvC scope cl C X.env) fp) E0 elt ε) (hs : ∀ x, foldedSetIterable iter X.env x = pure x := by intro _; rfl) :
    DPS X E (.Assign [.Name y py] (.ListComp elt [⟨tg, iter, ifs, 0⟩] scope pos) spos) (dSet i (dLc ι γ θ ε (own.map (·.2)))) := ps_mono (ps_setLc (tt := upT X.K E0 θ) (te := up X.K E0 ε) hc hN hy hyl hsw hi ok hg ht he hs) fun D σ H h => by
  obtain ⟨ρ, s, k, x, rfl, er, q, p, px⟩ := h
  refine up_lc gp ⟨ρ, s, _, x, rfl, er, q, fun u s1 q1 st1 ok1 v1 r1 => p.nx _ s1 q1 st1 _ ((er.step st1 ok1).set i r1), px⟩
end
end DL
set_option Elab.async false
set_option linter.all false
set_option maxRecDepth 100000
set_option maxHeartbeats 2000000
namespace DL
open PySem PySem.Spec PyProof.Rows L2

/-! ### promises over data -/
abbrev Ct := List D → Mm → DK → DX → Prop
def spD (K : PySem.W.Frag) (n : Nat) (φ : Ct) : Sp := fun vs H Q E => ∃ s ds k x, s.H = H ∧ Ok K s ∧ Reps K s.G vs ds ∧ ds.length = n ∧ φ ds s.M k x ∧ Post K s k Q ∧ PostX K E s x
theorem spD_len {K : PySem.W.Frag} {n : Nat} {φ : Ct} {vs : List V} {H : Hp} {Q : VK} {E : XK} (h : spD K n φ vs H Q E) : vs.length = n := by
  obtain ⟨s, ds, k, x, _, _, r, hl, _⟩ := h
  rw [r.length]
  exact hl
theorem spD_imp {K : PySem.W.Frag} {n : Nat} {φ ψ : Ct} (h : ∀ ds M k x, φ ds M k x → ψ ds M k x) {vs : List V} {H : Hp} {Q : VK} {E : XK} (q : spD K n φ vs H Q E) : spD K n ψ vs H Q E := by
  obtain ⟨s, ds, k, x, e, o, r, hl, f, p, px⟩ := q
  exact ⟨s, ds, k, x, e, o, r, hl, h _ _ _ _ f, p, px⟩
def startD (N : List Str) (ds : List D) : DEnv := ds.map some ++ List.replicate (N.length - ds.length) none
theorem er_start {K : PySem.W.Frag} {s : Sta} {N : List Str} {vs : List V} {ds : List D} (o : Ok K s) (r : Reps K s.G vs ds) : ER K s (L2.start N vs) (startD N ds) := by
  have hl := r.length
  refine ⟨o, by simp [L2.start, startD, hl], fun i d h => ?_⟩
  unfold startD at h
  by_cases hi : i < ds.length
  · rw [List.getElem?_append_left (by simpa using hi), List.getElem?_map] at h
    cases e : ds[i]? with
    | none => rw [e] at h; cases h
    | some d' =>
      rw [e] at h
      have h' : d' = d := by simpa using h
      subst h'
      obtain ⟨v, hv, rv⟩ := r.get e
      refine ⟨v, ?_, rv⟩
      unfold L2.start
      rw [List.getElem?_append_left (by simpa [hl] using hi), List.getElem?_map, hv]
      rfl
  · rw [List.getElem?_append_right (by simpa using hi)] at h
    rw [List.getElem?_replicate] at h
    split at h <;> cases h
/-- what a def lets out is what its context takes -/
theorem pass_own {X : Cx} {E : XK} {E₁ : Value → Shared → Prop} (hs : X.stack = X.env :: X.outer) (hf : X.env.frame = some X.env.locals) (hex : X.ex = [])
    (hx : X.xe = fun e s' => wpAny (model X.prog X.w) X.A (leaving X.env e) (fun _ s'' => L2.CX X.prog X.w X.outer X.H_0 X.s_0 E e s'') E₁ s') : Passes (L2.CX X.prog X.w) X E :=
  passes_call (takes_of hs hf hex hx) fun _ _ _ _ h => h
section
variable {P : Program} {w : World} {K : PySem.W.Frag} {mg : Str → Option Value} {base : Heap}
/-- THE RULE for a def -/
theorem fn_D {x qual : Str} {params : Arguments} {body : List Stmt} {scope : Scope} {dvs : List V} {kws : List (Str × V)} {f : Addr} {fd : FuncData} {N ps : List Str} {k n : Nat} {φ : Ct} (F : FunD K x qual params body scope dvs kws f fd) (S : FnScope N ps scope) (hn : n = ps.length)
    (h : ∀ (cdv : Value) (A : Around) (outer : List Env) (s : Shared) (H : Hp) (E : XK), Room k (A.deeper (envOfC qual scope s.heap.objs.size f cdv)) →
      Passes (L2.CX P w) (cxOf (L2.CX P w) P w K mg base N qual scope f cdv A outer s H E) E → PassesOwn (model P w) (cxOf (L2.CX P w) P w K mg base N qual scope f cdv A outer s H E).A (cxOf (L2.CX P w) P w K mg base N qual scope f cdv A outer s H E).env (cxOf (L2.CX P w) P w K mg base N qual scope f cdv A outer s H E).xe →
      ∃ τ, DPB (cxOf (L2.CX P w) P w K mg base N qual scope f cdv A outer s H E) E body τ ∧
        ∀ (ds : List D) (M : Mm) (kk : DK) (x : DX), ds.length = n → φ ds M kk x → τ { nx := fun _ M => kk .non M, rt := kk, m0 := M } x (startD N ds) M) : FnOk P w K mg base (L2.CX P w) (k + 1) f fd ps (spD K n φ) := by
  refine F.ok (CX := L2.CX P w) S (fun vs H Q E q => by rw [spD_len q, hn]) fun cdv A outer s H vs Q E hr q => ?_
  obtain ⟨τ, ht, hq⟩ := h cdv A outer s H E hr (pass_own rfl rfl rfl rfl) (passes_of rfl)
  refine ⟨_, ht, ?_⟩
  obtain ⟨s0, ds, kk, xx, rfl, o, r, hl, f, p, px⟩ := q
  exact ⟨_, s0, _, xx, rfl, er_start o r, hq ds s0.M kk xx hl f, ⟨fun ρ t q st σ er => p _ t q st er.ok _ .non, ⟨s0, Step.refl s0, o, rfl, p⟩, fun _ _ z => z.elim, fun _ _ z => z.elim⟩, px⟩
end

/-! ### calls -/
section
variable {X : Cx} {CX : CXT} {E : XK} {k n : Nat} {f C : Addr} {fd : FuncData} {ps ks : List Str} {φ : Ct} {x m : Str} {p pos apos : Pos} {e o : Expr} {es : List Expr} {kws : List Keyword} {αa ακ : DA} {τo τv : DE} {g : List Value → List Value → List Value} {gV : List V → List V → List V} {gD : List D → List D → List D}
/-- how arguments bind, over data: n positional values, keywords named ks -/
structure KBd (K : PySem.W.Frag) (fd : FuncData) (ps : List Str) (n : Nat) (ks : List Str) (gD : List D → List D → List D) : Prop where
  ex : ∃ (g : List Value → List Value → List Value) (gV : List V → List V → List V), KBn K fd ps n ks g gV ∧ ∀ {G : Hp} {vs : List V} {us : List D} {zs : List V} {ws : List D}, Reps K G vs us → Reps K G zs ws → us.length = n → ws.length = ks.length → Reps K G (gV vs zs) (gD us ws)
def DPK (X : Cx) (E : XK) (kws : List Keyword) (τ : DA) : Prop := PK X kws (upA X.K E τ)
theorem pk_mono {t t' : TA} (h : PK X kws t) (m : ∀ σ H Q, t' σ H Q → t σ H Q) : PK X kws t' := ⟨fun p pins s σ H Q I q => h.run p pins s σ H Q I (m σ H Q q)⟩
theorem k_nil : DPK X E [] dNil := pk_mono pk_nil fun σ H Q h => by
  obtain ⟨ρ, s, k, x, rfl, er, q, p, px⟩ := h
  exact p [] s q (Step.refl s) er.ok [] .nil
theorem k_cons {nm : Option Str} {kpos : Pos} (ha : DP X E e τo) (hr : DPK X E kws αa) : DPK X E (⟨nm, e, kpos⟩ :: kws) (dCons τo αa) := pk_mono (pk_cons ha hr) fun σ H Q h => by
  obtain ⟨ρ, s, k, x, rfl, er, q, p, px⟩ := h
  refine ⟨ρ, s, _, x, rfl, er, q, fun u s1 q1 st1 ok1 v1 r1 => ?_, px⟩
  refine ⟨ρ, s1, _, x, rfl, er.step st1 ok1, q1, fun us s2 q2 st2 ok2 vs r2 => ?_, px.step st1⟩
  exact p _ s2 q2 (st1.trans st2) ok2 _ (.cons (r1.same st2.same) r2)
theorem run_D {nn : Nat} {pins : List (Addr × Obj)} {σ : L2.St} {H : Hp} {s : Shared} {Q : VK} {us ws : List Value} {vs zs : List V} (F : FnOk X.prog X.w X.K X.mg X.base CX k f fd ps (spD X.K nn φ)) (hr : Room k X.A) (hb : KBd X.K fd ps n ks gD) (hx : Passes CX X E)
    (I : Inv X pins σ H s) (r : Vals vs us) (rz : Vals zs ws) (h : ∃ s ds zd k x, s.H = H ∧ Ok X.K s ∧ Reps X.K s.G vs ds ∧ Reps X.K s.G zs zd ∧ ds.length = n ∧ zd.length = ks.length ∧ (gD ds zd).length = nn ∧ φ (gD ds zd) s.M k x ∧ Post X.K s k Q ∧ PostX X.K E s x) :
    wpAny (model X.prog X.w) X.A (call (.ref f) us (ks.zip ws)) (EP X pins σ Q) X.xe s := by
  obtain ⟨s0, ds, zd, kk, xx, rfl, o, r1, r2, l1, l2, ln, q, p, px⟩ := h
  obtain ⟨g, gV, hb, hrep⟩ := hb.ex
  have rr := hb.rel r rz
  have e1 : us.length = n := r.length.symm.trans (r1.length.trans l1)
  have e2 : ws.length = ks.length := rz.length.symm.trans (r2.length.trans l2)
  have hs : spD X.K nn φ (gV vs zs) s0.H Q E := ⟨s0, gD ds zd, kk, xx, rfl, o, hrep r1 r2 l1 l2, ln, q, p, px⟩
  refine wpAny_call (codeAny_mono (F.run X.A X.stack s s0.H ⟨us, ks.zip ws⟩ (g us ws) (gV vs zs) Q E hr I.env0 (hb.to s us ws I.kIn e1 e2) rr hs) fun r s' hq => ?_)
  cases r with
  | error e => exact hx pins σ s0.H s e s' I hq
  | ok fl =>
    cases fl with
    | ret u => exact I.after hq
    | next => exact False.elim hq
    | brk => exact False.elim hq
    | cont => exact False.elim hq
def dCall (n : Nat) (φ : Ct) (gD : List D → List D → List D) (α : DA) : DE := fun ρ M k x => α ρ M (fun ds M1 => ds.length = n ∧ φ (gD ds []) M1 k x) x
def dCallK (n m : Nat) (φ : Ct) (gD : List D → List D → List D) (α κ : DA) : DE := fun ρ M k x => α ρ M (fun ds M1 => κ ρ M1 (fun zs M2 => ds.length = n ∧ zs.length = m ∧ φ (gD ds zs) M2 k x) x) x
variable {nn : Nat} (hgl : ∀ us ws : List D, us.length = n → ws.length = ks.length → (gD us ws).length = nn)
theorem d_call (F : FnOk X.prog X.w X.K X.mg X.base CX k f fd ps (spD X.K nn φ)) (hr : Room k X.A) (hg : Gl X x) (hm : X.mg x = some (.ref f)) (hk : PySem.W.keepIn X.K (.ref f) = true) (hb : KBd X.K fd ps n [] gD) (hgl : ∀ us ws : List D, us.length = n → ws.length = 0 → (gD us ws).length = nn) (hx : Passes CX X E)
    (ha : DPA X E (e :: es) αa) (hdb : (x == ("__debug__" : Str)) = false := by decide) (he : starEach (e :: es) X.env = (false, eval e X.env) :: starEach es X.env := by rfl) (hpl : (backTo pos (starEach es X.env)).any (·.1) = false := by rfl) :
    DP X E (.Call (.Name x p) (e :: es) [] pos) (dCall n φ gD αa) := by
  refine ⟨fun pins s σ H Q I h => ?_⟩
  obtain ⟨ρ, s0, kk, xx, rfl, er, q, pp, px⟩ := h
  refine wpAny_Call_Name_kw (ld_glob I hg hm ?_ hdb)
  refine PySem.W.callWith_K (h₀ := X.base) I.ok.mod.kin hk (thn (ha.run pos pins s σ s0.H (fun vs H1 => ∃ s1 ds, s1.H = H1 ∧ Ok X.K s1 ∧ Step s0 s1 ∧ Reps X.K s1.G vs ds ∧ ds.length = n ∧ φ (gD ds []) s1.M kk xx) I ⟨ρ, s0, _, xx, rfl, er, q, fun ds s1 q1 st1 ok1 vs r1 => ⟨s1, ds, rfl, ok1, st1, r1, q1⟩, px⟩) fun us s1 ⟨vs, H1, I1, r, s2, ds, e2, ok2, st2, r2, l2, q2⟩ => ⟨I1.kIn, ?_⟩) he hpl
  subst e2
  exact run_D (ws := []) (zs := []) F hr hb hx I1 r .nil ⟨s2, ds, [], kk, xx, rfl, ok2, r2, .nil, l2, rfl, hgl _ _ l2 rfl, q2, pp.step st2, px.step st2⟩
theorem d_call0 (F : FnOk X.prog X.w X.K X.mg X.base CX k f fd ps (spD X.K nn φ)) (hr : Room k X.A) (hg : Gl X x) (hm : X.mg x = some (.ref f)) (hk : PySem.W.keepIn X.K (.ref f) = true) (hb : KBd X.K fd ps 0 [] gD) (hgl : (gD [] []).length = nn) (hx : Passes CX X E) (hdb : (x == ("__debug__" : Str)) = false := by decide) :
    DP X E (.Call (.Name x p) [] [] pos) (dCall 0 φ gD dNil) := by
  refine ⟨fun pins s σ H Q I h => ?_⟩
  obtain ⟨ρ, s0, kk, xx, rfl, er, ⟨_, q⟩, pp, px⟩ := h
  refine wpAny_Call_Name_kw (ld_glob I hg hm ?_ hdb)
  exact PySem.W.callWith_K0 I.kIn hk (run_D (us := []) (vs := []) (ws := []) (zs := []) F hr hb hx I .nil .nil ⟨s0, [], [], kk, xx, rfl, er.ok, .nil, .nil, rfl, rfl, hgl, q, pp, px⟩)
theorem d_callK (F : FnOk X.prog X.w X.K X.mg X.base CX k f fd ps (spD X.K nn φ)) (hr : Room k X.A) (hg : Gl X x) (hm : X.mg x = some (.ref f)) (hk : PySem.W.keepIn X.K (.ref f) = true) (hb : KBd X.K fd ps n ks gD) (hgl : ∀ us ws : List D, us.length = n → ws.length = ks.length → (gD us ws).length = nn) (hx : Passes CX X E)
    (ha : DPA X E (e :: es) αa) (hkw : DPK X E kws ακ) (hall : (backToKw pos (keywordEach kws X.env)).all (·.1.isSome) = true := by rfl) (hks : (backToKw pos (keywordEach kws X.env)).filterMap (·.1) = ks := by rfl)
    (hdb : (x == ("__debug__" : Str)) = false := by decide) (he : starEach (e :: es) X.env = (false, eval e X.env) :: starEach es X.env := by rfl)
    (hpl : ((backTo pos (starEach (e :: es) X.env)).any (·.1) || (backToKw pos (keywordEach kws X.env)).any (·.1.isNone)) = false := by rfl) :
    DP X E (.Call (.Name x p) (e :: es) kws pos) (dCallK n ks.length φ gD αa ακ) := by
  refine ⟨fun pins s σ H Q I h => ?_⟩
  obtain ⟨ρ, s0, kk, xx, rfl, er, q, pp, px⟩ := h
  refine wpAny_Call_Name_kw (ld_glob I hg hm ?_ hdb)
  refine PySem.W.callWith_KW (h₀ := X.base) I.ok.mod.kin hk hall (thn (ha.run pos pins s σ s0.H (fun vs H1 => ∃ s1 ds, s1.H = H1 ∧ Ok X.K s1 ∧ Step s0 s1 ∧ Reps X.K s1.G vs ds ∧ ακ ρ s1.M (fun zs M2 => ds.length = n ∧ zs.length = ks.length ∧ φ (gD ds zs) M2 kk xx) xx) I ⟨ρ, s0, _, xx, rfl, er, q, fun ds s1 q1 st1 ok1 vs r1 => ⟨s1, ds, rfl, ok1, st1, r1, q1⟩, px⟩) fun us s1 ⟨vs, H1, I1, r, s2, ds, e2, ok2, st2, r2, q2⟩ => ?_) hpl he
  subst e2
  refine thn (hkw.run pos pins s1 σ s2.H (fun zs H2 => ∃ s3 zd, s3.H = H2 ∧ Ok X.K s3 ∧ Step s2 s3 ∧ Reps X.K s3.G zs zd ∧ ds.length = n ∧ zd.length = ks.length ∧ φ (gD ds zd) s3.M kk xx) I1 ⟨ρ, s2, _, xx, rfl, er.step st2 ok2, q2, fun zd s3 q3 st3 ok3 zs r3 => ⟨s3, zd, rfl, ok3, st3, r3, q3⟩, px.step st2⟩) fun ws s3 ⟨zs, H2, I2, rz, s4, zd, e4, ok4, st4, r4, l4, l5, q4⟩ => ⟨I2.kIn, ?_⟩
  subst e4
  rw [hks]
  exact run_D F hr hb hx I2 r rz ⟨s4, ds, zd, kk, xx, rfl, ok4, r2.same st4.same, r4, l4, l5, hgl _ _ l4 l5, q4, pp.step (st2.trans st4), px.step (st2.trans st4)⟩
theorem d_callK0 (F : FnOk X.prog X.w X.K X.mg X.base CX k f fd ps (spD X.K nn φ)) (hr : Room k X.A) (hg : Gl X x) (hm : X.mg x = some (.ref f)) (hk : PySem.W.keepIn X.K (.ref f) = true) (hb : KBd X.K fd ps 0 ks gD) (hgl : ∀ ws : List D, ws.length = ks.length → (gD [] ws).length = nn) (hx : Passes CX X E)
    (hkw : DPK X E kws ακ) (hall : (backToKw pos (keywordEach kws X.env)).all (·.1.isSome) = true := by rfl) (hks : (backToKw pos (keywordEach kws X.env)).filterMap (·.1) = ks := by rfl)
    (hdb : (x == ("__debug__" : Str)) = false := by decide) (hpl : ((backTo pos (starEach [] X.env)).any (·.1) || (backToKw pos (keywordEach kws X.env)).any (·.1.isNone)) = false := by rfl) :
    DP X E (.Call (.Name x p) [] kws pos) (dCallK 0 ks.length φ gD dNil ακ) := by
  refine ⟨fun pins s σ H Q I h => ?_⟩
  obtain ⟨ρ, s0, kk, xx, rfl, er, q, pp, px⟩ := h
  refine wpAny_Call_Name_kw (ld_glob I hg hm ?_ hdb)
  refine PySem.W.callWith_KW0 (h₀ := X.base) I.ok.mod.kin hk hall ?_ hpl
  refine thn (hkw.run pos pins s σ s0.H (fun zs H2 => ∃ s3 zd, s3.H = H2 ∧ Ok X.K s3 ∧ Step s0 s3 ∧ Reps X.K s3.G zs zd ∧ 0 = 0 ∧ zd.length = ks.length ∧ φ (gD [] zd) s3.M kk xx) I ⟨ρ, s0, _, xx, rfl, er, q, fun zd s3 q3 st3 ok3 zs r3 => ⟨s3, zd, rfl, ok3, st3, r3, q3⟩, px⟩) fun ws s3 ⟨zs, H2, I2, rz, s4, zd, e4, ok4, st4, r4, l4, l5, q4⟩ => ⟨I2.kIn, ?_⟩
  subst e4
  rw [hks]
  exact run_D (us := []) (vs := []) F hr hb hx I2 .nil rz ⟨s4, [], zd, kk, xx, rfl, ok4, .nil, r4, rfl, l5, hgl _ l5, q4, pp.step st4, px.step st4⟩
end
/-- every parameter is written, in order -/
theorem kbd_plain {K : PySem.W.Frag} {fd : FuncData} {ps : List Str} {n : Nat} (hn : n = ps.length) (h : ∀ us : List Value, us.length = ps.length → bindArgs fd ⟨us, []⟩ = pure (ps.zip us)) : KBd K fd ps n [] (fun us _ => us) :=
  ⟨⟨fun us _ => us, fun vs _ => vs, ⟨fun s us ws _ l1 l2 => by
    have e : ws = [] := List.eq_nil_of_length_eq_zero l2
    subst e
    exact .of_eq (h us (l1.trans hn)), fun r _ => r⟩, fun r _ _ _ => r⟩⟩
/-- keywords: what stands at the i-th place comes from the positional ones (inl) or the keywords (inr) -/
def pickA {α : Type} (us ws : List α) : List (Sum Nat Nat) → List α
  | [] => []
  | .inl i :: r => (match us[i]? with | some u => [u] | none => []) ++ pickA us ws r
  | .inr j :: r => (match ws[j]? with | some u => [u] | none => []) ++ pickA us ws r
theorem pickA_vals {vs zs : List V} {us ws : List Value} (r : Vals vs us) (rz : Vals zs ws) : ∀ l, Vals (pickA vs zs l) (pickA us ws l)
  | [] => .nil
  | .inl i :: l => by
    refine Vals.append ?_ (pickA_vals r rz l)
    cases e : vs[i]? with
    | none => rw [r.none_of e]; exact .nil
    | some v => obtain ⟨u, h1, h2⟩ := r.get e; rw [h1]; exact .cons h2 .nil
  | .inr i :: l => by
    refine Vals.append ?_ (pickA_vals r rz l)
    cases e : zs[i]? with
    | none => rw [rz.none_of e]; exact .nil
    | some v => obtain ⟨u, h1, h2⟩ := rz.get e; rw [h1]; exact .cons h2 .nil
theorem Reps.noneD {K : PySem.W.Frag} {G : Hp} {vs : List V} {ds : List D} {i : Nat} (r : Reps K G vs ds) (e : vs[i]? = none) : ds[i]? = none := by
  have h1 := r.length
  have h2 : vs.length ≤ i := List.getElem?_eq_none_iff.mp e
  exact List.getElem?_eq_none_iff.mpr (by omega)
theorem pickA_reps {K : PySem.W.Frag} {G : Hp} {vs zs : List V} {us ws : List D} (r : Reps K G vs us) (rz : Reps K G zs ws) : ∀ l, Reps K G (pickA vs zs l) (pickA us ws l)
  | [] => .nil
  | .inl i :: l => by
    refine Reps.append ?_ (pickA_reps r rz l)
    cases e : vs[i]? with
    | none => rw [r.noneD e]; exact .nil
    | some v => obtain ⟨u, h1, h2⟩ := r.getV e; rw [h1]; exact .cons h2 .nil
  | .inr i :: l => by
    refine Reps.append ?_ (pickA_reps r rz l)
    cases e : zs[i]? with
    | none => rw [rz.noneD e]; exact .nil
    | some v => obtain ⟨u, h1, h2⟩ := rz.getV e; rw [h1]; exact .cons h2 .nil
theorem kbd_kw {K : PySem.W.Frag} {fd : FuncData} {ps ks : List Str} {n : Nat} (l : List (Sum Nat Nat)) (h : ∀ us ws : List Value, us.length = n → ws.length = ks.length → bindArgs fd ⟨us, ks.zip ws⟩ = pure (ps.zip (pickA us ws l))) : KBd K fd ps n ks (fun us ws => pickA us ws l) :=
  ⟨⟨fun us ws => pickA us ws l, fun vs zs => pickA vs zs l, ⟨fun s us ws _ l1 l2 => .of_eq (h us ws l1 l2), fun r rz => pickA_vals r rz l⟩, fun r rz _ _ => pickA_reps r rz l⟩⟩
end DL
set_option Elab.async false
set_option linter.all false
set_option maxRecDepth 100000
set_option maxHeartbeats 2000000
namespace DL
open PySem PySem.Spec PyProof.Rows L2
section
variable {X : Cx} {E : XK} {e a b c : Expr} {pos : Pos} {τa τb τc : DE} {αa : DA} {es : List Expr}

/-! ### arithmetic -/
def dAdd : D2
  | .int i, .int j, M, k, _ => k (.int (i + j)) M
  | .str i, .str j, M, k, _ => i.length + j.length ≤ sizeLine ∧ k (.str (i ++ j)) M
  | .lst i, .lst j, M, k, _ => i.length + j.length ≤ sizeLine ∧ k (.lst (i ++ j)) M
  | .tup i, .tup j, M, k, _ => i.length + j.length ≤ sizeLine ∧ k (.tup (i ++ j)) M
  | _, _, _, _, _ => False
theorem o_add : OpR X (binaryOp .Add) (r2 X.K E dAdd) := by
  intro pins s σ H x y u v Q I rx ry h
  obtain ⟨s0, dx, dy, k, xx, rfl, ok, hx, hy, q, p, px⟩ := h
  unfold dAdd at q
  split at q
  · cases hx; cases hy
    exact op_add pins s σ _ _ _ u v Q I rx ry ⟨_, _, rfl, rfl, p.now q ok .int⟩
  · cases hx; cases hy
    exact op_add_str pins s σ _ _ _ u v Q I rx ry ⟨_, _, rfl, rfl, q.1, p.now q.2 ok .str⟩
  · obtain ⟨l, vs, rfl, hl, r1⟩ := hx.lst_of
    obtain ⟨m, us, rfl, hm, r2⟩ := hy.lst_of
    exact op_cat pins s σ _ _ _ u v Q I rx ry ⟨l, m, vs, us, rfl, rfl, ok.sub _ _ hl, ok.sub _ _ hm, by rw [r1.length, r2.length]; exact q.1, fun t ht => p.lst q.2 ok (r1.append r2) ht⟩
  · obtain ⟨l, vs, rfl, hl, r1⟩ := hx.tup_of
    obtain ⟨m, us, rfl, hm, r2⟩ := hy.tup_of
    refine op_catA pins s σ _ _ _ u v Q I rx ry ⟨l, m, vs, us, rfl, rfl, (Same.seqT ok.sub hl), (Same.seqT ok.sub hm), by rw [r1.length, r2.length]; exact q.1, fun e => ?_, fun _ e => ?_, fun _ _ t ht => p.tup q.2 ok (r1.append r2) ht⟩
    · subst e
      cases r1
      exact p.now q.2 ok (.tup hm r2)
    · subst e
      cases r2
      have q2 := q.2
      rw [List.append_nil] at q2
      exact p.now q2 ok (.tup hl r1)
  · exact q.elim
def dI2 (g : Int → Int → D) : D2
  | .int i, .int j, M, k, _ => k (g i j) M
  | _, _, _, _, _ => False
def dI2c (C : Int → Int → Prop) (g : Int → Int → D) : D2
  | .int i, .int j, M, k, _ => C i j ∧ k (g i j) M
  | _, _, _, _, _ => False
theorem o_sub : OpR X (binaryOp .Sub) (r2 X.K E (dI2 fun i j => .int (i - j))) := by
  intro pins s σ H x y u v Q I rx ry h
  obtain ⟨s0, dx, dy, k, xx, rfl, ok, hx, hy, q, p, px⟩ := h
  unfold dI2 at q
  split at q
  · cases hx; cases hy
    exact op_sub pins s σ _ _ _ u v Q I rx ry ⟨_, _, rfl, rfl, p.now q ok .int⟩
  · exact q.elim
/-- one factor below 2 ^ 64, or both together below a million bits -/
def MulOk (i j : Int) : Prop := CMul i j ∨ CMulW i j
theorem o_mul : OpR X (binaryOp .Mult) (r2 X.K E (dI2c MulOk fun i j => .int (i * j))) := by
  intro pins s σ H x y u v Q I rx ry h
  obtain ⟨s0, dx, dy, k, xx, rfl, ok, hx, hy, q, p, px⟩ := h
  unfold dI2c at q
  split at q
  · cases hx; cases hy
    rcases q.1 with c | c
    · exact op_mul pins s σ _ _ _ u v Q I rx ry ⟨_, _, rfl, rfl, c, p.now q.2 ok .int⟩
    · exact op_mulW pins s σ _ _ _ u v Q I rx ry ⟨_, _, rfl, rfl, c, p.now q.2 ok .int⟩
  · exact q.elim
def DivOk (_ j : Int) : Prop := j ≠ 0 ∧ j.natAbs.log2 < 9000
theorem o_fdiv : OpR X (binaryOp .FloorDiv) (r2 X.K E (dI2c DivOk fun i j => .int (i.fdiv j))) := by
  intro pins s σ H x y u v Q I rx ry h
  obtain ⟨s0, dx, dy, k, xx, rfl, ok, hx, hy, q, p, px⟩ := h
  unfold dI2c at q
  split at q
  · cases hx; cases hy
    have op : OpR X (binaryOp .FloorDiv) (rI DivOk fun i j => .int (i.fdiv j)) := opI fun _ _ _ _ _ _ _ hc q => floordiv_int hc.1 q (.inl (PyProof.noPylong_of_log2 hc.2))
    exact op pins s σ _ _ _ u v Q I rx ry ⟨_, _, rfl, rfl, q.1, p.now q.2 ok .int⟩
  · exact q.elim
theorem o_mod : OpR X (binaryOp .Mod) (r2 X.K E (dI2c (fun _ j => j ≠ 0) fun i j => .int (i.fmod j))) := by
  intro pins s σ H x y u v Q I rx ry h
  obtain ⟨s0, dx, dy, k, xx, rfl, ok, hx, hy, q, p, px⟩ := h
  unfold dI2c at q
  split at q
  · cases hx; cases hy
    exact op_modN pins s σ _ _ _ u v Q I rx ry ⟨_, _, rfl, rfl, q.1, p.now q.2 ok .int⟩
  · exact q.elim
theorem o_pow : OpR X (binaryOp .Pow) (r2 X.K E (dI2c CPow fun i j => .int (i ^ j.toNat))) := by
  intro pins s σ H x y u v Q I rx ry h
  obtain ⟨s0, dx, dy, k, xx, rfl, ok, hx, hy, q, p, px⟩ := h
  unfold dI2c at q
  split at q
  · cases hx; cases hy
    exact op_pow pins s σ _ _ _ u v Q I rx ry ⟨_, _, rfl, rfl, q.1, p.now q.2 ok .int⟩
  · exact q.elim
def dNeg : D1
  | .int i, M, k, _ => k (.int (-i)) M
  | _, _, _, _ => False
theorem o_neg : UnR X (unaryOp .USub) (r1 X.K E dNeg) := by
  intro pins s σ H x u Q I rx h
  obtain ⟨s0, dx, k, xx, rfl, ok, hx, q, p, px⟩ := h
  unfold dNeg at q
  split at q
  · cases hx
    exact un_neg pins s σ _ _ u Q I rx ⟨_, rfl, p.now q ok .int⟩
  · exact q.elim

/-! ### comparisons -/
theorem o_lt : OpR X (compareOp .Lt) (r2 X.K E (dI2 fun i j => .bl (decide (i < j)))) := by
  intro pins s σ H x y u v Q I rx ry h
  obtain ⟨s0, dx, dy, k, xx, rfl, ok, hx, hy, q, p, px⟩ := h
  unfold dI2 at q
  split at q
  · cases hx; cases hy
    exact op_lt pins s σ _ _ _ u v Q I rx ry ⟨_, _, rfl, rfl, p.now q ok .bl⟩
  · exact q.elim
theorem o_le : OpR X (compareOp .LtE) (r2 X.K E (dI2 fun i j => .bl (decide (i ≤ j)))) := by
  intro pins s σ H x y u v Q I rx ry h
  obtain ⟨s0, dx, dy, k, xx, rfl, ok, hx, hy, q, p, px⟩ := h
  unfold dI2 at q
  split at q
  · cases hx; cases hy
    exact op_le pins s σ _ _ _ u v Q I rx ry ⟨_, _, rfl, rfl, p.now q ok .bl⟩
  · exact q.elim
theorem o_gt : OpR X (compareOp .Gt) (r2 X.K E (dI2 fun i j => .bl (decide (j < i)))) := by
  intro pins s σ H x y u v Q I rx ry h
  obtain ⟨s0, dx, dy, k, xx, rfl, ok, hx, hy, q, p, px⟩ := h
  unfold dI2 at q
  split at q
  · cases hx; cases hy
    exact op_gt pins s σ _ _ _ u v Q I rx ry ⟨_, _, rfl, rfl, p.now q ok .bl⟩
  · exact q.elim
theorem o_ge : OpR X (compareOp .GtE) (r2 X.K E (dI2 fun i j => .bl (decide (j ≤ i)))) := by
  intro pins s σ H x y u v Q I rx ry h
  obtain ⟨s0, dx, dy, k, xx, rfl, ok, hx, hy, q, p, px⟩ := h
  unfold dI2 at q
  split at q
  · cases hx; cases hy
    exact op_ge pins s σ _ _ _ u v Q I rx ry ⟨_, _, rfl, rfl, p.now q ok .bl⟩
  · exact q.elim
/-- a < b < c -/
theorem d_chain {op op' : CmpOp} {f g : D2} (ho : OpR X (compareOp op) (r2 X.K E f)) (ho' : OpR X (compareOp op') (r2 X.K E g)) (ha : DP X E a τa) (hb : DP X E b τb) (hc : DP X E c τc) (hm : lastMarks [op, op'] [b, c] = false := by with_unfolding_all rfl) :
    DP X E (.Compare a [op, op'] [b, c] pos) (dChain f g τa τb τc) := pe_mono (pe_chain ho ho' ha hb hc hm) fun σ H Q h => by
  obtain ⟨ρ, s, k, x, rfl, er, q, p, px⟩ := h
  refine ⟨ρ, s, _, x, rfl, er, q, fun u s1 q1 st1 ok1 v1 r1 => ?_, px⟩
  refine ⟨ρ, s1, _, x, rfl, er.step st1 ok1, q1, fun w s2 q2 st2 ok2 v2 r2 => ?_, px.step st1⟩
  refine ⟨s2, u, w, _, x, rfl, ok2, r1.same st2.same, r2, q2, fun z s3 q3 st3 ok3 v3 r3 => ?_, px.step (st1.trans st2)⟩
  obtain ⟨c, rfl, q3⟩ := q3
  refine ⟨c, r3.bl_of, ?_⟩
  have st : Step s s3 := (st1.trans st2).trans st3
  cases c with
  | true =>
    rw [if_pos rfl] at q3 ⊢
    refine ⟨ρ, s3, _, x, rfl, er.step st ok3, q3, fun z s4 q4 st4 ok4 v4 r4 => ?_, px.step st⟩
    exact ⟨s4, w, z, k, x, rfl, ok4, r2.same (st3.trans st4).same, r4, q4, p.step (st.trans st4), px.step (st.trans st4)⟩
  | false =>
    rw [if_neg Bool.false_ne_true] at q3 ⊢
    exact p _ s3 q3 st ok3 _ .bl
theorem t_chain {op op' : CmpOp} {f g : D2} (ho : OpR X (compareOp op) (r2 X.K E f)) (ho' : OpR X (compareOp op') (r2 X.K E g)) (ha : DP X E a τa) (hb : DP X E b τb) (hc : DP X E c τc) (hm : lastMarks [op, op'] [b, c] = false := by with_unfolding_all rfl) :
    DPT X E (.Compare a [op, op'] [b, c] pos) (dB (dChain f g τa τb τc)) := pt_mono (pt_chain ho ho' ha hb hc hm) fun σ H Q h => by
  have h' := upT_B h
  obtain ⟨ρ, s, k, x, rfl, er, q, p, px⟩ := h'
  refine ⟨ρ, s, _, x, rfl, er, q, fun u s1 q1 st1 ok1 v1 r1 => ?_, px⟩
  refine ⟨ρ, s1, _, x, rfl, er.step st1 ok1, q1, fun w s2 q2 st2 ok2 v2 r2 => ?_, px.step st1⟩
  refine ⟨s2, u, w, _, x, rfl, ok2, r1.same st2.same, r2, q2, fun z s3 q3 st3 ok3 v3 r3 => ?_, px.step (st1.trans st2)⟩
  obtain ⟨c, rfl, q3⟩ := q3
  refine ⟨c, r3.bl_of, ?_⟩
  have st : Step s s3 := (st1.trans st2).trans st3
  cases c with
  | true =>
    rw [if_pos rfl] at q3 ⊢
    refine ⟨ρ, s3, _, x, rfl, er.step st ok3, q3, fun z s4 q4 st4 ok4 v4 r4 => ?_, px.step st⟩
    exact ⟨s4, w, z, k, x, rfl, ok4, r2.same (st3.trans st4).same, r4, q4, p.step (st.trans st4), px.step (st.trans st4)⟩
  | false =>
    rw [if_neg Bool.false_ne_true] at q3 ⊢
    exact p _ s3 q3 st ok3 _ .bl

/-! ### == -/
mutual
def toP : D → Option PyData
  | .non => some .none
  | .bl b => some (.bool b)
  | .int i => some (.int i)
  | .str x => some (.str x)
  | .lst ds => (toPs ds).map .list
  | .tup ds => (toPs ds).map .tuple
  | _ => none
def toPs : List D → Option (List PyData)
  | [] => some []
  | d :: ds => match toP d, toPs ds with
    | some p, some ps => some (p :: ps)
    | _, _ => none
end
mutual
theorem dp_of {K : PySem.W.Frag} {G : Hp} : ∀ {v : V} {d : D} {p : PyData}, Rep K G v d → toP d = some p → Dp K G v p
  | _, .non, p, h, e => by cases h; simp [toP] at e; subst e; exact .non
  | _, .bl b, p, h, e => by cases h; simp [toP] at e; subst e; exact .bl b
  | _, .int b, p, h, e => by cases h; simp [toP] at e; subst e; exact .int b
  | _, .str b, p, h, e => by cases h; simp [toP] at e; subst e; exact .str b
  | _, .lst ds, p, h, e => by
    obtain ⟨a, vs, rfl, ha, r⟩ := h.lst_of
    simp only [toP, Option.map_eq_some_iff] at e
    obtain ⟨ps, e1, rfl⟩ := e
    exact .lst (SqL.of ha) (dps_of r e1)
  | _, .tup ds, p, h, e => by
    obtain ⟨a, vs, rfl, ha, r⟩ := h.tup_of
    simp only [toP, Option.map_eq_some_iff] at e
    obtain ⟨ps, e1, rfl⟩ := e
    exact .tup (ha) (dps_of r e1)
  | _, .obj _ _, p, h, e => by simp [toP] at e
  | _, .cel _, p, h, e => by simp [toP] at e
  | _, .scr _, p, h, e => by simp [toP] at e
  | _, .exc _ _ _, p, h, e => by simp [toP] at e
  | _, .lam _ _ _ _ _, p, h, e => by simp [toP] at e
  | _, .err _ _, p, h, e => by simp [toP] at e
  | _, .dic _ _, p, h, e => by simp [toP] at e
theorem dps_of {K : PySem.W.Frag} {G : Hp} : ∀ {vs : List V} {ds : List D} {ps : List PyData}, Reps K G vs ds → toPs ds = some ps → DpAll K G vs ps
  | _, [], ps, h, e => by cases h; simp [toPs] at e; subst e; exact .nil
  | _, d :: ds, ps, h, e => by
    cases h with
    | cons h1 h2 =>
      simp only [toPs] at e
      split at e
      · rename_i p ps' e1 e2
        cases e
        exact .cons (dp_of h1 e1) (dps_of h2 e2)
      · cases e
end
mutual
theorem Dp.same {K : PySem.W.Frag} {G G' : Hp} (s : Same G G') : ∀ {v : V} {p : PyData}, Dp K G v p → Dp K G' v p
  | _, _, .non => .non
  | _, _, .bl b => .bl b
  | _, _, .int b => .int b
  | _, _, .str b => .str b
  | _, _, .lst h r => .lst (Same.seq s h) (DpAll.same s r)
  | _, _, .tup h r => .tup (Same.seqT s h) (DpAll.same s r)
theorem DpAll.same {K : PySem.W.Frag} {G G' : Hp} (s : Same G G') : ∀ {v : List V} {p : List PyData}, DpAll K G v p → DpAll K G' v p
  | _, _, .nil => .nil
  | _, _, .cons h r => .cons (Dp.same s h) (DpAll.same s r)
end
/-- flat data -/
def flatD : D → Bool
  | .non => true
  | .bl _ => true
  | .int _ => true
  | .str _ => true
  | _ => false
def toV : D → V
  | .non => .non
  | .bl b => .bl b
  | .int i => .int i
  | .str x => .str x
  | _ => .non
theorem Rep.flat {K : PySem.W.Frag} {G : Hp} {v : V} {d : D} (h : Rep K G v d) (f : flatD d = true) : v = toV d ∧ flatV v = true := by
  cases h <;> first | exact ⟨rfl, rfl⟩ | cases f
/-- == of pure data -/
inductive EqD : D → D → Bool → Prop where
  | py {x y : D} {p q : PyData} (h1 : toP x = some p) (h2 : toP y = some q) (h3 : SeqAt.shaped p = true) (h4 : SeqAt.shaped q = true) : EqD x y (PyData.eqv p q)
  | sc {x y : D} (h1 : flatD x = true) (h2 : flatD y = true) (h3 : scal (toV x) (toV y) = true) : EqD x y (decide (toV x = toV y))
inductive EqK (x y : D) (M : Mm) (k : DK) : Prop where
  | of {r : Bool} (h : EqD x y r) (q : k (.bl r) M)
  | no (h : False)
inductive NeK (x y : D) (M : Mm) (k : DK) : Prop where
  | of {r : Bool} (h : EqD x y r) (q : k (.bl (!r)) M)
  | no (h : False)
def dEq : D2 := fun x y M k _ => EqK x y M k
def dNe : D2 := fun x y M k _ => NeK x y M k
theorem o_eq (hu : X.A.units + 64 < cLine) : OpR X (compareOp .Eq) (r2 X.K E dEq) := by
  intro pins s σ H x y u v Q I rx ry h
  obtain ⟨s0, dx, dy, k, xx, rfl, ok, hx, hy, qq, p, px⟩ := h
  rcases qq with ⟨q, q2⟩ | z
  case no => exact z.elim
  cases q with
  | py h1 h2 h3 h4 => exact op_eqD hu pins s σ _ _ _ u v Q I rx ry ⟨_, _, Dp.same ok.sub (dp_of hx h1), Dp.same ok.sub (dp_of hy h2), h3, h4, p.now q2 ok .bl⟩
  | sc h1 h2 h3 =>
    obtain ⟨rfl, _⟩ := hx.flat h1
    obtain ⟨rfl, _⟩ := hy.flat h2
    exact op_eq pins s σ _ _ _ u v Q I rx ry ⟨h3, p.now q2 ok .bl⟩
theorem o_ne (hu : X.A.units + 64 < cLine) : OpR X (compareOp .NotEq) (r2 X.K E dNe) := by
  intro pins s σ H x y u v Q I rx ry h
  obtain ⟨s0, dx, dy, k, xx, rfl, ok, hx, hy, qq, p, px⟩ := h
  rcases qq with ⟨q, q2⟩ | z
  case no => exact z.elim
  cases q with
  | py h1 h2 h3 h4 => exact op_neD hu pins s σ _ _ _ u v Q I rx ry ⟨_, _, Dp.same ok.sub (dp_of hx h1), Dp.same ok.sub (dp_of hy h2), h3, h4, p.now q2 ok .bl⟩
  | sc h1 h2 h3 =>
    obtain ⟨rfl, _⟩ := hx.flat h1
    obtain ⟨rfl, _⟩ := hy.flat h2
    exact op_ne pins s σ _ _ _ u v Q I rx ry ⟨h3, p.now q2 ok .bl⟩

/-! ### in, is None -/
def eqF (x y : D) : Bool := eqV (toV x) (toV y)
def inD (x : D) (xs : List D) : Bool := xs.any fun y => eqF y x
theorem inV_of {K : PySem.W.Frag} {G : Hp} {v : V} {x : D} (h : v = toV x) : ∀ {vs : List V} {xs : List D}, Reps K G vs xs → xs.all flatD = true → inV v vs = inD x xs ∧ vs.all flatV = true
  | _, _, .nil, _ => ⟨rfl, rfl⟩
  | _, _, .cons r rs, f => by
    simp only [List.all_cons, Bool.and_eq_true] at f
    obtain ⟨e1, e2⟩ := r.flat f.1
    obtain ⟨e3, e4⟩ := inV_of h rs f.2
    refine ⟨?_, by simp only [List.all_cons, e2, e4, Bool.and_self]⟩
    unfold inV inD at *
    simp only [List.any_cons]
    rw [e3]
    unfold eqF
    rw [e1, h]
/-- in a text: one sign; in a list or tuple: flat data -/
def dIn (neg : Bool) : D2
  | .str x, .str z, M, k, _ => ∃ c : Nat, x = ⟨#[c]⟩ ∧ k (.bl (if neg then !decide (c ∈ z.cps.toList) else decide (c ∈ z.cps.toList))) M
  | x, .lst xs, M, k, _ => flatD x = true ∧ xs.all flatD = true ∧ k (.bl (if neg then !inD x xs else inD x xs)) M
  | x, .tup xs, M, k, _ => flatD x = true ∧ xs.all flatD = true ∧ k (.bl (if neg then !inD x xs else inD x xs)) M
  | _, _, _, _, _ => False
theorem o_in : OpR X (compareOp .In) (r2 X.K E (dIn false)) := by
  intro pins s σ H x y u v Q I rx ry h
  obtain ⟨s0, dx, dy, k, xx, rfl, ok, hx, hy, q, p, px⟩ := h
  unfold dIn at q
  split at q
  · obtain ⟨c, rfl, q⟩ := q
    cases hx; cases hy
    exact op_in_sign pins s σ _ _ _ u v Q I rx ry ⟨c, _, rfl, rfl, p.now q ok .bl⟩
  · obtain ⟨l, vs, rfl, hl, r1⟩ := hy.lst_of
    obtain ⟨e1, e2⟩ := hx.flat q.1
    obtain ⟨e3, e4⟩ := inV_of e1 r1 q.2.1
    refine op_in_seq pins s σ _ _ _ u v Q I rx ry ⟨l, vs, rfl, .inl (SqL.of (ok.sub _ _ hl)), e2, e4, ?_⟩
    rw [e3]
    exact p.now q.2.2 ok .bl
  · obtain ⟨l, vs, rfl, hl, r1⟩ := hy.tup_of
    obtain ⟨e1, e2⟩ := hx.flat q.1
    obtain ⟨e3, e4⟩ := inV_of e1 r1 q.2.1
    refine op_in_seq pins s σ _ _ _ u v Q I rx ry ⟨l, vs, rfl, .inr ((Same.seqT ok.sub hl)), e2, e4, ?_⟩
    rw [e3]
    exact p.now q.2.2 ok .bl
  · exact q.elim
theorem o_notIn : OpR X (compareOp .NotIn) (r2 X.K E (dIn true)) := by
  intro pins s σ H x y u v Q I rx ry h
  obtain ⟨s0, dx, dy, k, xx, rfl, ok, hx, hy, q, p, px⟩ := h
  unfold dIn at q
  split at q
  · obtain ⟨c, rfl, q⟩ := q
    cases hx; cases hy
    exact op_notIn_sign pins s σ _ _ _ u v Q I rx ry ⟨c, _, rfl, rfl, p.now q ok .bl⟩
  · obtain ⟨l, vs, rfl, hl, r1⟩ := hy.lst_of
    obtain ⟨e1, e2⟩ := hx.flat q.1
    obtain ⟨e3, e4⟩ := inV_of e1 r1 q.2.1
    refine op_notIn_seq pins s σ _ _ _ u v Q I rx ry ⟨l, vs, rfl, .inl (SqL.of (ok.sub _ _ hl)), e2, e4, ?_⟩
    rw [e3]
    exact p.now q.2.2 ok .bl
  · obtain ⟨l, vs, rfl, hl, r1⟩ := hy.tup_of
    obtain ⟨e1, e2⟩ := hx.flat q.1
    obtain ⟨e3, e4⟩ := inV_of e1 r1 q.2.1
    refine op_notIn_seq pins s σ _ _ _ u v Q I rx ry ⟨l, vs, rfl, .inr ((Same.seqT ok.sub hl)), e2, e4, ?_⟩
    rw [e3]
    exact p.now q.2.2 ok .bl
  · exact q.elim
def isNon : D → Bool
  | .non => true
  | _ => false
theorem Rep.isNon {K : PySem.W.Frag} {G : Hp} {v : V} {d : D} (h : Rep K G v d) : decide (v = .non) = DL.isNon d := by
  cases h <;> first | rfl | exact decide_eq_false (fun z => nomatch z)
def dIsN (neg : Bool) : D2 := fun x y M k _ => y = .non ∧ k (.bl (if neg then !isNon x else isNon x)) M
theorem o_isN : OpR X (compareOp .Is) (r2 X.K E (dIsN false)) := by
  intro pins s σ H x y u v Q I rx ry h
  obtain ⟨s0, dx, dy, k, xx, rfl, ok, hx, hy, ⟨rfl, q⟩, p, px⟩ := h
  refine op_isN pins s σ _ _ _ u v Q I rx ry ⟨hy.non_of, ?_⟩
  rw [hx.isNon]
  exact p.now q ok .bl
theorem o_isNotN : OpR X (compareOp .IsNot) (r2 X.K E (dIsN true)) := by
  intro pins s σ H x y u v Q I rx ry h
  obtain ⟨s0, dx, dy, k, xx, rfl, ok, hx, hy, ⟨rfl, q⟩, p, px⟩ := h
  refine op_notN pins s σ _ _ _ u v Q I rx ry ⟨hy.non_of, ?_⟩
  rw [hx.isNon]
  exact p.now q ok .bl

/-! ### items, slices, stores -/
theorem atI_reps {K : PySem.W.Frag} {G : Hp} {vs : List V} {ds : List D} {i : Int} {d : D} (r : Reps K G vs ds) (h : atI ds i = some d) : ∃ v, atI vs i = some v ∧ Rep K G v d := by
  unfold atI at h ⊢
  rw [r.length]
  cases e : ixN ds.length i with
  | none => rw [e] at h; cases h
  | some j =>
    rw [e] at h
    exact r.get h
def dIx : D2
  | .lst ds, .int i, M, k, _ => ∃ d, atI ds i = some d ∧ k d M
  | .tup ds, .int i, M, k, _ => ∃ d, atI ds i = some d ∧ k d M
  | .str z, .int i, M, k, _ => z.length ≤ sizeLine ∧ ∃ c, atI z.cps.toList i = some c ∧ k (.str ⟨#[c]⟩) M
  | .cel a, .int i, M, k, _ => ∃ ds, M a = some (.lst ds) ∧ ∃ d, atI ds i = some d ∧ k d M
  | _, _, _, _, _ => False
theorem x_ix : IxR X (r2 X.K E dIx) := by
  intro value slice pins s σ H x y u v Q I rx ry h hsub
  obtain ⟨s0, dx, dy, k, xx, rfl, ok, hx, hy, q, p, px⟩ := h
  unfold dIx at q
  split at q
  · cases hy
    obtain ⟨l, vs, rfl, hl, r1⟩ := hx.lst_of
    obtain ⟨d, hd, q⟩ := q
    obtain ⟨w, hw, rw'⟩ := atI_reps r1 hd
    exact ix_list value slice pins s σ _ _ _ u v Q I rx ry ⟨l, vs, _, w, rfl, rfl, SqL.of (ok.sub _ _ hl), hw, p.now q ok rw'⟩ hsub
  · cases hy
    obtain ⟨l, vs, rfl, hl, r1⟩ := hx.tup_of
    obtain ⟨d, hd, q⟩ := q
    obtain ⟨w, hw, rw'⟩ := atI_reps r1 hd
    exact ix_tup value slice pins s σ _ _ _ u v Q I rx ry ⟨l, vs, _, w, rfl, rfl, (Same.seqT ok.sub hl), hw, p.now q ok rw'⟩ hsub
  · cases hy; cases hx
    obtain ⟨hz, c, hc, q⟩ := q
    exact ix_str value slice pins s σ _ _ _ u v Q I rx ry ⟨_, _, c, rfl, rfl, hz, hc, p.now q ok .str⟩ hsub
  · cases hy; cases hx
    obtain ⟨ds, hm, d, hd, q⟩ := q
    obtain ⟨vs, e, r1⟩ := ok.cells _ _ hm
    obtain ⟨w, hw, rw'⟩ := atI_reps r1 hd
    exact ix_list value slice pins s σ _ _ _ u v Q I rx ry ⟨_, vs, _, w, rfl, rfl, SqL.of e, hw, p.now q ok rw'⟩ hsub
  · exact q.elim
theorem d_ix {f : D2} (hr : IxR X (r2 X.K E f)) (ha : DP X E a τa) (hb : DP X E b τb) (hs : PlainIx b) : DP X E (.Subscript a b pos) (dOp f τa τb) := pe_mono (pe_ix hr ha hb hs) fun _ _ _ h => up_op h
abbrev DO := DEnv → Mm → (Option Int → Mm → Prop) → DX → Prop
def upO (K : PySem.W.Frag) (E : XK) (τ : DO) : TO := fun σ H Q => ∃ ρ s k x, s.H = H ∧ ER K s σ ρ ∧ τ ρ s.M k x ∧ (∀ o (t : Sta), k o t.M → Step s t → Ok K t → Q o t.H) ∧ PostX K E s x
def DPO (X : Cx) (E : XK) (e : Option Expr) (τ : DO) : Prop := PO X e (upO X.K E τ)
theorem po_mono {e : Option Expr} {t t' : TO} (h : PO X e t) (m : ∀ σ H Q, t' σ H Q → t σ H Q) : PO X e t' := ⟨fun pins s σ H Q I q => h.run pins s σ H Q I (m σ H Q q)⟩
def dNoPart : DO := fun _ M k _ => k none M
def dPart (τ : DE) : DO := fun ρ M k x => τ ρ M (fun u M1 => ∃ i, u = .int i ∧ k (some i) M1) x
theorem o_none : DPO X E none dNoPart := po_mono po_none fun σ H Q h => by
  obtain ⟨ρ, s, k, x, rfl, er, q, p, px⟩ := h
  exact p none s q (Step.refl s) er.ok
theorem o_some (h : DP X E e τa) : DPO X E (some e) (dPart τa) := po_mono (po_some h) fun σ H Q h => by
  obtain ⟨ρ, s, k, x, rfl, er, q, p, px⟩ := h
  refine ⟨ρ, s, _, x, rfl, er, q, fun u s1 q1 st1 ok1 v1 r1 => ?_, px⟩
  obtain ⟨i, rfl, q1⟩ := q1
  exact ⟨i, r1.int_of, p _ s1 q1 st1 ok1⟩
abbrev DSl := D → Option Int → Option Int → Mm → DK → Prop
def rSlD (K : PySem.W.Frag) (E : XK) (f : DSl) : V → Option Int → Option Int → Hp → VK → Prop := fun x lo hi H Q => ∃ s dx k, s.H = H ∧ Ok K s ∧ Rep K s.G x dx ∧ f dx lo hi s.M k ∧ Post K s k Q
def dSl (f : DSl) (τ : DE) (τl τh : DO) : DE := fun ρ M k x => τ ρ M (fun u M1 => τl ρ M1 (fun lo M2 => τh ρ M2 (fun hi M3 => f u lo hi M3 k) x) x) x
theorem d_slice {f : DSl} {τl τh : DO} {lo hi : Option Expr} {p2 : Pos} (hr : SlR X (rSlD X.K E f)) (he : DP X E e τa) (hl : DPO X E lo τl) (hu : DPO X E hi τh) : DP X E (.Subscript e (.Slice lo hi none p2) pos) (dSl f τa τl τh) := pe_mono (pe_slice hr he hl hu) fun σ H Q h => by
  obtain ⟨ρ, s, k, x, rfl, er, q, p, px⟩ := h
  refine ⟨ρ, s, _, x, rfl, er, q, fun u s1 q1 st1 ok1 v1 r1 => ?_, px⟩
  refine ⟨ρ, s1, _, x, rfl, er.step st1 ok1, q1, fun lo s2 q2 st2 ok2 => ?_, px.step st1⟩
  refine ⟨ρ, s2, _, x, rfl, er.step (st1.trans st2) ok2, q2, fun hi s3 q3 st3 ok3 => ?_, px.step (st1.trans st2)⟩
  exact ⟨s3, u, k, rfl, ok3, r1.same (st2.trans st3).same, q3, p.step ((st1.trans st2).trans st3)⟩
def cutD {α : Type} (xs : List α) (lo hi : Option Int) : List α := (xs.drop (HT.sIx xs.length 0 lo)).take (HT.sIx xs.length xs.length hi - HT.sIx xs.length 0 lo)
theorem cut_reps {K : PySem.W.Frag} {G : Hp} {vs : List V} {ds : List D} (r : Reps K G vs ds) (lo hi : Option Int) : Reps K G (cutV vs lo hi) (cutD ds lo hi) := by
  unfold cutV cutD
  rw [r.length]
  exact (r.drop _).take _
def dCut : DSl
  | .lst ds, lo, hi, M, k => k (.lst (cutD ds lo hi)) M
  | .tup ds, lo, hi, M, k => k (.tup (cutD ds lo hi)) M
  | .str z, lo, hi, M, k => z.length ≤ sizeLine ∧ k (.str (cutS z lo hi)) M
  | .scr ns, lo, hi, M, k => k (.lst ((cutD ns lo hi).map .int)) M
  | _, _, _, _, _ => False
theorem cutD_map {α β : Type} (f : α → β) (xs : List α) (lo hi : Option Int) : cutD (xs.map f) lo hi = (cutD xs lo hi).map f := by
  unfold cutD
  rw [List.length_map, List.map_take, List.map_drop]
theorem cutV_map {α : Type} (f : α → V) (xs : List α) (lo hi : Option Int) : cutV (xs.map f) lo hi = (cutD xs lo hi).map f := by
  unfold cutV cutD
  rw [List.length_map, List.map_take, List.map_drop]
theorem cutD_whole {α : Type} {xs : List α} {lo hi : Option Int} (h : HT.sIx xs.length 0 lo = 0 ∧ HT.sIx xs.length xs.length hi = xs.length) : cutD xs lo hi = xs := by
  unfold cutD
  rw [h.1, h.2]
  simp
theorem sl_D : SlR X (rSlD X.K E dCut) := by
  intro pins s σ H x v vl vu lo hi sl Q I rx hs pl pu h
  obtain ⟨s0, dx, k, rfl, ok, hx, q, p⟩ := h
  unfold dCut at q
  split at q
  · obtain ⟨l, vs, rfl, hl, r1⟩ := hx.lst_of
    exact sl_list pins s σ _ _ v vl vu _ _ sl Q I rx hs pl pu ⟨l, vs, rfl, SqL.of (ok.sub _ _ hl), fun t ht => p.lst q ok (cut_reps r1 _ _) ht⟩
  · obtain ⟨l, vs, rfl, hl, r1⟩ := hx.tup_of
    refine sl_tupA pins s σ _ _ v vl vu _ _ sl Q I rx hs pl pu ⟨l, vs, rfl, (Same.seqT ok.sub hl), fun hw => ?_, fun _ t ht => p.tup q ok (cut_reps r1 _ _) ht⟩
    rw [r1.length] at hw
    rw [cutD_whole hw] at q
    exact p.now q ok (.tup hl r1)
  · cases hx
    exact sl_str pins s σ _ _ v vl vu _ _ sl Q I rx hs pl pu ⟨_, rfl, q.1, p.now q.2 ok .str⟩
  · cases hx with
    | scr hl =>
      refine sl_list pins s σ _ _ v vl vu _ _ sl Q I rx hs pl pu ⟨_, _, rfl, Same.seqL ok.sub hl, fun t ht => ?_⟩
      rw [cutV_map]
      exact p.lst q ok (Reps.ints _) ht
  · exact q.elim
/-- o[i] = v of a changing list -/
def dSetIx (τo τi τv : DE) : DS := fun k x ρ M => τv ρ M (fun v M1 => τo ρ M1 (fun o M2 => τi ρ M2 (fun i M3 => ∃ a ds n j, o = .cel a ∧ i = .int n ∧ M3 a = some (.lst ds) ∧ ixN ds.length n = some j ∧ k.nx ρ (mup M3 a (.lst (ds.set j v)))) x) x) x
theorem s_setIx {o i v : Expr} {τo τi τv : DE} {pos' : Pos} (hv : DP X E v τv) (ho : DP X E o τo) (hi : DP X E i τi) (hs : swapsWithSole [.Subscript o i pos'] v pos.line X.env = pure false := by rfl) (hw : swappedStores [.Subscript o i pos'] v X.env = pure none := by rfl)
    (h1 : (assignEach [.Subscript o i pos'] X.env).map (·.2) = [assign (.Subscript o i pos') X.env] := by rfl)
    (hasg : ∀ v, assign (.Subscript o i pos') X.env v = (do
      let ov ← holding [v] (eval o X.env)
      let iv ← holding [v, ov] (eval i X.env)
      standAt pos'
      holding [v, ov, iv] (setItem ov iv v)
      release [v, ov, iv] []) := by intro _; rfl) :
    DPS X E (.Assign [.Subscript o i pos'] v pos) (dSetIx τo τi τv) := ps_mono (ps_asg hv (pg_sub ho hi set_list hasg) hs hw h1) fun D σ H h => by
  obtain ⟨ρ, s, k, x, rfl, er, q, p, px⟩ := h
  refine ⟨ρ, s, _, x, rfl, er, q, fun u s1 q1 st1 ok1 v1 r1 => ?_, px⟩
  refine ⟨ρ, s1, _, x, rfl, er.step st1 ok1, q1, fun w s2 q2 st2 ok2 v2 r2 => ?_, px.step st1⟩
  refine ⟨ρ, s2, _, x, rfl, er.step (st1.trans st2) ok2, q2, fun z s3 q3 st3 ok3 v3 r3 => ?_, px.step (st1.trans st2)⟩
  obtain ⟨a, ds, n, j, rfl, rfl, hm, hj, q3⟩ := q3
  obtain ⟨vs, e, rs⟩ := ok3.cells _ _ hm
  have st : Step s s3 := (st1.trans st2).trans st3
  obtain ⟨k4, st4⟩ := ok3.put (p := a) (o := .lst (vs.set j v1)) (mo := .lst (ds.set j u)) (by rw [hm]; rfl) ⟨_, rfl, Reps.set (r1.same (st2.trans st3).same) j rs⟩
  exact ⟨a, vs, n, j, r2.cel_of, r3.int_of, e, by rw [rs.length]; exact hj, p.nx ρ ⟨_, _, _⟩ q3 (st.trans st4) σ (er.step (st.trans st4) k4)⟩

/-! ### built-ins -/
def dLen : DN
  | [.str z], M, k, _ => z.length ≤ sizeLine ∧ k (.int z.length) M
  | [.lst ds], M, k, _ => k (.int ds.length) M
  | [.tup ds], M, k, _ => k (.int ds.length) M
  | [.scr ns], M, k, _ => k (.int ns.length) M
  | [.cel a], M, k, _ => ∃ ds, M a = some (.lst ds) ∧ k (.int ds.length) M
  | _, _, _, _ => False
theorem c_len : CallR X (.builtin "len") (rA X.K E dLen) := by
  intro pins s σ H xs us Q I r h
  obtain ⟨s0, ds, k, xx, rfl, ok, hx, q, p, px⟩ := h
  unfold dLen at q
  split at q
  · obtain ⟨v, rfl, rv⟩ := hx.one
    cases rv
    exact call_len pins s σ _ _ us Q I r ⟨_, _, rfl, ⟨q.1, rfl⟩, p.now q.2 ok .int⟩
  · obtain ⟨v, rfl, rv⟩ := hx.one
    obtain ⟨l, vs, rfl, hl, r1⟩ := rv.lst_of
    refine call_len pins s σ _ _ us Q I r ⟨_, vs.length, rfl, .inl ⟨vs, SqL.of (ok.sub _ _ hl), rfl⟩, ?_⟩
    rw [r1.length]
    exact p.now q ok .int
  · obtain ⟨v, rfl, rv⟩ := hx.one
    obtain ⟨l, vs, rfl, hl, r1⟩ := rv.tup_of
    refine call_len pins s σ _ _ us Q I r ⟨_, vs.length, rfl, .inr ⟨vs, (Same.seqT ok.sub hl), rfl⟩, ?_⟩
    rw [r1.length]
    exact p.now q ok .int
  · obtain ⟨v, rfl, rv⟩ := hx.one
    cases rv with
    | scr hl =>
      refine call_len pins s σ _ _ us Q I r ⟨_, _, rfl, .inl ⟨_, Same.seqL ok.sub hl, rfl⟩, ?_⟩
      rw [List.length_map]
      exact p.now q ok .int
  · obtain ⟨v, rfl, rv⟩ := hx.one
    cases rv
    obtain ⟨ds, hm, q⟩ := q
    obtain ⟨vs, e, r1⟩ := ok.cells _ _ hm
    refine call_len pins s σ _ _ us Q I r ⟨_, vs.length, rfl, .inl ⟨vs, SqL.of e, rfl⟩, ?_⟩
    rw [r1.length]
    exact p.now q ok .int
  · exact q.elim
def dAbs : DN
  | [.int i], M, k, _ => k (.int (if i < 0 then -i else i)) M
  | _, _, _, _ => False
theorem c_abs : CallR X (.builtin "abs") (rA X.K E dAbs) := by
  intro pins s σ H xs us Q I r h
  obtain ⟨s0, ds, k, xx, rfl, ok, hx, q, p, px⟩ := h
  unfold dAbs at q
  split at q
  · obtain ⟨v, rfl, rv⟩ := hx.one
    cases rv
    exact call_abs pins s σ _ _ us Q I r ⟨_, rfl, p.now q ok .int⟩
  · exact q.elim
def dMin2 : DN
  | [.int i, .int j], M, k, _ => k (.int (if j < i then j else i)) M
  | _, _, _, _ => False
theorem c_min2 (hc : X.calm = true) : CallR X (.builtin "min") (rA X.K E dMin2) := by
  intro pins s σ H xs us Q I r h
  obtain ⟨s0, ds, k, xx, rfl, ok, hx, q, p, px⟩ := h
  unfold dMin2 at q
  split at q
  · obtain ⟨v, w, rfl, rv, rw'⟩ := hx.two
    cases rv; cases rw'
    exact call_min2 hc pins s σ _ _ us Q I r ⟨_, _, rfl, p.now q ok .int⟩
  · exact q.elim
def dInt : DN
  | [.int i], M, k, _ => k (.int i) M
  | [.bl b], M, k, _ => k (.int (if b then 1 else 0)) M
  | _, _, _, _ => False
theorem c_int : CallR X (.type "int") (rA X.K E dInt) := by
  intro pins s σ H xs us Q I r h
  obtain ⟨s0, ds, k, xx, rfl, ok, hx, q, p, px⟩ := h
  unfold dInt at q
  split at q
  · obtain ⟨v, rfl, rv⟩ := hx.one
    cases rv
    exact call_int1 pins s σ _ _ us Q I r (.inl ⟨_, rfl, p.now q ok .int⟩)
  · obtain ⟨v, rfl, rv⟩ := hx.one
    cases rv
    exact call_int1 pins s σ _ _ us Q I r (.inr ⟨_, rfl, p.now q ok .int⟩)
  · exact q.elim
def dStrI : DN
  | [.int i], M, k, _ => i.natAbs.log2 < 1920 ∧ k (.str (toString i)) M
  | _, _, _, _ => False
theorem c_str : CallR X (.type "str") (rA X.K E dStrI) := by
  intro pins s σ H xs us Q I r h
  obtain ⟨s0, ds, k, xx, rfl, ok, hx, q, p, px⟩ := h
  unfold dStrI at q
  split at q
  · obtain ⟨v, rfl, rv⟩ := hx.one
    cases rv
    exact call_str_int pins s σ _ _ us Q I r ⟨_, rfl, q.1, p.now q.2 ok .str⟩
  · exact q.elim
theorem Reps.bls {K : PySem.W.Frag} {G : Hp} : ∀ {bs : List Bool} {vs : List V}, Reps K G vs (bs.map D.bl) → vs = bs.map V.bl
  | [], _, h => by cases h; rfl
  | b :: bs, _, h => by
    cases h with
    | cons h1 h2 =>
      cases h1
      rw [Reps.bls h2]
      rfl
theorem Reps.strs {K : PySem.W.Frag} {G : Hp} : ∀ {bs : List Str} {vs : List V}, Reps K G vs (bs.map D.str) → vs = bs.map V.str
  | [], _, h => by cases h; rfl
  | b :: bs, _, h => by
    cases h with
    | cons h1 h2 =>
      cases h1
      rw [Reps.strs h2]
      rfl
/-- all, any of a list of bools -/
def dAll : DN := fun ds M k _ => ∃ bs : List Bool, ds = [.lst (bs.map .bl)] ∧ k (.bl (bs.all id)) M
def dAny : DN := fun ds M k _ => ∃ bs : List Bool, ds = [.lst (bs.map .bl)] ∧ k (.bl (bs.any id)) M
theorem c_all (hc : X.calm = true) : CallR X (.builtin "all") (rA X.K E dAll) := by
  intro pins s σ H xs us Q I r h
  obtain ⟨s0, ds, k, xx, rfl, ok, hx, ⟨bs, rfl, q⟩, p, px⟩ := h
  obtain ⟨v, rfl, rv⟩ := hx.one
  obtain ⟨l, vs, rfl, hl, r1⟩ := rv.lst_of
  have e := Reps.bls r1
  subst e
  exact cr_all hc pins s σ _ _ us Q I r ⟨l, bs, rfl, SqL.of (ok.sub _ _ hl), p.now q ok .bl⟩
theorem c_any (hc : X.calm = true) : CallR X (.builtin "any") (rA X.K E dAny) := by
  intro pins s σ H xs us Q I r h
  obtain ⟨s0, ds, k, xx, rfl, ok, hx, ⟨bs, rfl, q⟩, p, px⟩ := h
  obtain ⟨v, rfl, rv⟩ := hx.one
  obtain ⟨l, vs, rfl, hl, r1⟩ := rv.lst_of
  have e := Reps.bls r1
  subst e
  exact cr_any hc pins s σ _ _ us Q I r ⟨l, bs, rfl, SqL.of (ok.sub _ _ hl), p.now q ok .bl⟩
/-- list(x) of a list or a tuple -/
def dList : DN
  | [.lst ds], M, k, _ => k (.lst ds) M
  | [.tup ds], M, k, _ => k (.lst ds) M
  | _, _, _, _ => False
theorem c_list : CallR X (.type "list") (rA X.K E dList) := by
  intro pins s σ H xs us Q I r h
  obtain ⟨s0, ds, k, xx, rfl, ok, hx, q, p, px⟩ := h
  unfold dList at q
  split at q
  · obtain ⟨v, rfl, rv⟩ := hx.one
    obtain ⟨l, vs, rfl, hl, r1⟩ := rv.lst_of
    exact call_list_of pins s σ _ _ us Q I r ⟨l, vs, rfl, .inl (SqL.of (ok.sub _ _ hl)), fun t ht => p.lst q ok r1 ht⟩
  · obtain ⟨v, rfl, rv⟩ := hx.one
    obtain ⟨l, vs, rfl, hl, r1⟩ := rv.tup_of
    exact call_list_of pins s σ _ _ us Q I r ⟨l, vs, rfl, .inr ((Same.seqT ok.sub hl)), fun t ht => p.lst q ok r1 ht⟩
  · exact q.elim
/-- tuple(x) -/
def dTuple : DN
  | [.lst ds], M, k, _ => k (.tup ds) M
  | [.tup ds], M, k, _ => k (.tup ds) M
  | _, _, _, _ => False
theorem c_tuple : CallR X (.type "tuple") (rA X.K E dTuple) := by
  intro pins s σ H xs us Q I r h
  obtain ⟨s0, ds, k, xx, rfl, ok, hx, q, p, px⟩ := h
  unfold dTuple at q
  split at q
  · obtain ⟨v, rfl, rv⟩ := hx.one
    obtain ⟨l, vs, rfl, hl, r1⟩ := rv.lst_of
    exact call_tuple_of pins s σ _ _ us Q I r ⟨l, vs, rfl, .inl ⟨SqL.of (ok.sub _ _ hl), fun t ht => p.tup q ok r1 ht⟩⟩
  · obtain ⟨v, rfl, rv⟩ := hx.one
    obtain ⟨l, vs, rfl, hl, r1⟩ := rv.tup_of
    exact call_tuple_of pins s σ _ _ us Q I r ⟨l, vs, rfl, .inr ⟨(Same.seqT ok.sub hl), p.now q ok (.tup hl r1)⟩⟩
  · exact q.elim

/-! ### methods of built-in types -/
def dBM (f : D → List D → Mm → DK → DX → Prop) (τ : DE) (α : DA) : DE := fun ρ M k x => τ ρ M (fun u M1 => α ρ M1 (fun ds M2 => f u ds M2 k x) x) x
def rM (K : PySem.W.Frag) (E : XK) (f : D → List D → Mm → DK → DX → Prop) : V → List V → Hp → VK → Prop := fun x xs H Q => ∃ s dx ds k xx, s.H = H ∧ Ok K s ∧ Rep K s.G x dx ∧ Reps K s.G xs ds ∧ f dx ds s.M k xx ∧ Post K s k Q ∧ PostX K E s xx
/-- the receiver is of the type T: told by a test of the datum -/
def tyD (T : String) : D → Mm → Prop
  | .str _, _ => T = "str"
  | .int _, _ => T = "int"
  | .lst _, _ => T = "list"
  | .cel a, M => T = "list" ∧ ∃ ds, M a = some (.lst ds)
  | _, _ => False
theorem tyV_of {K : PySem.W.Frag} {s : Sta} {T : String} {v : V} {d : D} (ok : Ok K s) (r : Rep K s.G v d) (h : tyD T d s.M) : tyV K T v s.H := by
  cases r with
  | str => exact h
  | int => exact h
  | lst hl r => exact .inl ⟨h, _, SqL.of (ok.sub _ _ hl)⟩
  | cel =>
    obtain ⟨h1, ds, h2⟩ := h
    obtain ⟨vs, e, r1⟩ := ok.cells _ _ h2
    exact .inl ⟨h1, _, SqL.of e⟩
  | _ => exact h.elim
def dBMt (T : String) (f : D → List D → Mm → DK → DX → Prop) (τ : DE) (α : DA) : DE := fun ρ M k x => τ ρ M (fun u M1 => tyD T u M1 ∧ α ρ M1 (fun ds M2 => f u ds M2 k x) x) x
theorem d_bm {T id : String} {name : Str} {apos cpos : Pos} {o : Expr} {τo : DE} {f : D → List D → Mm → DK → DX → Prop} (pa : PlainAttrs T) (slot : Slot T name id) (hty : typeOf (.builtin id) = pure (.type "method_descriptor")) (hm : MtR X id (rM X.K E f)) (ho : DP X E o τo) (ha : DPA X E (e :: es) αa)
    (hbase : attributeBase o name X.env (eval o X.env) = eval o X.env := by rfl)
    (hfew : ((backTo cpos (starEach (e :: es) X.env)).all (fun x => !x.1) && (backToKw cpos (keywordEach [] X.env)).all (fun x => x.1.isSome)
      && decide ((e :: es).length + ([] : List Keyword).length + (if ([] : List Keyword).isEmpty then 0 else 1) < 30)) = true := by rfl)
    (hline : (apos.endLine == cpos.line) = true := by rfl) (hs : starEach (e :: es) X.env = (false, eval e X.env) :: starEach es X.env := by rfl) (hplain : (backTo cpos (starEach es X.env)).any (·.1) = false := by rfl) :
    DP X E (.Call (.Attribute o name apos) (e :: es) [] cpos) (dBMt T f τo αa) := pe_mono (pe_bm pa slot hty hm ho ha hbase hfew hline hs hplain) fun σ H Q h => by
  obtain ⟨ρ, s, k, x, rfl, er, q, p, px⟩ := h
  refine ⟨ρ, s, _, x, rfl, er, q, fun u s1 q1 st1 ok1 v1 r1 => ⟨tyV_of ok1 r1 q1.1, ?_⟩, px⟩
  refine ⟨ρ, s1, _, x, rfl, er.step st1 ok1, q1.2, fun us s2 q2 st2 ok2 vs r2 => ?_, px.step st1⟩
  exact ⟨s2, u, us, k, x, rfl, ok2, r1.same st2.same, r2, q2, p.step (st1.trans st2), px.step (st1.trans st2)⟩
/-- xs.append(y) of a changing list -/
def dAppend : D → List D → Mm → DK → DX → Prop
  | .cel a, [y], M, k, _ => ∃ ds, M a = some (.lst ds) ∧ ds.length < sizeLine ∧ k .non (mup M a (.lst (ds ++ [y])))
  | _, _, _, _, _ => False
theorem m_append : MtR X "list.append" (rM X.K E dAppend) := by
  intro pins s σ H x xs v us Q I rx rs h
  obtain ⟨s0, dx, ds, k, xx, rfl, ok, hx, hxs, q, p, px⟩ := h
  unfold dAppend at q
  split at q
  · cases hx
    obtain ⟨ds, hm, hz, q⟩ := q
    obtain ⟨y, rfl, ry⟩ := hxs.one
    obtain ⟨vs, e, r1⟩ := ok.cells _ _ hm
    obtain ⟨k4, st4⟩ := ok.put (o := .lst (vs ++ [y])) (mo := .lst (ds ++ [_])) (by rw [hm]; rfl) ⟨_, rfl, r1.append (.cons ry .nil)⟩
    exact mt_append pins s σ _ _ _ v us Q I rx rs ⟨_, vs, y, rfl, rfl, e, by rw [r1.length]; exact hz, p _ ⟨_, _, _⟩ q st4 k4 _ .non⟩
  · exact q.elim
/-- xs.insert(i, y) -/
def dInsert : D → List D → Mm → DK → DX → Prop
  | .cel a, [.int i, y], M, k, _ => ∃ ds, M a = some (.lst ds) ∧ ds.length < sizeLine ∧ 0 ≤ i ∧ i < 2 ^ 63 ∧ k .non (mup M a (.lst (ds.take i.toNat ++ [y] ++ ds.drop i.toNat)))
  | _, _, _, _, _ => False
theorem m_insert : MtR X "list.insert" (rM X.K E dInsert) := by
  intro pins s σ H x xs v us Q I rx rs h
  obtain ⟨s0, dx, ds, k, xx, rfl, ok, hx, hxs, q, p, px⟩ := h
  unfold dInsert at q
  split at q
  · cases hx
    obtain ⟨ds, hm, hz, h0, h1, q⟩ := q
    obtain ⟨iv, y, rfl, ri, ry⟩ := hxs.two
    cases ri
    obtain ⟨vs, e, r1⟩ := ok.cells _ _ hm
    obtain ⟨k4, st4⟩ := ok.put (o := .lst (vs.take _ ++ [y] ++ vs.drop _)) (mo := .lst (ds.take _ ++ [_] ++ ds.drop _)) (by rw [hm]; rfl) ⟨_, rfl, ((r1.take _).append (.cons ry .nil)).append (r1.drop _)⟩
    exact mt_insert pins s σ _ _ _ v us Q I rx rs ⟨_, vs, _, y, rfl, rfl, e, by rw [r1.length]; exact hz, h0, h1, p _ ⟨_, _, _⟩ q st4 k4 _ .non⟩
  · exact q.elim
/-- xs.index(y), flat, the first place -/
def firstIx (y : D) : List D → Option Nat
  | [] => none
  | x :: xs => if eqF x y = true then some 0 else (firstIx y xs).map (· + 1)
theorem firstIx_spec {y : D} : ∀ {xs : List D} {j : Nat}, firstIx y xs = some j → (∃ z, xs[j]? = some z ∧ eqF z y = true) ∧ ∀ (m : Nat) z, m < j → xs[m]? = some z → eqF z y = false
  | [], _, h => by cases h
  | x :: xs, j, h => by
    unfold firstIx at h
    split at h
    · rename_i hx
      cases h
      exact ⟨⟨x, rfl, hx⟩, fun m z hm => by omega⟩
    · rename_i hx
      cases e : firstIx y xs with
      | none => rw [e] at h; cases h
      | some i =>
        rw [e] at h
        have hj : j = i + 1 := (Option.some.inj h).symm
        subst hj
        obtain ⟨⟨z, h1, h2⟩, h3⟩ := firstIx_spec e
        refine ⟨⟨z, by simpa using h1, h2⟩, fun m z hm hz => ?_⟩
        cases m with
        | zero =>
          have : x = z := by simpa using hz
          subst this
          simpa using hx
        | succ m => exact h3 m z (by omega) (by simpa using hz)
def dIndex : D → List D → Mm → DK → DX → Prop
  | .lst ds, [y], M, k, _ => flatD y = true ∧ ds.all flatD = true ∧ ∃ j : Nat, firstIx y ds = some j ∧ k (.int j) M
  | _, _, _, _, _ => False
theorem m_index : MtR X "list.index" (rM X.K E dIndex) := by
  intro pins s σ H x xs v us Q I rx rs h
  obtain ⟨s0, dx, ds, k, xx, rfl, ok, hx, hxs, q, p, px⟩ := h
  unfold dIndex at q
  split at q
  · obtain ⟨l, vs, rfl, hl, r1⟩ := hx.lst_of
    obtain ⟨fy, fd, j, hj, q⟩ := q
    obtain ⟨y, rfl, ry⟩ := hxs.one
    obtain ⟨e1, e2⟩ := ry.flat fy
    obtain ⟨_, e4⟩ := inV_of (x := _) e1 r1 fd
    obtain ⟨⟨z, h1, h2⟩, h3⟩ := firstIx_spec hj
    obtain ⟨zv, h4, rz⟩ := r1.get h1
    have fz : flatD z = true := List.all_eq_true.mp fd z (List.mem_of_getElem? h1)
    obtain ⟨e5, e6⟩ := rz.flat fz
    refine mt_index pins s σ _ _ _ v us Q I rx rs ⟨l, vs, y, j, zv, rfl, rfl, SqL.of (ok.sub _ _ hl), e2, e4, h4, ?_, fun m z' hm hz' => ?_, p.now q ok .int⟩
    · rw [e5, e1]; exact h2
    · obtain ⟨d', g1, g2⟩ := r1.getV hz'
      have fz' : flatD d' = true := List.all_eq_true.mp fd d' (List.mem_of_getElem? g1)
      obtain ⟨e7, _⟩ := g2.flat fz'
      rw [e7, e1]
      exact h3 m d' hm g1
  · exact q.elim
/-- sep.join(xs) -/
def dJoin : D → List D → Mm → DK → DX → Prop := fun x ds M k _ => ∃ (a : Str) (ys : List Str), x = .str a ∧ ds = [.lst (ys.map .str)] ∧ (ys.map (·.length)).sum + ys.length * a.length ≤ 16777216 ∧ k (.str (Txt.join a ys)) M
theorem m_join : MtR X "str.join" (rM X.K E dJoin) := by
  intro pins s σ H x xs v us Q I rx rs h
  obtain ⟨s0, dx, ds, k, xx, rfl, ok, hx, hxs, ⟨a, ys, rfl, rfl, hz, q⟩, p, px⟩ := h
  cases hx
  obtain ⟨y, rfl, ry⟩ := hxs.one
  obtain ⟨l, vs, rfl, hl, r1⟩ := ry.lst_of
  have e := Reps.strs r1
  subst e
  exact mt_join pins s σ _ _ _ v us Q I rx rs ⟨a, l, ys, rfl, rfl, .inl (SqL.of (ok.sub _ _ hl)), hz, p.now q ok .str⟩
end
end DL
set_option Elab.async false
set_option linter.all false
set_option maxRecDepth 100000
set_option maxHeartbeats 2000000
namespace DL
open PySem PySem.Spec PyProof.Rows L2

/-! ### kinds of data -/
inductive Kd where
  | non | bl | int | str | lst | tup
  deriving DecidableEq
def Kd.nm : Kd → String
  | .non => "NoneType" | .bl => "bool" | .int => "int" | .str => "str" | .lst => "list" | .tup => "tuple"
def isK (T u : Kd) : Bool := T == u || (T == .int && u == .bl)
theorem kit_K : ∀ (T u : Kd), T ≠ .non → kitB u.nm T.nm = some (isK T u)
  | .non, _, h => absurd rfl h
  | .bl, .non, _ => by decide +kernel
  | .bl, .bl, _ => by decide +kernel
  | .bl, .int, _ => by decide +kernel
  | .bl, .str, _ => by decide +kernel
  | .bl, .lst, _ => by decide +kernel
  | .bl, .tup, _ => by decide +kernel
  | .int, .non, _ => by decide +kernel
  | .int, .bl, _ => by decide +kernel
  | .int, .int, _ => by decide +kernel
  | .int, .str, _ => by decide +kernel
  | .int, .lst, _ => by decide +kernel
  | .int, .tup, _ => by decide +kernel
  | .str, .non, _ => by decide +kernel
  | .str, .bl, _ => by decide +kernel
  | .str, .int, _ => by decide +kernel
  | .str, .str, _ => by decide +kernel
  | .str, .lst, _ => by decide +kernel
  | .str, .tup, _ => by decide +kernel
  | .lst, .non, _ => by decide +kernel
  | .lst, .bl, _ => by decide +kernel
  | .lst, .int, _ => by decide +kernel
  | .lst, .str, _ => by decide +kernel
  | .lst, .lst, _ => by decide +kernel
  | .lst, .tup, _ => by decide +kernel
  | .tup, .non, _ => by decide +kernel
  | .tup, .bl, _ => by decide +kernel
  | .tup, .int, _ => by decide +kernel
  | .tup, .str, _ => by decide +kernel
  | .tup, .lst, _ => by decide +kernel
  | .tup, .tup, _ => by decide +kernel
/-- a kind, or an own class -/
def kdD : D → Mm → Option (Sum Kd Addr)
  | .non, _ => some (.inl .non)
  | .bl _, _ => some (.inl .bl)
  | .int _, _ => some (.inl .int)
  | .str _, _ => some (.inl .str)
  | .lst _, _ => some (.inl .lst)
  | .tup _, _ => some (.inl .tup)
  | .scr _, _ => none
  | .exc _ _ _, _ => none
  | .lam _ _ _ _ _, _ => none
  | .err _ _, _ => none
  | .dic _ _, _ => none
  | .obj C _, _ => some (.inr C)
  | .cel a, M => match M a with
    | some (.lst _) => some (.inl .lst)
    | some (.ins C _) => some (.inr C)
    | some (.tbl _) => none
    | some (.dic _ _ _) => none
    | none => none
/-- what a class must have for isinstance -/
structure ClsI (K : PySem.W.Frag) (C : Addr) : Prop where
  cl : Cls K C
  ha : PySem.W.findIn K (.ref C) "__class__" = some (some (.builtin "object.__class__"))
  hn : PySem.W.specialIn K (.builtin "object.__class__") "__get__" = some (some (.builtin "getset_descriptor.__get__"))
  htk : PySem.W.takesIn K (.builtin "object.__class__") = some true
  hm : PySem.W.mroIn K C (.type "object") = some true
theorem tyX_of {K : PySem.W.Frag} {s : Sta} {v : V} {d : D} (ok : Ok K s) (r : Rep K s.G v d) : (∀ u, kdD d s.M = some (.inl u) → TyX K s.H v (.type u.nm)) ∧ ∀ C, kdD d s.M = some (.inr C) → ClsI K C → TyX K s.H v (.ref C) := by
  refine ⟨fun u e => ?_, fun C e c => ?_⟩
  · cases r with
    | non => cases e; exact .base .non
    | bl => cases e; exact .base (.bl _)
    | int => cases e; exact .base (.int _)
    | str => cases e; exact .base (.str _)
    | lst h _ => cases e; exact .base (.lst (ok.sub _ _ h))
    | tup h _ =>
      cases e
      rcases Same.seqT ok.sub h with (h | ⟨o, h⟩) | ⟨o, its, n, h, hc, _⟩
      · exact .base (.tup h)
      · exact .fTuple h
      · exact .kTuple h hc
    | obj h _ => cases e
    | scr h => cases e
    | exc h r => cases e
    | lam h hc ht => cases e
    | err h hd r => cases e
    | dic h r => cases e
    | @cel a =>
      simp only [kdD] at e
      split at e
      · rename_i ds hm
        cases e
        obtain ⟨vs, e, _⟩ := ok.cells _ _ hm
        exact .base (.lst e)
      · cases e
      · cases e
      · cases e
      · cases e
  · cases r with
    | non => cases e
    | bl => cases e
    | int => cases e
    | str => cases e
    | lst h _ => cases e
    | tup h _ => cases e
    | obj h _ => cases e; exact .base (.ins (ok.sub _ _ h) c.cl c.ha c.hn c.htk c.hm)
    | scr h => cases e
    | exc h r => cases e
    | lam h hc ht => cases e
    | err h hd r => cases e
    | dic h r => cases e
    | @cel a =>
      simp only [kdD] at e
      split at e
      · cases e
      · rename_i C' fs hm
        cases e
        obtain ⟨dx, fvs, e, _⟩ := ok.cells _ _ hm
        exact .base (.ins e c.cl c.ha c.hn c.htk c.hm)
      · cases e
      · cases e
      · cases e
def dIsiB (T : Kd) (CS : List Addr) : D1 := fun u M k _ => match kdD u M with
  | some (.inl u') => k (.bl (isK T u')) M
  | some (.inr C) => C ∈ CS ∧ k (.bl false) M
  | none => False
def dIsiC (C0 : Addr) (CS : List Addr) : D1 := fun u M k _ => match kdD u M with
  | some (.inl _) => k (.bl false) M
  | some (.inr C) => C ∈ CS ∧ k (.bl (decide (C = C0))) M
  | none => False
section
variable {X : Cx} {E : XK} {e a b c : Expr} {p pos : Pos} {τa τb τc : DE} {αa : DA} {es : List Expr}
/-- isinstance(e, T), T a built-in class -/
theorem d_isi {q : Pos} {x : Str} (T : Kd) (CS : List Addr) (hT : T ≠ .non) (hC : ∀ C ∈ CS, ClsI X.K C ∧ PySem.W.kitOne X.K (.ref C) (.type T.nm) = some false) (hg : Gl X "isinstance") (hm : X.mg "isinstance" = none) (hgT : Gl X x) (hmT : X.mg x = none) (hvT : bootBuiltins x = some (.type T.nm)) (he : DP X E e τa)
    (hn : x ≠ "__name__" := by decide) (hd : (x == ("__debug__" : Str)) = false := by decide) (hs : starEach [e, .Name x q] X.env = (false, eval e X.env) :: starEach [.Name x q] X.env := by rfl) (hs2 : starEach [.Name x q] X.env = (false, eval (.Name x q) X.env) :: starEach [] X.env := by rfl) (hpl : (backTo pos (starEach [.Name x q] X.env)).any (·.1) = false := by rfl) :
    DP X E (.Call (.Name "isinstance" p) [e, .Name x q] [] pos) (dUn (dIsiB T CS) τa) :=
  pe_mono (pe_callB call_isi hg hm (by decide +kernel) (pa_cons he (pa_cons (pe_bltn (v := .ty T.nm) hgT hmT hvT rfl hn hd) pa_nil hs2) hs) (by decide) (by decide) hs hpl) fun σ H Q h => by
    obtain ⟨ρ, s, k, xx, rfl, er, q, pp, px⟩ := h
    refine ⟨ρ, s, _, xx, rfl, er, q, fun u s1 q1 st1 ok1 v1 r1 => ?_, px⟩
    obtain ⟨t1, t2⟩ := tyX_of ok1 r1
    change dIsiB T CS u s1.M k xx at q1
    unfold dIsiB at q1
    split at q1
    · rename_i u' hu
      exact ⟨v1, .ty T.nm, .type u'.nm, .type T.nm, isK T u', rfl, .ty _, t1 u' hu, kit_ty (kit_K T u' hT), pp _ s1 q1 st1 ok1 _ .bl⟩
    · rename_i C hu
      obtain ⟨c1, c2⟩ := hC C q1.1
      exact ⟨v1, .ty T.nm, .ref C, .type T.nm, false, rfl, .ty _, t2 C hu c1, c2, pp _ s1 q1.2 st1 ok1 _ .bl⟩
    · exact q1.elim
/-- isinstance(e, C0), C0 an own class -/
theorem d_isiC {q : Pos} {x : Str} (C0 : Addr) (CS : List Addr) (hC : ∀ C ∈ CS, ClsI X.K C ∧ PySem.W.kitOne X.K (.ref C) (.ref C0) = some (decide (C = C0))) (hB : ∀ u : Kd, PySem.W.kitOne X.K (.type u.nm) (.ref C0) = some false) (hg : Gl X "isinstance") (hm : X.mg "isinstance" = none) (hgT : Gl X x) (hmT : X.mg x = some (.ref C0)) (he : DP X E e τa)
    (hd : (x == ("__debug__" : Str)) = false := by decide) (hs : starEach [e, .Name x q] X.env = (false, eval e X.env) :: starEach [.Name x q] X.env := by rfl) (hs2 : starEach [.Name x q] X.env = (false, eval (.Name x q) X.env) :: starEach [] X.env := by rfl) (hpl : (backTo pos (starEach [.Name x q] X.env)).any (·.1) = false := by rfl) :
    DP X E (.Call (.Name "isinstance" p) [e, .Name x q] [] pos) (dUn (dIsiC C0 CS) τa) :=
  pe_mono (pe_callB call_isi hg hm (by decide +kernel) (pa_cons he (pa_cons (pe_glob (v := .ref C0) hgT hmT rfl hd) pa_nil hs2) hs) (by decide) (by decide) hs hpl) fun σ H Q h => by
    obtain ⟨ρ, s, k, xx, rfl, er, q, pp, px⟩ := h
    refine ⟨ρ, s, _, xx, rfl, er, q, fun u s1 q1 st1 ok1 v1 r1 => ?_, px⟩
    obtain ⟨t1, t2⟩ := tyX_of ok1 r1
    change dIsiC C0 CS u s1.M k xx at q1
    unfold dIsiC at q1
    split at q1
    · rename_i u' hu
      exact ⟨v1, .ref C0, .type u'.nm, .ref C0, false, rfl, .own _, t1 u' hu, hB u', pp _ s1 q1 st1 ok1 _ .bl⟩
    · rename_i C hu
      obtain ⟨c1, c2⟩ := hC C q1.1
      exact ⟨v1, .ref C0, .ref C, .ref C0, _, rfl, .own _, t2 C hu c1, c2, pp _ s1 q1.2 st1 ok1 _ .bl⟩
    · exact q1.elim

end

/-! ### small facts for printed terms -/
theorem d_globE {X : Cx} {E : XK} {x : Str} {d : D} {pos : Pos} (hg : Gl X x) (hm : ∃ u, X.mg x = some u ∧ KC d u) (hd : (x == ("__debug__" : Str)) = false := by decide) : DP X E (.Name x pos) (dC d) := by
  obtain ⟨u, h1, h2⟩ := hm
  exact d_glob hg h1 h2 hd
theorem boot_len' : bootBuiltins "len" = some (.builtin "len") := by decide +kernel
theorem boot_abs' : bootBuiltins "abs" = some (.builtin "abs") := by decide +kernel
theorem boot_all' : bootBuiltins "all" = some (.builtin "all") := by decide +kernel
theorem boot_any' : bootBuiltins "any" = some (.builtin "any") := by decide +kernel
theorem boot_min' : bootBuiltins "min" = some (.builtin "min") := by decide +kernel
theorem boot_int' : bootBuiltins "int" = some (.type "int") := by decide +kernel
theorem boot_list' : bootBuiltins "list" = some (.type "list") := by decide +kernel
theorem boot_tuple' : bootBuiltins "tuple" = some (.type "tuple") := by decide +kernel
theorem boot_str' : bootBuiltins "str" = some (.type "str") := by decide +kernel
theorem boot_bool' : bootBuiltins "bool" = some (.type "bool") := by decide +kernel
theorem fund_mk {K : PySem.W.Frag} {x qual : Str} {params : Arguments} {body : List Stmt} {scope : Scope} {f : Addr} {oc : Value} {od an : Option Addr} {osl : Array (Option Value)} {kV doc pm cdv ct : Value} (l : K.lookup f = some ⟨oc, od, .func (PySem.W.fnOf x qual params body scope .none kV doc pm an cdv ct), osl⟩)
    (c : PySem.W.codeIn K cdv qual = true) (k : PySem.W.keepIn K (.ref f) = true) : FunD K x qual params body scope [] [] f (PySem.W.fnOf x qual params body scope .none kV doc pm an cdv ct) :=
  ⟨⟨oc, od, .none, kV, doc, pm, an, cdv, ct, osl, rfl, l, c, .inl ⟨rfl, rfl⟩, .inl rfl⟩, k⟩
theorem kbd_of {K : PySem.W.Frag} {x qual : Str} {params : Arguments} {body : List Stmt} {scope : Scope} {f : Addr} {fd : FuncData} {ps : List Str} {n : Nat} (F : FunD K x qual params body scope [] [] f fd) (hn : n = ps.length)
    (h : ∀ (kV doc pm : Value) (an : Option Addr) (cdv ct : Value) (us : List Value), us.length = ps.length → bindArgs (PySem.W.fnOf x qual params body scope .none kV doc pm an cdv ct) ⟨us, []⟩ = pure (ps.zip us)) : KBd K fd ps n [] (fun us _ => us) := by
  obtain ⟨oc, od, dV, kV, doc, pm, an, cdv, ct, osl, rfl, lk, hcd, hD, hK⟩ := F.ex
  rcases hD with ⟨_, rfl⟩ | ⟨e, _⟩
  · exact kbd_plain hn (h kV doc pm an cdv ct)
  · exact absurd rfl e
theorem kbdk_of {K : PySem.W.Frag} {x qual : Str} {params : Arguments} {body : List Stmt} {scope : Scope} {f : Addr} {fd : FuncData} {ps ks : List Str} {n : Nat} (F : FunD K x qual params body scope [] [] f fd) (l : List (Sum Nat Nat))
    (h : ∀ (kV doc pm : Value) (an : Option Addr) (cdv ct : Value) (us ws : List Value), us.length = n → ws.length = ks.length → bindArgs (PySem.W.fnOf x qual params body scope .none kV doc pm an cdv ct) ⟨us, ks.zip ws⟩ = pure (ps.zip (pickA us ws l))) : KBd K fd ps n ks (fun us ws => pickA us ws l) := by
  obtain ⟨oc, od, dV, kV, doc, pm, an, cdv, ct, osl, rfl, lk, hcd, hD, hK⟩ := F.ex
  rcases hD with ⟨_, rfl⟩ | ⟨e, _⟩
  · exact kbd_kw l (h kV doc pm an cdv ct)
  · exact absurd rfl e
theorem isiB_inl {T v : Kd} {CS : List Addr} {u : D} {M : Mm} {k : DK} {x : DX} (h : kdD u M = some (.inl v)) (q : k (.bl (isK T v)) M) : dIsiB T CS u M k x := by
  unfold dIsiB
  rw [h]
  exact q
theorem isiB_inr {T : Kd} {C : Addr} {CS : List Addr} {u : D} {M : Mm} {k : DK} {x : DX} (h : kdD u M = some (.inr C)) (hc : C ∈ CS) (q : k (.bl false) M) : dIsiB T CS u M k x := by
  unfold dIsiB
  rw [h]
  exact ⟨hc, q⟩
theorem isiC_inl {C0 : Addr} {v : Kd} {CS : List Addr} {u : D} {M : Mm} {k : DK} {x : DX} (h : kdD u M = some (.inl v)) (q : k (.bl false) M) : dIsiC C0 CS u M k x := by
  unfold dIsiC
  rw [h]
  exact q
theorem isiC_inr {C0 C : Addr} {CS : List Addr} {u : D} {M : Mm} {k : DK} {x : DX} (h : kdD u M = some (.inr C)) (hc : C ∈ CS) (q : k (.bl (decide (C = C0))) M) : dIsiC C0 CS u M k x := by
  unfold dIsiC
  rw [h]
  exact ⟨hc, q⟩
theorem ite_of {c : Prop} [Decidable c] {A B : Prop} (h1 : c → A) (h2 : ¬ c → B) : if decide c = true then A else B := by
  by_cases h : c
  · rw [if_pos (decide_eq_true h)]
    exact h1 h
  · rw [if_neg (fun z => h (of_decide_eq_true z))]
    exact h2 h
theorem ite_b {c : Bool} {A B : Prop} (h1 : c = true → A) (h2 : c = false → B) : if c = true then A else B := by
  cases c with
  | true => rw [if_pos rfl]; exact h1 rfl
  | false => rw [if_neg Bool.false_ne_true]; exact h2 rfl
/-- a comprehension's turns: no test, the element is told for each item and changes nothing -/
theorem lc_map {γ : DG} {ε : DE} {vs : List Nat} {ρ : DEnv} {M : Mm} {k : DK} {ds : List D} (f : D → D) (hl : ds.length < sizeLine)
    (he : ∀ d ∈ ds, ∀ K : DK, K (f d) M → γ d (wipeD ρ vs) M fun ρ1 M2 => ε ρ1 M2 K (fun _ _ _ => False))
    (gm : ∀ d (K K' : DEnv → Mm → Prop), (∀ ρ M, K ρ M → K' ρ M) → γ d (wipeD ρ vs) M K → γ d (wipeD ρ vs) M K') (hk : k (.lst (ds.map f)) M) : LcK γ dYes ε vs ρ ds M k := by
  refine .of hl (fun j acc M' => M' = M ∧ acc = (ds.take j).map f) ⟨rfl, rfl⟩ (fun j d acc M' hd ⟨e1, e2⟩ => ?_) (fun acc M' ⟨e1, e2⟩ => ?_)
  · subst e1 e2
    have hn : List.map f (List.take j ds) ++ [f d] = List.map f (List.take (j + 1) ds) := by
      rw [List.take_succ, hd]
      simp
    refine gm d _ _ (fun ρ1 M2 hh => ?_) (he d (List.mem_of_getElem? hd) (fun y M4 => M4 = M' ∧ List.map f (List.take j ds) ++ [y] = List.map f (List.take (j + 1) ds)) ⟨rfl, hn⟩)
    unfold dYes
    dsimp only
    rw [if_pos rfl]
    exact hh
  · subst e1 e2
    rw [List.take_length]
    exact hk
theorem gN_mono {i : Nat} {d : D} {ρ : DEnv} {M : Mm} (K K' : DEnv → Mm → Prop) (h : ∀ ρ M, K ρ M → K' ρ M) (q : gN i d ρ M K) : gN i d ρ M K' := h _ _ q
theorem eqD_int (i j : Int) : EqD (.int i) (.int j) (decide (i = j)) := by
  have h : EqD (.int i) (.int j) (decide (toV (.int i) = toV (.int j))) := .sc rfl rfl rfl
  have e : decide (toV (.int i) = toV (.int j)) = decide (i = j) := by
    by_cases c : i = j
    · subst c; simp
    · rw [decide_eq_false c]
      exact decide_eq_false fun z => c (by injection z)
  rw [← e]
  exact h
theorem eqD_str (i j : Str) : EqD (.str i) (.str j) (decide (i = j)) := by
  have h : EqD (.str i) (.str j) (decide (toV (.str i) = toV (.str j))) := .sc rfl rfl rfl
  have e : decide (toV (.str i) = toV (.str j)) = decide (i = j) := by
    by_cases c : i = j
    · subst c; simp
    · rw [decide_eq_false c]
      exact decide_eq_false fun z => c (by injection z)
  rw [← e]
  exact h
theorem eqD_bl (i j : Bool) : EqD (.bl i) (.bl j) (decide (i = j)) := by
  have h : EqD (.bl i) (.bl j) (decide (toV (.bl i) = toV (.bl j))) := .sc rfl rfl rfl
  have e : decide (toV (.bl i) = toV (.bl j)) = decide (i = j) := by
    by_cases c : i = j
    · subst c; simp
    · rw [decide_eq_false c]
      exact decide_eq_false fun z => c (by injection z)
  rw [← e]
  exact h
theorem eqD_non : EqD .non .non true := by
  have h : EqD .non .non (decide (toV .non = toV .non)) := .sc rfl rfl rfl
  exact h
theorem eqI {i j : Int} {M : Mm} {k : DK} (q : k (.bl (decide (i = j))) M) : EqK (.int i) (.int j) M k := .of (eqD_int i j) q
theorem neI {i j : Int} {M : Mm} {k : DK} (q : k (.bl (!decide (i = j))) M) : NeK (.int i) (.int j) M k := .of (eqD_int i j) q
theorem eqP {a b : D} {p r : PyData} {M : Mm} {k : DK} (h1 : toP a = some p) (h2 : toP b = some r) (h3 : SeqAt.shaped p = true) (h4 : SeqAt.shaped r = true) (q : k (.bl (PyData.eqv p r)) M) : EqK a b M k := .of (.py h1 h2 h3 h4) q
theorem neP {a b : D} {p r : PyData} {M : Mm} {k : DK} (h1 : toP a = some p) (h2 : toP b = some r) (h3 : SeqAt.shaped p = true) (h4 : SeqAt.shaped r = true) (q : k (.bl (!PyData.eqv p r)) M) : NeK a b M k := .of (.py h1 h2 h3 h4) q
/-- the kind of plain data -/
def kd : D → Option Kd
  | .non => some .non
  | .bl _ => some .bl
  | .int _ => some .int
  | .str _ => some .str
  | .lst _ => some .lst
  | .tup _ => some .tup
  | _ => none
theorem kdD_of {u : D} {v : Kd} (h : kd u = some v) (M : Mm) : kdD u M = some (.inl v) := by
  cases u <;> first | (cases h; rfl) | cases h
theorem kd_str {u : D} (h : kd u = some .str) : ∃ z, u = .str z := by
  cases u <;> first | exact ⟨_, rfl⟩ | cases h
theorem kd_tup {u : D} (h : kd u = some .tup) : ∃ z, u = .tup z := by
  cases u <;> first | exact ⟨_, rfl⟩ | cases h
theorem kd_int {u : D} (h : kd u = some .int) : ∃ z, u = .int z := by
  cases u <;> first | exact ⟨_, rfl⟩ | cases h
/-- a block cut behind its first statement: R is what holds there -/
def dCutS (t u : DS) : DS := fun k x ρ M => ∃ R : DEnv → Mm → Prop, t { k with nx := R } x ρ M ∧ ∀ ρ M, R ρ M → u k x ρ M
theorem b_cut {X : Cx} {E : XK} {st : Stmt} {sts : List Stmt} {τs τt : DS} (h1 : DPS X E st τs) (h2 : DPB X E sts τt) : DPB X E (st :: sts) (dCutS τs τt) := pss_mono (pss_cons h1 h2) fun D σ H h => by
  obtain ⟨ρ, s, k, x, rfl, er, ⟨R, q, qr⟩, p, px⟩ := h
  refine ⟨ρ, s, _, x, rfl, er, q, ⟨fun ρ1 s1 q1 st1 σ1 er1 => ?_, p.rt, p.bk, p.ct⟩, px⟩
  exact ⟨ρ1, s1, k, x, rfl, er1, qr ρ1 s1.M q1, p.step st1, px.step st1⟩
end DL
set_option Elab.async false
set_option linter.all false
set_option maxRecDepth 100000
namespace DL
open PySem PySem.Spec PyProof.Rows L2
/-- the end: a law's promise in data gives the walk -/
theorem walk_D {l : PySem.W.OpenLaw} {k : Nat} {q : Program} {loose : List Str} {XP : (Str → Option Value) → Heap → Prop} {YP : World → Heap → Prop} {d : DefRec} {K : Params → PySem.W.Frag} {φ : Ct} {x : Str}
    (hn : l.most = some 63) (hdf : d.params.defaults = []) (hr : Room k callerA)
    (hφ : ∀ (ns : List Int) (M : Mm) (kk : DK) (xx : DX), ns.length ≤ 63 → (∀ z ∈ ns, Builtin.Int.intBits z ≤ 1048576) → (∀ a, M a = none) → (∀ M', kk (.bl true) M') → φ [.scr ns] M kk xx)
    (hY : ∀ (w : World) (h : Heap), YP w h → (K w.params).In h)
    (F : ∀ (w : World) (mg : Str → Option Value) (fa : Addr) (h : Heap), (K w.params).In h → h.Ns mainGlobals mg → mg d.name = some (.ref fa) →
      ∃ fd : FuncData, (∀ (s : Shared) (u : Value), BindsTo s fd ⟨[u], []⟩ [(x, u)]) ∧
        ∀ base : Heap, (K w.params).In base → base.Ns mainGlobals mg → FnOk l.prog w (K w.params) mg base (L2.CX l.prog w) k fa fd [x] (spD (K w.params) 1 φ)) :
    PySem.W.WalkO q loose XP YP l.row.toRowW d [] (fun f vs => PySem.call f vs) :=
  L2.walk_ofB (n := 63) (k := k) (x := x) (CX := fun w => L2.CX l.prog w) (sp := fun w => spD (K w.params) 1 φ) hn (by decide) hdf hr hY F
    (fun w H a ns hl hb _ hS => ⟨⟨H, H, fun _ => none⟩, [.scr ns], fun d _ => d = .bl true, fun _ _ _ => False, rfl, ⟨Same.refl _, nofun, nofun⟩, .cons (.scr hS) .nil, rfl,
      hφ ns _ _ _ hl hb (fun _ => rfl) (fun _ => rfl), fun d t e _ _ v r => by subst e; cases r; rfl, fun C fs t h => h.elim⟩)
    fun w H s e s' h => by
      obtain ⟨_, _, _, _, _, _, _, _, _, _, _, _, z⟩ := h
      exact z
end DL
set_option Elab.async false
set_option linter.all false
set_option maxRecDepth 100000
set_option maxHeartbeats 2000000
namespace DL
open PySem PySem.Spec PyProof.Rows L2
/-! ### instances -/
/-- an instance: its class and what it holds -/
def insOf : D → Mm → Option (Addr × List (Str × D))
  | .obj C fs, _ => some (C, fs)
  | .cel a, M => match M a with
    | some (.ins C fs) => some (C, fs)
    | _ => none
  | _, _ => none
theorem ins_of {K : PySem.W.Frag} {s : Sta} {v : V} {d : D} {C : Addr} {fs : List (Str × D)} (ok : Ok K s) (r : Rep K s.G v d) (h : insOf d s.M = some (C, fs)) : ∃ a dx fvs, v = .ref a ∧ s.H a = some (.ins C dx fvs) ∧ FRep K s.G fvs fs := by
  cases r with
  | obj h1 r1 => cases h; exact ⟨_, _, _, rfl, ok.sub _ _ h1, r1⟩
  | @cel a =>
    simp only [insOf] at h
    split at h
    · rename_i C' fs' hm
      cases h
      obtain ⟨dx, fvs, e, rf⟩ := ok.cells _ _ hm
      exact ⟨a, dx, fvs, rfl, e, rf⟩
    · cases h
  | _ => cases h
theorem insOf_cel {M : Mm} {p : Addr} {C : Addr} {fs : List (Str × D)} (h : M p = some (.ins C fs)) : insOf (.cel p) M = some (C, fs) := by
  simp only [insOf, h]
def dFld (CS : List Addr) (f : Str) : D1 := fun u M k _ => ∃ C fs d, insOf u M = some (C, fs) ∧ C ∈ CS ∧ fs.lookup f = some d ∧ k d M
section
variable {X : Cx} {E : XK} {e o v : Expr} {f : Str} {pos pos' : Pos} {τ τo τv : DE}
theorem d_fld (CS : List Addr) (hc : ∀ C ∈ CS, Cls X.K C ∧ NoAttr X.K C f) (he : DP X E e τ) (hb : attributeBase e f X.env (eval e X.env) = eval e X.env := by rfl) : DP X E (.Attribute e f pos) (dUn (dFld CS f) τ) := pe_mono (pe_fld he hb) fun σ H Q h => by
  obtain ⟨ρ, s, k, x, rfl, er, q, p, px⟩ := h
  refine ⟨ρ, s, _, x, rfl, er, q, fun u s1 q1 st1 ok1 v1 r1 => ?_, px⟩
  obtain ⟨C, fs, d, hi, hC, hl, q1⟩ := q1
  obtain ⟨a, dx, fvs, rfl, ha, rf⟩ := ins_of ok1 r1 hi
  obtain ⟨v, hv, rv⟩ := rf.get hl
  exact ⟨a, C, dx, fvs, v, rfl, ha, (hc C hC).1, (hc C hC).2, hv, p d s1 q1 st1 ok1 v rv⟩
theorem FRep.put {K : PySem.W.Frag} {G : Hp} {f : Str} {v : V} {d : D} (r : Rep K G v d) : ∀ {vs : List (Str × V)} {ds : List (Str × D)}, FRep K G vs ds → FRep K G (putF f v vs) (putD f d ds)
  | _, _, .nil => .cons r .nil
  | _, _, .cons (f := g) h t => by
    unfold putF putD
    by_cases e : g = f
    · subst e
      rw [if_pos rfl, if_pos rfl]
      exact .cons r t
    · rw [if_neg e, if_neg e]
      exact .cons h (FRep.put r t)
/-- o.f = v of an instance in the making -/
def dSetFld (CS : List Addr) (f : Str) (τo τv : DE) : DS := fun k x ρ M => τv ρ M (fun u M1 => τo ρ M1 (fun w M2 => ∃ a C fs, w = .cel a ∧ M2 a = some (.ins C fs) ∧ C ∈ CS ∧ fs.length < 1000 ∧ k.nx ρ (mup M2 a (.ins C (putD f u fs)))) x) x
theorem s_fld (CS : List Addr) (hc : ∀ C ∈ CS, Cls X.K C ∧ NoAttr X.K C f) (hv : DP X E v τv) (ho : DP X E o τo) (hs : swapsWith v (some (.Attribute o f pos')) pos.line X.env = pure false := by rfl) :
    DPS X E (.Assign [.Attribute o f pos'] v pos) (dSetFld CS f τo τv) := ps_mono (ps_fld ho hv hs) fun D σ H h => by
  obtain ⟨ρ, s, k, x, rfl, er, q, p, px⟩ := h
  refine ⟨ρ, s, _, x, rfl, er, q, fun u s1 q1 st1 ok1 v1 r1 => ?_, px⟩
  refine ⟨ρ, s1, _, x, rfl, er.step st1 ok1, q1, fun w s2 q2 st2 ok2 v2 r2 => ?_, px.step st1⟩
  obtain ⟨a, C, fs, rfl, hm, hC, hl, q2⟩ := q2
  obtain ⟨dx, fvs, e, rf⟩ := ok2.cells _ _ hm
  have st : Step s s2 := st1.trans st2
  obtain ⟨k4, st4⟩ := ok2.put (p := a) (o := .ins C dx (putF f v1 fvs)) (mo := .ins C (putD f u fs)) (by rw [hm]; rfl) ⟨_, _, rfl, rf.put (r1.same st2.same)⟩
  exact ⟨a, C, dx, fvs, r2.cel_of, e, (hc C hC).1, (hc C hC).2, by rw [rf.length]; exact hl, p.nx ρ ⟨_, _, _⟩ q2 (st.trans st4) σ (er.step (st.trans st4) k4)⟩
end
/-! ### a new instance -/
/-- the instance's making: its __init__ at a fresh cell; what it holds then is frozen -/
def mkC (C : Addr) (φ : Ct) (gD : List D → List D → List D) (ds zs : List D) (M : Mm) (k : DK) (x : DX) : Prop :=
  ∀ p, M p = none → φ (gD (.cel p :: ds) zs) (mup M p (.ins C [])) (fun d M2 => d = .non ∧ ∃ fs, M2 p = some (.ins C fs) ∧ k (.obj C fs) (mdel M2 p)) (fun D fs M2 => x D fs (mdel M2 p))
def dMake (C : Addr) (n m : Nat) (φ : Ct) (gD : List D → List D → List D) (α κ : DA) : DE := fun ρ M k x => α ρ M (fun ds M1 => κ ρ M1 (fun zs M2 => ds.length = n ∧ zs.length = m ∧ mkC C φ gD ds zs M2 k x) x) x
theorem Ok.drop {K : PySem.W.Frag} {b s : Sta} {p : Addr} (k : Ok K s) (st : Step b s) (hb : b.H p = none) (hbm : b.M p = none) : Ok K ⟨s.H, s.G, mdel s.M p⟩ ∧ Step b ⟨s.H, s.G, mdel s.M p⟩ := by
  have ne : ∀ a mo, mdel s.M p a = some mo → a ≠ p := fun a mo e z => by subst z; rw [mdel_same] at e; cases e
  refine ⟨⟨k.sub, fun a mo e => ?_, fun a mo e => ?_⟩, ⟨st.same, fun a h => ?_, fun a o h1 h2 h3 => ?_⟩⟩
  · have e' : mdel s.M p a = some mo := e
    have z := ne a mo e'
    rw [mdel_ne z] at e'
    exact k.apart a mo e'
  · have e' : mdel s.M p a = some mo := e
    have z := ne a mo e'
    rw [mdel_ne z] at e'
    exact k.cells a mo e'
  · have z : a ≠ p := fun z => by subst z; rw [hbm] at h; cases h
    show (mdel s.M p a).isSome = true
    rw [mdel_ne z]
    exact st.dom a h
  · have z : a ≠ p := fun z => by subst z; rw [hb] at h1; cases h1
    obtain ⟨x1, x2, x3⟩ := st.hid a o h1 h2 h3
    refine ⟨x1, x2, ?_⟩
    show mdel s.M p a = none
    rw [mdel_ne z]
    exact x3
section
variable {X : Cx} {CX : CXT} {E : XK} {k n nn : Nat} {f C : Addr} {fd : FuncData} {ps ks : List Str} {φ : Ct} {x m : Str} {p pos apos : Pos} {e o : Expr} {es : List Expr} {kws : List Keyword} {αa ακ : DA} {τo τv : DE} {gD : List D → List D → List D}
theorem mk_sp {K : PySem.W.Frag} {gV : List V → List V → List V} {s0 : Sta} {ds zd : List D} {vs zs : List V} {kk : DK} {xx : DX} {Q : VK}
    (hrep : ∀ {G : Hp} {vs : List V} {us : List D} {zs : List V} {ws : List D}, Reps K G vs us → Reps K G zs ws → us.length = n + 1 → ws.length = ks.length → Reps K G (gV vs zs) (gD us ws))
    (hgl : ∀ us ws : List D, us.length = n + 1 → ws.length = ks.length → (gD us ws).length = nn)
    (ok : Ok K s0) (r1 : Reps K s0.G vs ds) (r2 : Reps K s0.G zs zd) (l1 : ds.length = n) (l2 : zd.length = ks.length) (q : mkC C φ gD ds zd s0.M kk xx) (pp : Post K s0 kk Q) (px : PostX K E s0 xx) :
    ∀ y dx, s0.H y = none → s0.H dx = none → dx ≠ y → spD K nn φ (gV (.ref y :: vs) zs) (upd (upd s0.H dx (.own y)) y (.ins C dx [])) (fun v H3 => v = .non ∧ Q (.ref y) H3) E := by
  intro y dx hy hdx hne
  obtain ⟨oka, sta⟩ := ok.hide (o := .own y) (Step.refl s0) hdx (ok.freeG hdx) (ok.freeM hdx)
  have hy1 : upd s0.H dx (.own y) y = none := by rw [upd_ne (Ne.symm hne)]; exact hy
  obtain ⟨okb, stb⟩ := oka.newM (p := y) (o := .ins C dx []) (mo := .ins C []) hy1 ⟨dx, [], rfl, .nil⟩
  have hym : s0.M y = none := ok.freeM hy
  have sg : Same s0.G s0.G := Same.refl _
  refine ⟨_, gD (.cel y :: ds) zd, _, _, rfl, okb, hrep (.cons .cel r1) r2 (by rw [List.length_cons, l1]) l2, hgl _ _ (by rw [List.length_cons, l1]) l2, q y hym, ?_, ?_⟩
  · rintro d t ⟨rfl, fs, hm, q2⟩ st okt v rv
    cases rv
    refine ⟨rfl, ?_⟩
    obtain ⟨dx', fvs, ho, rf⟩ := okt.cells _ _ hm
    have st0 : Step s0 t := (sta.trans stb).trans st
    obtain ⟨k2, st2, sm⟩ := okt.freeze st0 hy hym (by rw [hm]; rfl) ho
    exact pp _ ⟨_, _, _⟩ q2 st2 k2 _ (.obj upd_same (rf.same sm))
  · intro D fs t h st okt dx' fvs h1 h2 h3 hn h4
    have st0 : Step s0 t := (sta.trans stb).trans st
    obtain ⟨k2, st2⟩ := okt.drop st0 hy hym
    refine px D fs ⟨_, _, _⟩ h st2 k2 dx' fvs h1 h2 ?_ (fun ⟨o, z1, z2, z3⟩ => hn ⟨o, (sta.trans stb).hid dx' o z1 z2 z3⟩) h4
    show mdel t.M y dx' = none
    unfold mdel
    split
    · rfl
    · exact h3
theorem d_make (Mk : Mk X.K C f) (F : FnOk X.prog X.w X.K X.mg X.base CX k f fd ps (spD X.K nn φ)) (hr : Room (k + 1) X.A) (hg : Gl X x) (hm : X.mg x = some (.ref C)) (hb : KBd X.K fd ps (n + 1) ks gD) (hgl : ∀ us ws : List D, us.length = n + 1 → ws.length = ks.length → (gD us ws).length = nn) (hx : Passes CX X E)
    (ha : DPA X E (e :: es) αa) (hkw : DPK X E kws ακ) (hall : (backToKw pos (keywordEach kws X.env)).all (·.1.isSome) = true := by rfl) (hks : (backToKw pos (keywordEach kws X.env)).filterMap (·.1) = ks := by rfl)
    (hdb : (x == ("__debug__" : Str)) = false := by decide) (he : starEach (e :: es) X.env = (false, eval e X.env) :: starEach es X.env := by rfl)
    (hpl : ((backTo pos (starEach (e :: es) X.env)).any (·.1) || (backToKw pos (keywordEach kws X.env)).any (·.1.isNone)) = false := by rfl) :
    DP X E (.Call (.Name x p) (e :: es) kws pos) (dMake C n ks.length φ gD αa ακ) := by
  obtain ⟨g, gV, hb, hrep⟩ := hb.ex
  refine pe_mono (pe_makeK (n := n) Mk F hr hg hm hb hx ha hkw hall hks hdb he hpl) fun σ H Q h => ?_
  obtain ⟨ρ, s0, kk, xx, rfl, er, q, pp, px⟩ := h
  refine ⟨ρ, s0, _, xx, rfl, er, q, fun ds s1 q1 st1 ok1 vs r1 => ?_, px⟩
  refine ⟨ρ, s1, _, xx, rfl, er.step st1 ok1, q1, fun zd s2 q2 st2 ok2 zs r2 => ?_, px.step st1⟩
  obtain ⟨l1, l2, q3⟩ := q2
  have st := st1.trans st2
  exact ⟨r1.length.trans l1, r2.length.trans l2, mk_sp hrep hgl ok2 (r1.same st2.same) r2 l1 l2 q3 (pp.step st) (px.step st)⟩
theorem d_make0 (Mk : Mk X.K C f) (F : FnOk X.prog X.w X.K X.mg X.base CX k f fd ps (spD X.K nn φ)) (hr : Room (k + 1) X.A) (hg : Gl X x) (hm : X.mg x = some (.ref C)) (hb : KBd X.K fd ps 1 ks gD) (hgl : ∀ us ws : List D, us.length = 0 + 1 → ws.length = ks.length → (gD us ws).length = nn) (hx : Passes CX X E)
    (hkw : DPK X E kws ακ) (hall : (backToKw pos (keywordEach kws X.env)).all (·.1.isSome) = true := by rfl) (hks : (backToKw pos (keywordEach kws X.env)).filterMap (·.1) = ks := by rfl)
    (hdb : (x == ("__debug__" : Str)) = false := by decide) (hpl : ((backTo pos (starEach [] X.env)).any (·.1) || (backToKw pos (keywordEach kws X.env)).any (·.1.isNone)) = false := by rfl) :
    DP X E (.Call (.Name x p) [] kws pos) (dMake C 0 ks.length φ gD dNil ακ) := by
  obtain ⟨g, gV, hb, hrep⟩ := hb.ex
  refine pe_mono (pe_makeK0 Mk F hr hg hm hb hx hkw hall hks hdb hpl) fun σ H Q h => ?_
  obtain ⟨ρ, s0, kk, xx, rfl, er, q, pp, px⟩ := h
  refine ⟨ρ, s0, _, xx, rfl, er, q, fun zd s2 q2 st2 ok2 zs r2 => ?_, px⟩
  obtain ⟨l1, l2, q3⟩ := q2
  exact ⟨rfl, r2.length.trans l2, mk_sp (n := 0) hrep hgl ok2 .nil r2 l1 l2 q3 (pp.step st2) (px.step st2)⟩
end
end DL
set_option Elab.async false
set_option linter.all false
set_option maxRecDepth 100000
set_option maxHeartbeats 2000000
namespace DL
open PySem PySem.Spec PyProof.Rows L2
section
variable {X : Cx} {CX : CXT} {E : XK} {k n nn : Nat} {f C pa : Addr} {fd : FuncData} {ps ks : List Str} {φ : Ct} {x m : Str} {p pos apos : Pos} {e o : Expr} {es : List Expr} {kws : List Keyword} {αa ακ : DA} {τ τo τv : DE} {gD : List D → List D → List D}
/-! ### methods -/
def dMeth (C : Addr) (mn : Str) (n m : Nat) (φ : Ct) (gD : List D → List D → List D) (τo : DE) (α κ : DA) : DE := fun ρ M k x => τo ρ M (fun o M1 => ∃ fs, insOf o M1 = some (C, fs) ∧ fs.lookup mn = none ∧ α ρ M1 (fun ds M2 => κ ρ M2 (fun zs M3 => ds.length = n ∧ zs.length = m ∧ φ (gD (o :: ds) zs) M3 k x) x) x) x
theorem d_meth {pl : Sem Bool} (c : Cls X.K C) (hm : Meth X.K C m f) (F : FnOk X.prog X.w X.K X.mg X.base CX k f fd ps (spD X.K nn φ)) (hr : Room k X.A) (hb : KBd X.K fd ps (n + 1) ks gD) (hgl : ∀ us ws : List D, us.length = n + 1 → ws.length = ks.length → (gD us ws).length = nn) (hx : Passes CX X E)
    (ho : DP X E o τo) (ha : DPA X E (e :: es) αa) (hkw : DPK X E kws ακ) (hall : (backToKw pos (keywordEach kws X.env)).all (·.1.isSome) = true := by rfl) (hks : (backToKw pos (keywordEach kws X.env)).filterMap (·.1) = ks := by rfl)
    (he : starEach (e :: es) X.env = (false, eval e X.env) :: starEach es X.env := by rfl)
    (hpl : ((backTo pos (starEach (e :: es) X.env)).any (·.1) || (backToKw pos (keywordEach kws X.env)).any (·.1.isNone)) = false := by rfl)
    (ht : eval (.Call (.Attribute o m apos) (e :: es) kws pos) X.env = (do
      let ov ← eval o X.env
      standAt apos.atName
      let (f, first) ← holding [ov] (getMethod ov m pl)
      callWith pos f first (backTo pos (starEach (e :: es) X.env)) (backToKw pos (keywordEach kws X.env))) := by rfl) :
    DP X E (.Call (.Attribute o m apos) (e :: es) kws pos) (dMeth C m n ks.length φ gD τo αa ακ) := by
  refine ⟨fun pins s σ H Q I h => ?_⟩
  obtain ⟨ρ, s0, kk, xx, rfl, er, q, pp, px⟩ := h
  refine PySem.W.methodCall_KW (pl := pl) (thn (ho.run pins s σ s0.H (fun v H1 => ∃ s1 d, s1.H = H1 ∧ Ok X.K s1 ∧ Step s0 s1 ∧ Rep X.K s1.G v d ∧ ∃ fs, insOf d s1.M = some (C, fs) ∧ fs.lookup m = none ∧ αa ρ s1.M (fun ds M2 => ακ ρ M2 (fun zs M3 => ds.length = n ∧ zs.length = ks.length ∧ φ (gD (d :: ds) zs) M3 kk xx) xx) xx) I
    ⟨ρ, s0, _, xx, rfl, er, q, fun d s1 q1 st1 ok1 v1 r1 => ⟨s1, d, rfl, ok1, st1, r1, q1⟩, px⟩) fun u s1 ⟨x, H1, I1, rx, sa, d, e1, oka, sta, ra, fs, hi, hl, q1⟩ => ?_) ht
  subst e1
  obtain ⟨a, dx, fvs, ex, hha, rf⟩ := ins_of oka ra hi
  subst ex
  obtain rfl : u = Value.ref a := rx
  refine getmeth_ok I1 hha c hm (rf.none hl) ?_
  refine PySem.W.callWith_KW (first := [.ref a]) (h₀ := X.base) I.ok.mod.kin hm.kp hall (thn (ha.run pos pins s1 σ sa.H (fun vs H2 => ∃ sb ds, sb.H = H2 ∧ Ok X.K sb ∧ Step sa sb ∧ Reps X.K sb.G vs ds ∧ ακ ρ sb.M (fun zs M3 => ds.length = n ∧ zs.length = ks.length ∧ φ (gD (d :: ds) zs) M3 kk xx) xx) I1
    ⟨ρ, sa, _, xx, rfl, er.step sta oka, q1, fun ds sb qb stb okb vs rb => ⟨sb, ds, rfl, okb, stb, rb, qb⟩, px.step sta⟩) fun us s2 ⟨vs, H2, I2, r, sb, ds, e2, okb, stb, rb, q2⟩ => ?_) hpl he
  subst e2
  refine thn (hkw.run pos pins s2 σ sb.H (fun zs H3 => ∃ sc zd, sc.H = H3 ∧ Ok X.K sc ∧ Step sb sc ∧ Reps X.K sc.G zs zd ∧ ds.length = n ∧ zd.length = ks.length ∧ φ (gD (d :: ds) zd) sc.M kk xx) I2
    ⟨ρ, sb, _, xx, rfl, er.step (sta.trans stb) okb, q2, fun zd sc qc stc okc zs rc => ⟨sc, zd, rfl, okc, stc, rc, qc⟩, px.step (sta.trans stb)⟩) fun ws s3 ⟨zs, H3, I3, rz, sc, zd, e3, okc, stc, rc, l1, l2, q3⟩ => ⟨I3.kIn, ?_⟩
  subst e3
  rw [hks]
  have st := (sta.trans stb).trans stc
  exact run_D (us := .ref a :: us) (vs := .ref a :: vs) F hr hb hx I3 (.cons rfl r) rz ⟨sc, d :: ds, zd, kk, xx, rfl, okc, .cons (ra.same (stb.trans stc).same) (rb.same stc.same), rc, by rw [List.length_cons, l1], l2, hgl _ _ (by rw [List.length_cons, l1]) l2, q3, pp.step st, px.step st⟩
theorem d_meth0 {pl : Sem Bool} (c : Cls X.K C) (hm : Meth X.K C m f) (F : FnOk X.prog X.w X.K X.mg X.base CX k f fd ps (spD X.K nn φ)) (hr : Room k X.A) (hb : KBd X.K fd ps (0 + 1) ks gD) (hgl : ∀ us ws : List D, us.length = 0 + 1 → ws.length = ks.length → (gD us ws).length = nn) (hx : Passes CX X E)
    (ho : DP X E o τo) (hkw : DPK X E kws ακ) (hall : (backToKw pos (keywordEach kws X.env)).all (·.1.isSome) = true := by rfl) (hks : (backToKw pos (keywordEach kws X.env)).filterMap (·.1) = ks := by rfl)
    (hpl : ((backTo pos (starEach [] X.env)).any (·.1) || (backToKw pos (keywordEach kws X.env)).any (·.1.isNone)) = false := by rfl)
    (ht : eval (.Call (.Attribute o m apos) [] kws pos) X.env = (do
      let ov ← eval o X.env
      standAt apos.atName
      let (f, first) ← holding [ov] (getMethod ov m pl)
      callWith pos f first (backTo pos (starEach [] X.env)) (backToKw pos (keywordEach kws X.env))) := by rfl) :
    DP X E (.Call (.Attribute o m apos) [] kws pos) (dMeth C m 0 ks.length φ gD τo dNil ακ) := by
  refine ⟨fun pins s σ H Q I h => ?_⟩
  obtain ⟨ρ, s0, kk, xx, rfl, er, q, pp, px⟩ := h
  refine PySem.W.methodCall_KW (pl := pl) (thn (ho.run pins s σ s0.H (fun v H1 => ∃ s1 d, s1.H = H1 ∧ Ok X.K s1 ∧ Step s0 s1 ∧ Rep X.K s1.G v d ∧ ∃ fs, insOf d s1.M = some (C, fs) ∧ fs.lookup m = none ∧ ακ ρ s1.M (fun zs M3 => ([] : List D).length = 0 ∧ zs.length = ks.length ∧ φ (gD [d] zs) M3 kk xx) xx) I
    ⟨ρ, s0, _, xx, rfl, er, q, fun d s1 q1 st1 ok1 v1 r1 => ⟨s1, d, rfl, ok1, st1, r1, q1⟩, px⟩) fun u s1 ⟨x, H1, I1, rx, sa, d, e1, oka, sta, ra, fs, hi, hl, q1⟩ => ?_) ht
  subst e1
  obtain ⟨a, dx, fvs, ex, hha, rf⟩ := ins_of oka ra hi
  subst ex
  obtain rfl : u = Value.ref a := rx
  refine getmeth_ok I1 hha c hm (rf.none hl) ?_
  refine PySem.W.callWith_KW0 (first := [.ref a]) (h₀ := X.base) I.ok.mod.kin hm.kp hall ?_ hpl
  refine thn (hkw.run pos pins s1 σ sa.H (fun zs H3 => ∃ sc zd, sc.H = H3 ∧ Ok X.K sc ∧ Step sa sc ∧ Reps X.K sc.G zs zd ∧ zd.length = ks.length ∧ φ (gD [d] zd) sc.M kk xx) I1
    ⟨ρ, sa, _, xx, rfl, er.step sta oka, q1, fun zd sc qc stc okc zs rc => ⟨sc, zd, rfl, okc, stc, rc, qc.2⟩, px.step sta⟩) fun ws s3 ⟨zs, H3, I3, rz, sc, zd, e3, okc, stc, rc, l2, q3⟩ => ⟨I3.kIn, ?_⟩
  subst e3
  rw [hks]
  have st := sta.trans stc
  exact run_D (us := [.ref a]) (vs := [.ref a]) F hr hb hx I3 (.cons rfl .nil) rz ⟨sc, [d], zd, kk, xx, rfl, okc, .cons (ra.same stc.same) .nil, rc, rfl, l2, hgl _ _ rfl l2, q3, pp.step st, px.step st⟩
/-! ### properties (which raise nothing) -/
def dPropR (C : Addr) (φ : Ct) : D1 := fun u M k _ => (∃ fs, insOf u M = some (C, fs)) ∧ φ [u] M k (fun _ _ _ => False)
theorem pass_never : Passes (L2.CX X.prog X.w) X.nox (fun _ _ _ => False) := by
  intro pins σ H s e s' I h
  obtain ⟨_, _, _, _, _, _, _, _, _, _, _, _, z⟩ := h
  exact z.elim
theorem d_prop (he : DP X E e τ) (c : Cls X.K C) (hp : PropOf X.K C m pa f) (F : FnOk X.prog X.w X.K X.mg X.base (L2.CX X.prog X.w) k f fd ps (spD X.K 1 φ)) (hr : Room (k + 1) X.A) (hb : Binds X.K fd ps [])
    (hab : attributeBase e m X.env (eval e X.env) = eval e X.env := by rfl) : DP X E (.Attribute e m pos) (dUn (dPropR C φ) τ) := pe_mono (pe_prop he c hp F hr hb .nil pass_never hab) fun σ H Q h => by
  obtain ⟨ρ, s, k, x, rfl, er, q, p, px⟩ := h
  refine ⟨ρ, s, _, x, rfl, er, q, fun u s1 q1 st1 ok1 v1 r1 => ?_, px⟩
  obtain ⟨⟨fs, hi⟩, q1⟩ := q1
  obtain ⟨a, dx, fvs, rfl, ha, rf⟩ := ins_of ok1 r1 hi
  exact ⟨a, dx, fvs, rfl, ha, s1, [u], k, _, rfl, ok1, .cons r1 .nil, rfl, q1, p.step st1, PostX.never⟩
/-! ### operators of the class -/
def dOwn2 (C : Addr) (φ : Ct) : D2 := fun x y M k xx => (∃ fs, insOf x M = some (C, fs)) ∧ (∃ fs, insOf y M = some (C, fs)) ∧ φ [x, y] M k xx
theorem o_own {op : Operator} (hs : PySem.W.findIn X.K (.ref C) (PySem.dunder op.info.2) = some (some (.ref f))) (hf : PySem.W.isFn X.K (.ref f) = true) (hc : PySem.W.selfFirst X.K C = true) (F : FnOk X.prog X.w X.K X.mg X.base CX k f fd ps (spD X.K 2 φ)) (hb : KBd X.K fd ps 2 [] (fun us _ => us)) (hr : Room k X.A) (hx : Passes CX X E) :
    OpR X (binaryOp op) (r2 X.K E (dOwn2 C φ)) := by
  intro pins s σ H x y u v Q I rx ry h
  obtain ⟨s0, dx, dy, kk, xx, rfl, ok, hdx, hdy, ⟨⟨fs, hi⟩, ⟨fs', hi'⟩, q⟩, p, px⟩ := h
  obtain ⟨a, da, fvs, rfl, ha, rf⟩ := ins_of ok hdx hi
  obtain ⟨b, db, fvs', rfl, hb', rf'⟩ := ins_of ok hdy hi'
  obtain rfl : u = Value.ref a := rx
  obtain rfl : v = Value.ref b := ry
  obtain ⟨_, O, _⟩ := ins_get I.hok ha
  obtain ⟨_, O', _⟩ := ins_get I.hok hb'
  obtain ⟨_, J, _⟩ := O.look
  obtain ⟨_, J', _⟩ := O'.look
  obtain ⟨m, hF⟩ := I.fr
  refine PySem.W.binop_K hF I.ok.mod.kin J J'.type hc hs hf ?_
  refine wpAny_mono (run_D (us := [.ref a, .ref b]) (vs := [.ref a, .ref b]) (ws := []) (zs := []) F hr hb hx I (.cons rfl (.cons rfl .nil)) .nil ⟨s0, [dx, dy], [], kk, xx, rfl, ok, .cons hdx (.cons hdy .nil), .nil, rfl, rfl, rfl, q, p, px⟩) (fun w s' z => ?_) fun _ _ x => x
  obtain ⟨z', H', I', rz, qz⟩ := z
  exact SlX.cmpback rz ⟨z', H', I', rz, qz⟩
def dOwn1 (C : Addr) (φ : Ct) : D1 := fun x M k xx => (∃ fs, insOf x M = some (C, fs)) ∧ φ [x] M k xx
theorem o_ownNeg (hs : PySem.W.findIn X.K (.ref C) "__neg__" = some (some (.ref f))) (hf : PySem.W.isFn X.K (.ref f) = true) (F : FnOk X.prog X.w X.K X.mg X.base CX k f fd ps (spD X.K 1 φ)) (hb : KBd X.K fd ps 1 [] (fun us _ => us)) (hr : Room k X.A) (hx : Passes CX X E) :
    UnR X (unaryOp .USub) (r1 X.K E (dOwn1 C φ)) := by
  intro pins s σ H x u Q I rx h
  obtain ⟨s0, dx, kk, xx, rfl, ok, hdx, ⟨⟨fs, hi⟩, q⟩, p, px⟩ := h
  obtain ⟨a, da, fvs, rfl, ha, rf⟩ := ins_of ok hdx hi
  obtain rfl : u = Value.ref a := rx
  obtain ⟨_, O, _⟩ := ins_get I.hok ha
  obtain ⟨_, J, _⟩ := O.look
  obtain ⟨m, hF⟩ := I.fr
  refine PySem.W.ksp_neg hF I.ok.mod.kin J hs hf ?_
  exact run_D (us := [.ref a]) (vs := [.ref a]) (ws := []) (zs := []) F hr hb hx I (.cons rfl .nil) .nil ⟨s0, [dx], [], kk, xx, rfl, ok, .cons hdx .nil, .nil, rfl, rfl, rfl, q, p, px⟩
/-- the left value's class decides -/
def dSel (own f : D2) : D2 := fun x y M k xx => match insOf x M with
  | some _ => own x y M k xx
  | none => f x y M k xx
def dSel1 (own f : D1) : D1 := fun x M k xx => match insOf x M with
  | some _ => own x M k xx
  | none => f x M k xx
theorem o_sel {g : Value → Value → Sem Value} {own f : D2} (h1 : OpR X g (r2 X.K E own)) (h2 : OpR X g (r2 X.K E f)) : OpR X g (r2 X.K E (dSel own f)) := by
  intro pins s σ H x y u v Q I rx ry h
  obtain ⟨s0, dx, dy, kk, xx, rfl, ok, hdx, hdy, q, p, px⟩ := h
  unfold dSel at q
  split at q
  · exact h1 pins s σ _ x y u v Q I rx ry ⟨s0, dx, dy, kk, xx, rfl, ok, hdx, hdy, q, p, px⟩
  · exact h2 pins s σ _ x y u v Q I rx ry ⟨s0, dx, dy, kk, xx, rfl, ok, hdx, hdy, q, p, px⟩
theorem o_sel1 {g : Value → Sem Value} {own f : D1} (h1 : UnR X g (r1 X.K E own)) (h2 : UnR X g (r1 X.K E f)) : UnR X g (r1 X.K E (dSel1 own f)) := by
  intro pins s σ H x u Q I rx h
  obtain ⟨s0, dx, kk, xx, rfl, ok, hdx, q, p, px⟩ := h
  unfold dSel1 at q
  split at q
  · exact h1 pins s σ _ x u Q I rx ⟨s0, dx, kk, xx, rfl, ok, hdx, q, p, px⟩
  · exact h2 pins s σ _ x u Q I rx ⟨s0, dx, kk, xx, rfl, ok, hdx, q, p, px⟩
/-- x == y by the class's own __eq__ -/
theorem o_ownEq (hs : PySem.W.findIn X.K (.ref C) "__eq__" = some (some (.ref f))) (hf : PySem.W.isFn X.K (.ref f) = true) (F : FnOk X.prog X.w X.K X.mg X.base CX k f fd ps (spD X.K 2 φ)) (hb : KBd X.K fd ps 2 [] (fun us _ => us)) (hr : Room k X.A) (hx : Passes CX X E) :
    OpR X (compareOp .Eq) (r2 X.K E (dOwn2 C φ)) := by
  intro pins s σ H x y u v Q I rx ry h
  obtain ⟨s0, dx, dy, kk, xx, rfl, ok, hdx, hdy, ⟨⟨fs, hi⟩, ⟨fs', hi'⟩, q⟩, p, px⟩ := h
  obtain ⟨a, da, fvs, rfl, ha, rf⟩ := ins_of ok hdx hi
  obtain ⟨b, db, fvs', rfl, hb', rf'⟩ := ins_of ok hdy hi'
  obtain rfl : u = Value.ref a := rx
  obtain rfl : v = Value.ref b := ry
  obtain ⟨_, O, _⟩ := ins_get I.hok ha
  obtain ⟨_, O', _⟩ := ins_get I.hok hb'
  obtain ⟨_, J, _⟩ := O.look
  obtain ⟨_, J', _⟩ := O'.look
  obtain ⟨m, hF⟩ := I.fr
  show wpAny _ _ (richCompare .Eq _ _) _ _ _
  refine PySem.W.cmp_K (op := .Eq) (tb := .ref C) hr.units0 hF I.ok.mod.kin J J'.type (by unfold PySem.W.notFirst; simp) hs hf ?_
  refine wpAny_mono (run_D (us := [.ref a, .ref b]) (vs := [.ref a, .ref b]) (ws := []) (zs := []) F hr hb hx I (.cons rfl (.cons rfl .nil)) .nil ⟨s0, [dx, dy], [], kk, xx, rfl, ok, .cons hdx (.cons hdy .nil), .nil, rfl, rfl, rfl, q, p, px⟩) (fun w s' z => ?_) fun _ _ x => x
  obtain ⟨z', H', I', rz, qz⟩ := z
  exact SlX.cmpback rz ⟨z', H', I', rz, qz⟩
/-! ### the truth of an instance -/
def dTru (C : Addr) (φ : Ct) (τ : DE) : DT := fun ρ M k x => τ ρ M (fun u M1 => (∃ fs, insOf u M1 = some (C, fs)) ∧ φ [u] M1 (fun r M2 => ∃ b, r = .bl b ∧ k b M2) x) x
theorem t_own (hs : PySem.W.findIn X.K (.ref C) "__bool__" = some (some (.ref f))) (hf : PySem.W.isFn X.K (.ref f) = true) (F : FnOk X.prog X.w X.K X.mg X.base CX k f fd ps (spD X.K 1 φ)) (hb : KBd X.K fd ps 1 [] (fun us _ => us)) (hr : Room k X.A) (hx : Passes CX X E)
    (h : DP X E e τ) (he : ∀ whole, isTrue e X.env whole = (do let v ← whole; standAt e.pos; holding [v] (truthy v)) := by intro _; rfl) : DPT X E e (dTru C φ τ) := by
  refine ⟨fun pins s σ H Q I hh => ?_⟩
  obtain ⟨ρ, s0, kk, xx, rfl, er, q, pp, px⟩ := hh
  refine isTrue_plain (thn (h.run pins s σ s0.H (fun v H1 => ∃ s1 d, s1.H = H1 ∧ Ok X.K s1 ∧ Step s0 s1 ∧ Rep X.K s1.G v d ∧ (∃ fs, insOf d s1.M = some (C, fs)) ∧ φ [d] s1.M (fun r M2 => ∃ b, r = .bl b ∧ kk b M2) xx) I
    ⟨ρ, s0, _, xx, rfl, er, q, fun d s1 q1 st1 ok1 v1 r1 => ⟨s1, d, rfl, ok1, st1, r1, q1⟩, px⟩) fun u s1 ⟨x, H1, I1, rx, sa, d, e1, oka, sta, ra, ⟨fs, hi⟩, q1⟩ => ?_) (he _)
  subst e1
  obtain ⟨a, dx, fvs, ex, hha, rf⟩ := ins_of oka ra hi
  subst ex
  obtain rfl : u = Value.ref a := rx
  obtain ⟨_, O, _⟩ := ins_get I1.hok hha
  obtain ⟨_, J, _⟩ := O.look
  obtain ⟨m, hF⟩ := I1.fr
  refine PySem.W.truthy_K hF I1.ok.mod.kin J hs hf ?_
  refine wpAny_mono (run_D (Q := fun v H' => ∃ b, v = .bl b ∧ Q b H') (us := [.ref a]) (vs := [.ref a]) (ws := []) (zs := []) F hr hb hx I1 (.cons rfl .nil) .nil ⟨sa, [d], [], _, xx, rfl, oka, .cons ra .nil, .nil, rfl, rfl, rfl, q1, ?_, px.step sta⟩) (fun w s' z => ?_) fun _ _ x => x
  · rintro r t ⟨b, rfl, qb⟩ st okt v rv
    cases rv
    exact ⟨b, rfl, pp b t qb (sta.trans st) okt⟩
  · obtain ⟨z', H', I', rz, b, rfl, qz⟩ := z
    cases (show w = Value.bool b from rz)
    exact ⟨H', I', qz⟩
/-! ### xs[::-1] -/
def dRev : D1
  | .lst ds, M, k, _ => k (.lst ds.reverse) M
  | .cel a, M, k, _ => ∃ ds, M a = some (.lst ds) ∧ k (.lst ds.reverse) M
  | _, _, _, _ => False
theorem Reps.reverse {K : PySem.W.Frag} {G : Hp} : ∀ {vs : List V} {ds : List D}, Reps K G vs ds → Reps K G vs.reverse ds.reverse
  | _, _, .nil => .nil
  | _, _, .cons h r => by
    rw [List.reverse_cons, List.reverse_cons]
    exact (Reps.reverse r).append (.cons h .nil)
theorem d_rev {kk : Nat} {p1 p2 p3 : Pos} (he : DP X E e τ) : DP X E (.Subscript e (.Slice none none (some (.UnaryOp .USub (.Constant (.int 1) kk p1) p2)) p3) pos) (dUn dRev τ) := pe_mono (pe_revL he) fun σ H Q h => by
  obtain ⟨ρ, s, k, x, rfl, er, q, p, px⟩ := h
  refine ⟨ρ, s, _, x, rfl, er, q, fun u s1 q1 st1 ok1 v1 r1 => ?_, px⟩
  have q1 : dRev u s1.M k x := q1
  unfold dRev at q1
  split at q1
  · obtain ⟨a, vs, rfl, ha, rs⟩ := r1.lst_of
    exact ⟨a, vs, rfl, .of (ok1.sub _ _ ha), fun t ht => (p.step st1).lst q1 ok1 rs.reverse ht⟩
  · obtain ⟨ds, hm, q1⟩ := q1
    obtain ⟨vs, ho, rs⟩ := ok1.cells _ _ hm
    exact ⟨_, vs, r1.cel_of, .of ho, fun t ht => (p.step st1).lst q1 ok1 rs.reverse ht⟩
  · exact q1.elim
end
end DL
set_option Elab.async false
set_option linter.all false
set_option maxRecDepth 100000
set_option maxHeartbeats 2000000
namespace DL
open PySem PySem.Spec PyProof.Rows L2
/-! ### defaults -/
def pickI {α : Type} (xs : List α) : List Nat → List α
  | [] => []
  | i :: r => (match xs[i]? with | some u => [u] | none => []) ++ pickI xs r
theorem pickI_vals {vs : List V} {us : List Value} (r : Vals vs us) : ∀ l, Vals (pickI vs l) (pickI us l)
  | [] => .nil
  | i :: l => by
    refine Vals.append ?_ (pickI_vals r l)
    cases e : vs[i]? with
    | none => rw [r.none_of e]; exact .nil
    | some v => obtain ⟨u, h1, h2⟩ := r.get e; rw [h1]; exact .cons h2 .nil
theorem pickI_reps {K : PySem.W.Frag} {G : Hp} {vs : List V} {us : List D} (r : Reps K G vs us) : ∀ l, Reps K G (pickI vs l) (pickI us l)
  | [] => .nil
  | i :: l => by
    refine Reps.append ?_ (pickI_reps r l)
    cases e : vs[i]? with
    | none => rw [r.noneD e]; exact .nil
    | some v => obtain ⟨u, h1, h2⟩ := r.getV e; rw [h1]; exact .cons h2 .nil
section
variable {K : PySem.W.Frag} {x qual : Str} {params : Arguments} {body : List Stmt} {scope : Scope} {dvs : List V} {kws : List (Str × V)} {f : Addr} {fd : FuncData} {ps : List Str}
/-- positional defaults, no keyword-only ones: places in (positional ++ defaults ++ keywords) -/
theorem kbd_dflt (F : FunD K x qual params body scope dvs kws f fd) (n : Nat) (ks : List Str) (l : List Nat) (dD : List D) (hd : dvs ≠ []) (hD : ∀ G, Reps K G dvs dD)
    (h : ∀ (T : Addr) (kV doc pm : Value) (an : Option Addr) (cdv ct : Value) (us its ws : List Value), us.length = n → its.length = dvs.length → ws.length = ks.length →
      ∃ k, bindArgs (PySem.W.fnOf x qual params body scope (.ref T) kV doc pm an cdv ct) ⟨us, ks.zip ws⟩ = seqItems? (.ref T) >>= k ∧ k (some its.toArray) = pure (ps.zip (pickI (us ++ its ++ ws) l))) :
    KBd K fd ps n ks (fun us ws => pickI (us ++ dD ++ ws) l) := by
  obtain ⟨its, h⟩ := F.kbindsD n ks (fun us ds ws => pickI (us ++ ds ++ ws) l) hd (fun r1 r2 r3 => pickI_vals ((r1.append r2).append r3) l) h
  exact ⟨_, _, h, fun r1 r2 _ _ => pickI_reps ((r1.append (hD _)).append r2) l⟩
/-- keyword-only defaults, no positional ones -/
theorem kbd_kwo (F : FunD K x qual params body scope [] kws f fd) (n : Nat) (ks : List Str) (ms : List (Str × V)) (l : List Nat) (mD : List D) (hk : kws ≠ []) (hms : ∀ q ∈ ms, q ∈ kws) (hD : ∀ G, Reps K G (ms.map (·.2)) mD)
    (h : ∀ (D : Addr) (doc pm : Value) (an : Option Addr) (cdv ct : Value) (us mv ws : List Value), us.length = n → mv.length = ms.length → ws.length = ks.length →
      KwChain D ((ms.map (·.1)).zip mv) (bindArgs (PySem.W.fnOf x qual params body scope .none (.ref D) doc pm an cdv ct) ⟨us, ks.zip ws⟩) (ps.zip (pickI (us ++ mv ++ ws) l))) :
    KBd K fd ps n ks (fun us ws => pickI (us ++ mD ++ ws) l) := by
  obtain ⟨mv, h⟩ := F.kbinds0 n ks ms (fun us mv ws => pickI (us ++ mv ++ ws) l) hk hms (fun r1 r2 r3 => pickI_vals ((r1.append r2).append r3) l) h
  exact ⟨_, _, h, fun r1 r2 _ _ => pickI_reps ((r1.append (hD _)).append r2) l⟩
/-- both -/
theorem kbd_both (F : FunD K x qual params body scope dvs kws f fd) (n : Nat) (ks : List Str) (ms : List (Str × V)) (l : List Nat) (dD mD : List D) (hd : dvs ≠ []) (hk : kws ≠ []) (hms : ∀ q ∈ ms, q ∈ kws) (hdD : ∀ G, Reps K G dvs dD) (hD : ∀ G, Reps K G (ms.map (·.2)) mD)
    (h : ∀ (T D : Addr) (doc pm : Value) (an : Option Addr) (cdv ct : Value) (us its mv ws : List Value), us.length = n → its.length = dvs.length → mv.length = ms.length → ws.length = ks.length →
      ∃ k, bindArgs (PySem.W.fnOf x qual params body scope (.ref T) (.ref D) doc pm an cdv ct) ⟨us, ks.zip ws⟩ = seqItems? (.ref T) >>= k ∧ KwChain D ((ms.map (·.1)).zip mv) (k (some its.toArray)) (ps.zip (pickI (us ++ its ++ mv ++ ws) l))) :
    KBd K fd ps n ks (fun us ws => pickI (us ++ dD ++ mD ++ ws) l) := by
  obtain ⟨its, mv, h⟩ := F.kbinds n ks ms (fun us ds mv ws => pickI (us ++ ds ++ mv ++ ws) l) hd hk hms (fun r1 r2 r3 r4 => pickI_vals (((r1.append r2).append r3).append r4) l) h
  exact ⟨_, _, h, fun r1 r2 _ _ => pickI_reps (((r1.append (hdD _)).append (hD _)).append r2) l⟩
end
theorem fund_mkD {K : PySem.W.Frag} {x qual : Str} {params : Arguments} {body : List Stmt} {scope : Scope} {f T : Addr} {oc oc' : Value} {od od' an : Option Addr} {osl osl' : Array (Option Value)} {kV doc pm cdv ct : Value} {its : Array Value} {n : Nat} {dvs : List V}
    (l : K.lookup f = some ⟨oc, od, .func (PySem.W.fnOf x qual params body scope (.ref T) kV doc pm an cdv ct), osl⟩) (lT : K.lookup T = some ⟨oc', od', .seq its n, osl'⟩)
    (c : PySem.W.codeIn K cdv qual = true) (k : PySem.W.keepIn K (.ref f) = true) (hd : dvs ≠ []) (r : Vals dvs its.toList) : FunD K x qual params body scope dvs [] f (PySem.W.fnOf x qual params body scope (.ref T) kV doc pm an cdv ct) :=
  ⟨⟨oc, od, .ref T, kV, doc, pm, an, cdv, ct, osl, rfl, l, c, .inr ⟨hd, T, _, its.toList, n, rfl, lT, by simp, r⟩, .inl rfl⟩, k⟩
theorem fund_mkK {K : PySem.W.Frag} {x qual : Str} {params : Arguments} {body : List Stmt} {scope : Scope} {f D : Addr} {oc : Value} {od an : Option Addr} {osl : Array (Option Value)} {doc pm cdv ct : Value} {kws : List (Str × V)}
    (l : K.lookup f = some ⟨oc, od, .func (PySem.W.fnOf x qual params body scope .none (.ref D) doc pm an cdv ct), osl⟩)
    (c : PySem.W.codeIn K cdv qual = true) (k : PySem.W.keepIn K (.ref f) = true) (r : ∀ q ∈ kws, ∃ u, PySem.W.nsIn K D q.1 = some (some u) ∧ RelV q.2 u) : FunD K x qual params body scope [] kws f (PySem.W.fnOf x qual params body scope .none (.ref D) doc pm an cdv ct) :=
  ⟨⟨oc, od, .none, .ref D, doc, pm, an, cdv, ct, osl, rfl, l, c, .inl ⟨rfl, rfl⟩, .inr ⟨D, rfl, r⟩⟩, k⟩

def dBoolF : DN
  | [.bl b], M, k, _ => k (.bl b) M
  | [.int i], M, k, _ => k (.bl (i != 0)) M
  | _, _, _, _ => False
section
variable {X : Cx} {E : XK} {C f : Addr} {fd : FuncData} {ps : List Str} {φ : Ct} {k : Nat} {m : Str} {pos : Pos} {e : Expr} {τ : DE}
theorem c_bool : CallR X (.type "bool") (rA X.K E dBoolF) := by
  intro pins s σ H xs us Q I r h
  obtain ⟨s0, ds, k, xx, rfl, ok, hx, q, p, px⟩ := h
  unfold dBoolF at q
  split at q
  · obtain ⟨v, rfl, rv⟩ := hx.one
    cases rv
    exact call_bool1 pins s σ _ _ us Q I r (.inr ⟨_, rfl, p.now q ok .bl⟩)
  · obtain ⟨v, rfl, rv⟩ := hx.one
    cases rv
    exact call_bool1 pins s σ _ _ us Q I r (.inl ⟨_, rfl, p.now q ok .bl⟩)
  · exact q.elim
theorem d_propE (he : DP X E e τ) (c : Cls X.K C) (hp : ∃ pa, PropOf X.K C m pa f) (F : FnOk X.prog X.w X.K X.mg X.base (L2.CX X.prog X.w) k f fd ps (spD X.K 1 φ)) (hr : Room (k + 1) X.A) (hb : Binds X.K fd ps [])
    (hab : attributeBase e m X.env (eval e X.env) = eval e X.env := by rfl) : DP X E (.Attribute e m pos) (dUn (dPropR C φ) τ) := by
  obtain ⟨pa, hp⟩ := hp
  exact d_prop he c hp F hr hb hab
theorem one_cls {K : PySem.W.Frag} (c : Cls K C) (n : NoAttr K C m) : ∀ C' ∈ [C], Cls K C' ∧ NoAttr K C' m := fun C' h => by
  cases List.mem_singleton.mp h
  exact ⟨c, n⟩
end
/-- readings' small steps -/
theorem fldK {C : Addr} {CS : List Addr} {f : Str} {fs : List (Str × D)} {d : D} {M : Mm} {k : DK} {x : DX} (hC : C ∈ CS) (hl : fs.lookup f = some d) (q : k d M) : dFld CS f (.obj C fs) M k x := ⟨C, fs, d, rfl, hC, hl, q⟩

theorem all_cs1 {p : Addr → Prop} {a : Addr} (h1 : p a) : ∀ C ∈ [a], p C := fun C h => by cases List.mem_singleton.mp h; exact h1
theorem all_cons {p : Addr → Prop} {a : Addr} {l : List Addr} (h1 : p a) (h2 : ∀ C ∈ l, p C) : ∀ C ∈ a :: l, p C := fun C h => by
  rcases List.mem_cons.mp h with e | e
  · cases e; exact h1
  · exact h2 C e
theorem all_cs2 {p : Addr → Prop} {a b : Addr} (h1 : p a) (h2 : p b) : ∀ C ∈ [a, b], p C := all_cons h1 (all_cs1 h2)
theorem all_cs3 {p : Addr → Prop} {a b c : Addr} (h1 : p a) (h2 : p b) (h3 : p c) : ∀ C ∈ [a, b, c], p C := all_cons h1 (all_cs2 h2 h3)
theorem all_cs4 {p : Addr → Prop} {a b c d : Addr} (h1 : p a) (h2 : p b) (h3 : p c) (h4 : p d) : ∀ C ∈ [a, b, c, d], p C := all_cons h1 (all_cs3 h2 h3 h4)
/-! ### isinstance, by the classes' orders -/
theorem kit_same {K : PySem.W.Frag} {C : Addr} : PySem.W.kitOne K (.ref C) (.ref C) = some true := by
  unfold PySem.W.kitOne
  rw [if_pos (by simp)]
theorem kit_in {K : PySem.W.Frag} {t : Value} {C : Addr} {b : Bool} (hc : PySem.W.isClsIn K C = true) (ht : PySem.W.typeIn K (.ref C) = some (.type "type")) (hs : PySem.W.subIn K t (.ref C) = some b) (hb : (t == Value.ref C) = false) : PySem.W.kitOne K t (.ref C) = some b := by
  unfold PySem.W.kitOne PySem.W.kitCls
  rw [hb]
  unfold PySem.W.isClsIn at hc
  simp [hc, ht, hs]
theorem kit_ne {C C' : Addr} (h : C ≠ C') : (Value.ref C == Value.ref C') = false := by
  simp [h]
theorem kit_ty' {C : Addr} {n : String} : (Value.type n == Value.ref C) = false := by simp
theorem kit_to {K : PySem.W.Frag} {C : Addr} {T : String} {b : Bool} (hm : PySem.W.kitMeta T = true) (hs : PySem.W.subIn K (.ref C) (.type T) = some b) : PySem.W.kitOne K (.ref C) (.type T) = some b := by
  unfold PySem.W.kitOne PySem.W.kitCls
  rw [if_neg (by simp)]
  simp [hm, hs]
theorem kd_true {C : Addr} : some true = some (decide (C = C)) := by simp
theorem kd_false {C D : Addr} (h : C ≠ D) : some false = some (decide (C = D)) := by simp [h]

/-! ### return, the def's own cells forgotten -/
def mres (M m0 : Mm) : Mm := fun a => if (m0 a).isSome = true then M a else none
theorem mres_mup {M : Mm} {p : Addr} {o : MO} (h : M p = none) : mres (mup M p o) M = M := by
  funext a
  unfold mres mup
  by_cases e : a = p
  · subst e; simp [h]
  · rw [if_neg e]
    cases ea : M a <;> simp
theorem mres_self {M : Mm} : mres M M = M := by
  funext a
  unfold mres
  cases ea : M a <;> simp
theorem Ok.res {K : PySem.W.Frag} {b s : Sta} (k : Ok K s) (st : Step b s) : Ok K ⟨s.H, s.G, mres s.M b.M⟩ ∧ Step b ⟨s.H, s.G, mres s.M b.M⟩ := by
  have up : ∀ a mo, mres s.M b.M a = some mo → s.M a = some mo := fun a mo e => by
    unfold mres at e
    split at e
    · exact e
    · cases e
  refine ⟨⟨k.sub, fun a mo e => k.apart a mo (up a mo e), fun a mo e => k.cells a mo (up a mo e)⟩, ⟨st.same, fun a h => ?_, fun a o h1 h2 h3 => ?_⟩⟩
  · show (mres s.M b.M a).isSome = true
    unfold mres
    rw [if_pos h]
    exact st.dom a h
  · obtain ⟨x1, x2, x3⟩ := st.hid a o h1 h2 h3
    refine ⟨x1, x2, ?_⟩
    show mres s.M b.M a = none
    unfold mres
    split
    · exact x3
    · rfl
def dRetD (τ : DE) : DS := fun k x ρ M => τ ρ M (fun u M1 => k.rt u (mres M1 k.m0)) x
theorem s_retD {X : Cx} {E : XK} {e : Expr} {pos : Pos} {τ : DE} (he : DP X E e τ) : DPS X E (.Return (some e) pos) (dRetD τ) := ps_mono (ps_ret he) fun D σ H h => by
  obtain ⟨ρ, s, k, x, rfl, er, q, p, px⟩ := h
  obtain ⟨b, sb, ob, mb, pb⟩ := p.rt
  refine ⟨ρ, s, _, x, rfl, er, q, fun u s1 q1 st1 ok1 v1 r1 => ?_, px⟩
  have st : Step b s1 := sb.trans st1
  obtain ⟨k2, st2⟩ := ok1.res st
  exact pb u ⟨_, _, _⟩ (by rw [mb]; exact q1) st2 k2 v1 r1
end DL
set_option Elab.async false
set_option linter.all false
set_option maxRecDepth 100000
set_option maxHeartbeats 2000000
namespace DX
open PySem PySem.SeqAt
open AutoSeq1 (wpAny_loadPart')
open MeetsSeq MeetsSeq2 MeetsSeq3 SeqRoads2
section
variable {prog : Program} {w : World} {A : Around} {R : Result → Shared → Prop}
/-- two tuples of two items: the first items' answer decides whether the second ones are asked -/
theorem pair_eq {l b : Addr} {u1 u2 v1 v2 : Value} {n n2 : Nat} {dd dd2 : Option Addr} {sl sl2 : Array (Option Value)} {s : Shared}
    (hl : s.heap.get? l = some { cls := .type "tuple", dict := dd, data := .seq #[u1, u2] n, slots := sl }) (hb : s.heap.get? b = some { cls := .type "tuple", dict := dd2, data := .seq #[v1, v2] n2, slots := sl2 })
    (h : wpAny (model prog w) A.in1 (eqBool u1 v1) (fun r s' => (r = false ∧ R (.ok (.ret (.bool false))) s') ∨ (r = true ∧
      wpAny (model prog w) A.in1 (eqBool u2 v2) (fun r s' => R (.ok (.ret (.bool r))) s') (fun e s' => R (.error e) s') s')) (fun e s' => R (.error e) s') s) :
    wpAny (model prog w) A.in1 (Builtin.«tuple.__eq__» ⟨[.ref l, .ref b], []⟩) (GQ.FinOf prog w A R) (fun e s' => R (.error e) s') s := by
  have f2 := AutoSeq1.sub_tuple_tuple
  have start := h
  obtain ⟨hp, gg, dr, tk, os⟩ := s
  wp_walk using wpAny_loadPart' hl, wpAny_loadPart' hb, wpAny_forIn_list _ (fun rest st s' => st.1 = none ∧
    ((rest = [(u1, v1), (u2, v2)] ∧ wpAny (model prog w) A.in1 (eqBool u1 v1) (fun r s' => (r = false ∧ R (.ok (.ret (.bool false))) s') ∨ (r = true ∧
        wpAny (model prog w) A.in1 (eqBool u2 v2) (fun r s' => R (.ok (.ret (.bool r))) s') (fun e s' => R (.error e) s') s')) (fun e s' => R (.error e) s') s') ∨
      (rest = [(u2, v2)] ∧ wpAny (model prog w) A.in1 (eqBool u2 v2) (fun r s' => R (.ok (.ret (.bool r))) s') (fun e s' => R (.error e) s') s') ∨ (rest = [] ∧ R (.ok (.ret (.bool true))) s'))) _
  case turn =>
    rintro ⟨y, x⟩ rest st s' ⟨hst, ⟨hz, hw⟩ | ⟨hz, hw⟩ | ⟨hz, hw⟩⟩
    · cases hz
      refine wpAny_bind (wpAny_mono hw (fun r s2 q => ?_) fun _ _ x => x)
      rcases q with ⟨rfl, q⟩ | ⟨rfl, q⟩
      · wp_walk
        exact q
      · wp_walk
        exact ⟨rfl, .inr (.inl ⟨rfl, q⟩)⟩
    · cases hz
      refine wpAny_bind (wpAny_mono hw (fun r s2 q => ?_) fun _ _ x => x)
      cases r with
      | false =>
        wp_walk
        exact q
      | true =>
        wp_walk
        exact ⟨rfl, .inr (.inr ⟨rfl, q⟩)⟩
    · cases hz
  case fin =>
    rintro ⟨b1, b2⟩ s' ⟨hst, ⟨hz, hw⟩ | ⟨hz, hw⟩ | ⟨hz, hw⟩⟩
    · cases hz
    · cases hz
    · simp only at hst
      subst hst
      wp_walk
      exact hw
  case h => exact ⟨rfl, .inl ⟨rfl, start⟩⟩
theorem eq_self {a : Addr} {E : Value → Shared → Prop} {s : Shared} {Q : Bool → Shared → Prop} (h : Q true s) : wpAny (model prog w) A (eqBool (.ref a) (.ref a)) Q E s := by
  unfold eqBool
  refine wpAny_holding ?_
  refine wpAny_ite_split (fun _ => ?_) (fun z => absurd (beq_self_eq_true _) z)
  wp_walk
  exact h
theorem rc_pair {l b : Addr} {u1 u2 v1 v2 : Value} {E : Value → Shared → Prop} {s : Shared} {Q : Value → Shared → Prop} (hu : A.units < cLine) (hl : s.heap.IsTuple l #[u1, u2]) (hb : s.heap.IsTuple b #[v1, v2])
    (h : wpAny (model prog w) A.in1 (eqBool u1 v1) (fun r s' => (r = false ∧ Q (.bool false) s') ∨ (r = true ∧ wpAny (model prog w) A.in1 (eqBool u2 v2) (fun r s' => Q (.bool r) s') E s')) E s) :
    wpAny (model prog w) A (richCompare .Eq (.ref l) (.ref b)) Q E s := by
  obtain ⟨⟨c1, x1, y1, z1⟩, g1, e1, m1, d1⟩ := id hl
  obtain ⟨⟨c2, x2, y2, z2⟩, g2, e2, m2, d2⟩ := id hb
  simp only at e1 d1 e2 d2
  subst e1 d1 e2 d2
  refine wpAny_richCompare_same_room (op := .Eq) ⟨_, g1, rfl⟩ ⟨_, g2, rfl⟩ PySem.F.slot_tuple_eq (GQ.call_here PySem.F.slot_tuple_eq ⟨_, g1, rfl⟩ PySem.F.entry_tuple_eq (PySem.F.args_tuple_eq_2 _ _) ?_) hu
  refine pair_eq (R := wants (fun v s' => v ≠ .notImplemented ∧ Q v s') E) g1 g2 (wpAny_mono h (fun r s' q => ?_) fun _ _ x => x)
  rcases q with ⟨rfl, q⟩ | ⟨rfl, q⟩
  · exact .inl ⟨rfl, nofun, q⟩
  · exact .inr ⟨rfl, wpAny_mono q (fun r s2 q => ⟨nofun, q⟩) fun _ _ x => x⟩
end
end DX
namespace DL
open PySem PySem.Spec PyProof.Rows L2
def flatF (fs : List (Str × D)) : Bool := fs.all fun f => flatD f.2
theorem Rep.flat_inj {K : PySem.W.Frag} {G : Hp} {v : V} {d d' : D} (h : Rep K G v d) (h' : Rep K G v d') (f : flatD d = true) (f' : flatD d' = true) : d = d' := by
  cases h <;> cases f <;> cases h' <;> first | rfl | cases f'
theorem FRep.flat_inj {K : PySem.W.Frag} {G : Hp} : ∀ {vs : List (Str × V)} {ds es : List (Str × D)}, FRep K G vs ds → FRep K G vs es → flatF ds = true → flatF es = true → ds = es
  | _, _, _, .nil, .nil, _, _ => rfl
  | _, _, _, .cons h r, .cons h' r', f, f' => by
    unfold flatF at f f'
    rw [List.all_cons, Bool.and_eq_true] at f f'
    rw [h.flat_inj h' f.1 f'.1, FRep.flat_inj r r' f.2 f'.2]
section
variable {X : Cx} {E : XK} {k : Nat} {f C : Addr} {fd : FuncData} {ps : List Str} {φ : Ct}
/-- == of two pairs (instance with an own __eq__, int) -/
def dEqT (C : Addr) (φ : Ct) : D2 := fun x y M k xx => ∃ fs gs i j, x = .tup [.obj C fs, .int i] ∧ y = .tup [.obj C gs, .int j] ∧ flatF fs = true ∧ flatF gs = true ∧ (fs = gs → k (.bl (decide (i = j))) M) ∧
  φ [.obj C fs, .obj C gs] M (fun r M1 => ∃ b, r = .bl b ∧ k (.bl (b && decide (i = j))) M1) (fun _ _ _ => False)
theorem o_eqT (hs : PySem.W.findIn X.K (.ref C) "__eq__" = some (some (.ref f))) (hf : PySem.W.isFn X.K (.ref f) = true) (F : FnOk X.prog X.w X.K X.mg X.base (L2.CX X.prog X.w) k f fd ps (spD X.K 2 φ)) (hb : Binds X.K fd ps []) (hr : Room (k + 1) X.A) :
    OpR X (compareOp .Eq) (r2 X.K E (dEqT C φ)) := by
  intro pins s σ H x y u v Q I rx ry h
  obtain ⟨s0, dx, dy, kk, xx, rfl, ok, hdx, hdy, ⟨fs, gs, i, j, rfl, rfl, f1, f2, qs, q⟩, p, px⟩ := h
  obtain ⟨l, vs, rfl, hl, rl⟩ := hdx.tup_of
  obtain ⟨b, ws, rfl, hb', rb⟩ := hdy.tup_of
  obtain ⟨v1, v2, rfl, r1, r2⟩ := rl.two
  obtain ⟨w1, w2, rfl, r3, r4⟩ := rb.two
  obtain rfl : u = Value.ref l := rx
  obtain rfl : v = Value.ref b := ry
  obtain ⟨a, da, fv, rfl, ha, rfa⟩ := r1.obj_of
  obtain ⟨c, dc, gv, rfl, hc, rfc⟩ := r3.obj_of
  cases r2.int_of
  cases r4.int_of
  have ha' := ok.sub _ _ ha
  have hc' := ok.sub _ _ hc
  obtain ⟨its, rv, pl, hz⟩ := I.tuple (Same.seqT ok.sub hl)
  obtain ⟨jts, rw', pl', hz'⟩ := I.tuple (Same.seqT ok.sub hb')
  obtain ⟨u1, u2, rfl, ru1, ru2⟩ := rv.two
  obtain ⟨z1, z2, rfl, rz1, rz2⟩ := rw'.two
  obtain rfl : u1 = Value.ref a := ru1
  obtain rfl : z1 = Value.ref c := rz1
  obtain ⟨t1, rfl⟩ := ru2
  obtain ⟨t2, rfl⟩ := rz2
  have hr' : Room k X.A.in1 := Room.in1 hr
  show wpAny _ _ (richCompare .Eq _ _) _ _ _
  refine DX.rc_pair hr.units0 (show s.heap.IsTuple l _ from pl) (show s.heap.IsTuple b _ from pl') ?_
  have ij : (i == j) = decide (i = j) := rfl
  by_cases e : a = c
  · subst e
    rw [ha] at hc
    cases hc
    have e2 := rfa.flat_inj rfc f1 f2
    refine DX.eq_self (.inr ⟨rfl, wpAny_eqBool_int ?_⟩)
    rw [ij]
    exact ⟨.bl _, s0.H, I, rfl, p.now (qs e2) ok .bl⟩
  · refine GQ.eqBool_refG e ?_
    obtain ⟨_, O, _⟩ := ins_get I.hok ha'
    obtain ⟨_, O', _⟩ := ins_get I.hok hc'
    obtain ⟨_, J, _⟩ := O.look
    obtain ⟨_, J', _⟩ := O'.look
    obtain ⟨m, hF⟩ := I.fr
    refine PySem.W.cmp_K (op := .Eq) (tb := .ref C) hr'.units0 hF I.ok.mod.kin J J'.type (by unfold PySem.W.notFirst; simp) hs hf ?_
    have FR := F.raw hb .nil
    refine wpAny_mono (wpAny_call (SlX.run_at (Q := fun v H' => ∃ b, v = .bl b ∧ Q (.bl (b && decide (i = j))) H') (us := [.ref a, .ref c]) (ws := [.ref a, .ref c]) FR hr' I.env0.in1 (E := fun _ _ _ => False) (CX := L2.CX X.prog X.w) ?_ I (.cons rfl (.cons rfl .nil)) ⟨s0, [.obj C fs, .obj C gs], _, _, rfl, ok, .cons r1 (.cons r3 .nil), rfl, q, ?_, PostX.never⟩)) (fun w s' z => ?_) fun _ _ x => x
    · intro pins σ H s e s' I h
      obtain ⟨_, _, _, _, _, _, _, _, _, _, _, _, z⟩ := h
      exact z.elim
    · rintro d t ⟨bb, rfl, qb⟩ st okt v rv
      cases rv
      exact ⟨bb, rfl, p _ t qb st okt _ .bl⟩
    · obtain ⟨z', H', I', rz, bb, rfl, qz⟩ := z
      cases (show w = Value.bool bb from rz)
      refine ⟨bb, rfl, ?_⟩
      cases bb with
      | false => exact .inl ⟨rfl, .bl false, H', I', rfl, qz⟩
      | true =>
        refine .inr ⟨rfl, wpAny_eqBool_int ?_⟩
        rw [ij]
        exact ⟨.bl _, H', I', rfl, qz⟩
end
end DL
set_option Elab.async false
set_option linter.all false
set_option maxRecDepth 100000
set_option maxHeartbeats 2000000
namespace DL
open PySem PySem.Spec PyProof.Rows L2
section
variable {X : Cx} {CX : CXT} {E : XK} {k : Nat} {f C : Addr} {fd : FuncData} {ps : List Str} {φ : Ct} {e : Expr} {τ : DE} {pos : Pos}
/-! ### in, by the class's own __contains__ -/
def dOwnIn (neg : Bool) (C : Addr) (φ : Ct) : D2 := fun x y M k xx => (∃ fs, insOf y M = some (C, fs)) ∧ φ [y, x] M (fun r M1 => ∃ b, r = .bl b ∧ k (.bl (if neg then !b else b)) M1) xx
theorem own_in {pins : List (Addr × Obj)} {s : Shared} {σ : L2.St} {x : V} {u : Value} {Q : VK} {s0 : Sta} {dx dy : D} {kk : DK} {xx : DX} {neg : Bool} {a : Addr} (F : FnOk X.prog X.w X.K X.mg X.base CX k f fd ps (spD X.K 2 φ)) (hb : KBd X.K fd ps 2 [] (fun us _ => us)) (hr : Room k X.A) (hx : Passes CX X E)
    (I : Inv X pins σ s0.H s) (rx : RelV x u) (ok : Ok X.K s0) (hdx : Rep X.K s0.G x dx) (hdy : Rep X.K s0.G (.ref a) dy) (q : φ [dy, dx] s0.M (fun r M1 => ∃ b, r = .bl b ∧ kk (.bl (if neg then !b else b)) M1) xx) (p : Post X.K s0 kk Q) (px : PostX X.K E s0 xx) :
    wpAny (model X.prog X.w) X.A (call (.ref f) [.ref a, u]) (fun r s' => wpAny (model X.prog X.w) X.A (truthy r) (fun b => EP X pins σ Q (.bool (if neg then !b else b))) X.xe s') X.xe s := by
  refine wpAny_mono (run_D (Q := fun v H' => ∃ b, v = .bl b ∧ Q (.bl (if neg then !b else b)) H') (us := [.ref a, u]) (vs := [.ref a, x]) (ws := []) (zs := []) F hr hb hx I (.cons rfl (.cons rx .nil)) .nil ⟨s0, [dy, dx], [], _, xx, rfl, ok, .cons hdy (.cons hdx .nil), .nil, rfl, rfl, rfl, q, ?_, px⟩) (fun w s' z => ?_) fun _ _ x => x
  · rintro d t ⟨b, rfl, qb⟩ st okt v rv
    cases rv
    exact ⟨b, rfl, p _ t qb st okt _ .bl⟩
  · obtain ⟨z', H', I', rz, b, rfl, qz⟩ := z
    cases (show w = Value.bool b from rz)
    exact wpAny_truthy_bool ⟨.bl _, H', I', rfl, qz⟩
theorem o_ownIn (hs : PySem.W.findIn X.K (.ref C) "__contains__" = some (some (.ref f))) (hf : PySem.W.isFn X.K (.ref f) = true) (F : FnOk X.prog X.w X.K X.mg X.base CX k f fd ps (spD X.K 2 φ)) (hb : KBd X.K fd ps 2 [] (fun us _ => us)) (hr : Room k X.A) (hx : Passes CX X E) :
    OpR X (compareOp .In) (r2 X.K E (dOwnIn false C φ)) := by
  intro pins s σ H x y u v Q I rx ry h
  obtain ⟨s0, dx, dy, kk, xx, rfl, ok, hdx, hdy, ⟨⟨fs, hi⟩, q⟩, p, px⟩ := h
  obtain ⟨a, da, fvs, rfl, ha, rf⟩ := ins_of ok hdy hi
  obtain rfl : v = Value.ref a := ry
  obtain ⟨_, O, _⟩ := ins_get I.hok ha
  obtain ⟨_, J, _⟩ := O.look
  obtain ⟨m, hF⟩ := I.fr
  exact PySem.W.in_K hF I.ok.mod.kin J hs hf (own_in (neg := false) F hb hr hx I rx ok hdx hdy q p px)
theorem o_ownNotIn (hs : PySem.W.findIn X.K (.ref C) "__contains__" = some (some (.ref f))) (hf : PySem.W.isFn X.K (.ref f) = true) (F : FnOk X.prog X.w X.K X.mg X.base CX k f fd ps (spD X.K 2 φ)) (hb : KBd X.K fd ps 2 [] (fun us _ => us)) (hr : Room k X.A) (hx : Passes CX X E) :
    OpR X (compareOp .NotIn) (r2 X.K E (dOwnIn true C φ)) := by
  intro pins s σ H x y u v Q I rx ry h
  obtain ⟨s0, dx, dy, kk, xx, rfl, ok, hdx, hdy, ⟨⟨fs, hi⟩, q⟩, p, px⟩ := h
  obtain ⟨a, da, fvs, rfl, ha, rf⟩ := ins_of ok hdy hi
  obtain rfl : v = Value.ref a := ry
  obtain ⟨_, O, _⟩ := ins_get I.hok ha
  obtain ⟨_, J, _⟩ := O.look
  obtain ⟨m, hF⟩ := I.fr
  exact PySem.W.notIn_K hF I.ok.mod.kin J hs hf (own_in (neg := true) F hb hr hx I rx ok hdx hdy q p px)
/-- the right value's class decides: own, where it is an instance of C -/
def dSelR (C : Addr) (own g : D2) : D2 := fun x y M k xx => match insOf y M with
  | some (D, _) => if D = C then own x y M k xx else g x y M k xx
  | none => g x y M k xx
theorem o_selR {g : Value → Value → Sem Value} {own h : D2} (h1 : OpR X g (r2 X.K E own)) (h2 : OpR X g (r2 X.K E h)) : OpR X g (r2 X.K E (dSelR C own h)) := by
  intro pins s σ H x y u v Q I rx ry hh
  obtain ⟨s0, dx, dy, kk, xx, rfl, ok, hdx, hdy, q, p, px⟩ := hh
  unfold dSelR at q
  split at q
  · split at q
    · exact h1 pins s σ _ x y u v Q I rx ry ⟨s0, dx, dy, kk, xx, rfl, ok, hdx, hdy, q, p, px⟩
    · exact h2 pins s σ _ x y u v Q I rx ry ⟨s0, dx, dy, kk, xx, rfl, ok, hdx, hdy, q, p, px⟩
  · exact h2 pins s σ _ x y u v Q I rx ry ⟨s0, dx, dy, kk, xx, rfl, ok, hdx, hdy, q, p, px⟩
/-- the left value's class decides: own, where it is an instance of C -/
def dSelC (C : Addr) (own g : D2) : D2 := fun x y M k xx => match insOf x M with
  | some (D, _) => if D = C then own x y M k xx else g x y M k xx
  | none => g x y M k xx
theorem o_selC {g : Value → Value → Sem Value} {own h : D2} (h1 : OpR X g (r2 X.K E own)) (h2 : OpR X g (r2 X.K E h)) : OpR X g (r2 X.K E (dSelC C own h)) := by
  intro pins s σ H x y u v Q I rx ry hh
  obtain ⟨s0, dx, dy, kk, xx, rfl, ok, hdx, hdy, q, p, px⟩ := hh
  unfold dSelC at q
  split at q
  · split at q
    · exact h1 pins s σ _ x y u v Q I rx ry ⟨s0, dx, dy, kk, xx, rfl, ok, hdx, hdy, q, p, px⟩
    · exact h2 pins s σ _ x y u v Q I rx ry ⟨s0, dx, dy, kk, xx, rfl, ok, hdx, hdy, q, p, px⟩
  · exact h2 pins s σ _ x y u v Q I rx ry ⟨s0, dx, dy, kk, xx, rfl, ok, hdx, hdy, q, p, px⟩
/-! ### a changing list and [] -/
def dNeNil : D2 := fun x y M k _ => ∃ a ds, x = .cel a ∧ y = .lst [] ∧ M a = some (.lst ds) ∧ k (.bl (!ds.isEmpty)) M
theorem o_neNil (hu : X.A.units + 64 < cLine) : OpR X (compareOp .NotEq) (r2 X.K E dNeNil) := by
  intro pins s σ H x y u v Q I rx ry h
  obtain ⟨s0, dx, dy, kk, xx, rfl, ok, hdx, hdy, ⟨a, ds, rfl, rfl, hm, q⟩, p, px⟩ := h
  cases hdx
  obtain ⟨b, vs, rfl, hb, rs⟩ := hdy.lst_of
  cases rs
  obtain ⟨ws, ha, rw'⟩ := ok.cells _ _ hm
  obtain rfl : u = Value.ref a := rx
  obtain rfl : v = Value.ref b := ry
  obtain ⟨its, rv, pl, hz⟩ := I.list (SqL.of ha)
  obtain ⟨jts, rj, pl', hz'⟩ := I.list (SqL.of (ok.sub _ _ hb))
  cases rj
  have hl := rv.length
  have hl' := rw'.length
  show wpAny _ _ (richCompare .NotEq _ _) _ _ _
  cases ds with
  | nil =>
    have e : its = [] := List.eq_nil_of_length_eq_zero (by rw [← hl, hl']; rfl)
    subst e
    exact SeqAt.RcNeAt.lists (e := fun _ => true) pl.isList pl'.isList rfl (by omega) (fun j h1 => absurd h1 (by simp)) _ _ _ _ ⟨.bl false, s0.H, I, rfl, p.now q ok .bl⟩
  | cons d ds =>
    refine SeqAt.RcNeAt.lists_lengths pl.isList pl'.isList ?_ (by omega) _ _ _ _ ⟨.bl true, s0.H, I, rfl, p.now q ok .bl⟩
    have : its.length = ds.length + 1 := by rw [← hl, hl']; rfl
    simp [this]
/-! ### x op= e of ints -/
def dAugI (i : Nat) (g : Int → Int → Int) (τ : DE) : DS := fun k x ρ M => ∃ a, ρ[i]? = some (some (.int a)) ∧ τ ρ M (fun u M1 => ∃ b, u = .int b ∧ k.nx (ρ.set i (some (.int (g a b)))) M1) x
theorem s_augI {i : Nat} {y : Str} {op : Operator} {g : Int → Int → Int} {pos' : Pos} (ho : PIp X op (ipI g)) (hN : X.N.Nodup) (hi : X.N[i]? = some y) (hx : Loc X.env.scope y) (he : DP X E e τ) (hf : X.fn y = true ∨ X.env.scope.names.lookup y = some .local := by first | exact .inl rfl | exact .inr rfl | assumption) :
    DPS X E (.AugAssign (.Name y pos') op e pos) (dAugI i g τ) := ps_mono (ps_aug hN hi hx he ho hf) fun D σ H h => by
  obtain ⟨ρ, s, k, x, rfl, er, ⟨a, ha, q⟩, p, px⟩ := h
  obtain ⟨v, hv, rv⟩ := er.at_ _ _ ha
  cases rv.int_of
  refine ⟨.int a, hv, ρ, s, _, x, rfl, er, q, fun u s1 q1 st1 ok1 v1 r1 => ?_, px⟩
  obtain ⟨b, rfl, q1⟩ := q1
  exact ⟨a, b, rfl, r1.int_of, p.nx _ s1 q1 st1 _ ((er.step st1 ok1).set i .int)⟩
/-- xs.extend(ys) -/
def dExtend : D → List D → Mm → DK → DX → Prop
  | .cel a, [.lst es], M, k, _ => ∃ ds, M a = some (.lst ds) ∧ ds.length + es.length ≤ sizeLine ∧ k .non (mup M a (.lst (ds ++ es)))
  | _, _, _, _, _ => False
theorem m_extend : MtR X "list.extend" (rM X.K E dExtend) := by
  intro pins s σ H x xs v us Q I rx rs h
  obtain ⟨s0, dx, ds, k, xx, rfl, ok, hx, hxs, q, p, px⟩ := h
  unfold dExtend at q
  split at q
  · cases hx
    obtain ⟨ds, hm, hz, q⟩ := q
    obtain ⟨y, rfl, ry⟩ := hxs.one
    obtain ⟨b, zs, rfl, hb, rz⟩ := ry.lst_of
    obtain ⟨vs, e, r1⟩ := ok.cells _ _ hm
    obtain ⟨k4, st4⟩ := ok.put (o := .lst (vs ++ zs)) (mo := .lst (ds ++ _)) (by rw [hm]; rfl) ⟨_, rfl, r1.append rz⟩
    exact mt_extend pins s σ _ _ _ v us Q I rx rs ⟨_, b, vs, zs, rfl, rfl, e, ok.sub _ _ hb, by rw [r1.length, rz.length]; exact hz, p _ ⟨_, _, _⟩ q st4 k4 _ .non⟩
  · exact q.elim
/-! ### not e, by the class's own __bool__ -/
def dNotO (C : Addr) (φ : Ct) (τ : DE) : DE := fun ρ M k x => τ ρ M (fun u M1 => (∃ fs, insOf u M1 = some (C, fs)) ∧ φ [u] M1 (fun r M2 => ∃ b, r = .bl b ∧ k (.bl (!b)) M2) x) x
theorem d_notO (hs : PySem.W.findIn X.K (.ref C) "__bool__" = some (some (.ref f))) (hf : PySem.W.isFn X.K (.ref f) = true) (F : FnOk X.prog X.w X.K X.mg X.base CX k f fd ps (spD X.K 1 φ)) (hb : KBd X.K fd ps 1 [] (fun us _ => us)) (hr : Room k X.A) (hx : Passes CX X E)
    (h : DP X E e τ) : DP X E (.UnaryOp .Not e pos) (dNotO C φ τ) := by
  refine ⟨fun pins s σ H Q I hh => ?_⟩
  obtain ⟨ρ, s0, kk, xx, rfl, er, q, pp, px⟩ := hh
  refine UnaryOp_ (thn (h.run pins s σ s0.H (fun v H1 => ∃ s1 d, s1.H = H1 ∧ Ok X.K s1 ∧ Step s0 s1 ∧ Rep X.K s1.G v d ∧ (∃ fs, insOf d s1.M = some (C, fs)) ∧ φ [d] s1.M (fun r M2 => ∃ b, r = .bl b ∧ kk (.bl (!b)) M2) xx) I
    ⟨ρ, s0, _, xx, rfl, er, q, fun d s1 q1 st1 ok1 v1 r1 => ⟨s1, d, rfl, ok1, st1, r1, q1⟩, px⟩) fun u s1 ⟨x, H1, I1, rx, sa, d, e1, oka, sta, ra, ⟨fs, hi⟩, q1⟩ => ?_)
  subst e1
  obtain ⟨a, dx, fvs, ex, hha, rf⟩ := ins_of oka ra hi
  subst ex
  obtain rfl : u = Value.ref a := rx
  obtain ⟨_, O, _⟩ := ins_get I1.hok hha
  obtain ⟨_, J, _⟩ := O.look
  obtain ⟨m, hF⟩ := I1.fr
  refine not_of (PySem.W.truthy_K hF I1.ok.mod.kin J hs hf ?_)
  refine wpAny_mono (run_D (Q := fun v H' => ∃ b, v = .bl b ∧ Q (.bl (!b)) H') (us := [.ref a]) (vs := [.ref a]) (ws := []) (zs := []) F hr hb hx I1 (.cons rfl .nil) .nil ⟨sa, [d], [], _, xx, rfl, oka, .cons ra .nil, .nil, rfl, rfl, rfl, q1, ?_, px.step sta⟩) (fun w s' z => ?_) fun _ _ x => x
  · rintro r t ⟨b, rfl, qb⟩ st okt v rv
    cases rv
    exact ⟨b, rfl, pp _ t qb (sta.trans st) okt _ .bl⟩
  · obtain ⟨z', H', I', rz, b, rfl, qz⟩ := z
    cases (show w = Value.bool b from rz)
    exact ⟨.bl (!b), H', I', rfl, qz⟩
end
/-! ### a comprehension over a changing list -/
inductive LcKC (g : DG) (θ : DT) (ε : DE) (vs : List Nat) (ρ : DEnv) (a : Addr) (ds : List D) (M0 : Mm) (k : DK) : Prop where
  | of (hl : ds.length < sizeLine) (I : Nat → List D → Mm → Prop) (i0 : I 0 [] M0) (keep : ∀ j acc M, I j acc M → M a = some (.lst ds))
      (turn : ∀ (j : Nat) (d : D) (acc : List D) (M : Mm), ds[j]? = some d → I j acc M → g d (wipeD ρ vs) M fun ρ1 M2 => θ ρ1 M2 (fun b M3 => if b = true then ε ρ1 M3 (fun y M4 => I (j + 1) (acc ++ [y]) M4) (fun _ _ _ => False) else I (j + 1) acc M3) (fun _ _ _ => False))
      (fin : ∀ acc M, I ds.length acc M → k (.lst acc) M)
  | no (h : False)
def dLcC (τ : DE) (g : DG) (θ : DT) (ε : DE) (vs : List Nat) : DE := fun ρ M k x => τ ρ M (fun u M1 => ∃ a ds, u = .cel a ∧ M1 a = some (.lst ds) ∧ LcKC g θ ε vs ρ a ds M1 k) x
theorem up_lcC {K : PySem.W.Frag} {E : XK} {τ : DE} {g : TG} {γ : DG} {θ : DT} {ε : DE} {vs : List Nat} {σ : L2.St} {H : Hp} {Q : VK} (gp : GPair K g γ vs) (h : up K E (dLcC τ γ θ ε vs) σ H Q) : tLc (iList K (up K E τ)) g (upT K E0 θ) (up K E0 ε) vs σ H Q := by
  obtain ⟨ρ, s, k, x, rfl, er, q, p, px⟩ := h
  refine ⟨ρ, s, _, x, rfl, er, q, fun u s1 q1 st1 ok1 v1 r1 => ?_, px⟩
  obtain ⟨a, ds, rfl, hm, q1⟩ := q1
  have hv := r1.cel_of
  subst hv
  rcases q1 with ⟨hlen, I, i0, keep, turn, fin⟩ | z
  case no => exact z.elim
  have at_ : ∀ t : Sta, Ok K t → t.M a = some (.lst ds) → ∃ us, SqL K t.H a us ∧ Reps K t.G us ds := fun t ok hm => by
    obtain ⟨us, e, r⟩ := ok.cells _ _ hm
    exact ⟨us, SqL.of e, r⟩
  obtain ⟨us0, hq0, _⟩ := at_ s1 ok1 hm
  refine ⟨a, rfl, ⟨us0, hq0⟩, ?_⟩
  intro L hL
  have inv0 : ∃ (acc : List D) (vs' : List V) (s' : Sta), s'.H = upd s1.H L (.lst []) ∧ Ok K s' ∧ Step s1 s' ∧ s'.G L = none ∧ s'.M L = none ∧ s'.H L = some (.lst vs') ∧ Reps K s'.G vs' acc ∧ acc.length ≤ 0 ∧ I 0 acc s'.M := by
    obtain ⟨k1, st⟩ := ok1.hide (o := .lst []) (Step.refl s1) hL (ok1.freeG hL) (ok1.freeM hL)
    exact ⟨[], [], ⟨_, _, _⟩, rfl, k1, st, ok1.freeG hL, ok1.freeM hL, upd_same, .nil, Nat.le_refl _, i0⟩
  refine ⟨fun j m H' => m = ds.length - j ∧ j ≤ ds.length ∧ ∃ (acc : List D) (vs' : List V) (s' : Sta), s'.H = H' ∧ Ok K s' ∧ Step s1 s' ∧ s'.G L = none ∧ s'.M L = none ∧ s'.H L = some (.lst vs') ∧ Reps K s'.G vs' acc ∧ acc.length ≤ j ∧ I j acc s'.M,
    ⟨ds.length, rfl, Nat.zero_le _, inv0⟩, ?_⟩
  rintro j m H' ⟨rfl, hj, acc, vs', s', rfl, ok', st', gL, mL, hL', rs, hal, ij⟩
  obtain ⟨us, hq, ru⟩ := at_ s' ok' (keep j acc s'.M ij)
  have hul := ru.length
  by_cases hlt : j < ds.length
  · refine .inr ⟨⟨us, us[j]'(by omega), hq, by simp [hul ▸ hlt]⟩, fun H2 => ∃ (acc : List D) (vs' : List V) (s' : Sta), s'.H = H2 ∧ Ok K s' ∧ Step s1 s' ∧ s'.G L = none ∧ s'.M L = none ∧ s'.H L = some (.lst vs') ∧ Reps K s'.G vs' acc ∧ acc.length ≤ j + 1 ∧ I (j + 1) acc s'.M,
      fun H2 z => ⟨ds.length - (j + 1), by omega, rfl, hlt, z⟩, fun v H2 y => ?_⟩
    obtain ⟨d, hd⟩ : ∃ d, ds[j]? = some d := ⟨ds[j], by simp [hlt]⟩
    obtain ⟨eH, y⟩ := y
    subst eH
    obtain ⟨v', hv', rv⟩ := ru.get hd
    have y := y us hq
    rw [hv'] at y
    cases y
    have eru : ER K s' (wipe σ vs) (wipeD ρ vs) := (er.step (st1.trans st') ok').wipe vs
    refine gp.run _ d _ _ s' _ _ eru rv (turn j d acc s'.M hd ij) fun ρ3 σ3 q3 er3 w3 => ⟨w3.trans (wipe_wipe σ vs), ?_⟩
    refine ⟨ρ3, s', _, _, rfl, er3, q3, fun b s4 q4 st4 ok4 => ?_, PostX.never⟩
    obtain ⟨hL4, gL4, mL4⟩ := st4.hid L _ hL' gL mL
    cases b with
    | true =>
      rw [if_pos rfl] at q4 ⊢
      refine ⟨ρ3, s4, _, _, rfl, er3.step st4 ok4, q4, fun yd s5 q5 st5 ok5 yv ry => ?_, PostX.never⟩
      obtain ⟨hL5, gL5, mL5⟩ := st5.hid L _ hL4 gL4 mL4
      have rs5 : Reps K s5.G vs' acc := rs.same (st4.trans st5).same
      refine ⟨vs', hL5, by rw [rs5.length]; omega, ?_⟩
      obtain ⟨k6, st6⟩ := ok5.hide (o := .lst (vs' ++ [yv])) ((st'.trans st4).trans st5) hL gL5 mL5
      exact ⟨acc ++ [yd], vs' ++ [yv], ⟨_, _, _⟩, rfl, k6, st6, gL5, mL5, upd_same, rs5.append (.cons ry .nil), by simp; omega, q5⟩
    | false =>
      rw [if_neg Bool.false_ne_true] at q4 ⊢
      exact ⟨acc, vs', s4, rfl, ok4, st'.trans st4, gL4, mL4, hL4, rs.same st4.same, by omega, q4⟩
  · have ej : j = ds.length := by omega
    subst ej
    refine .inl ⟨⟨us, hq, by omega⟩, ?_⟩
    obtain ⟨k6, st6, sm⟩ := ok'.shown st' hL gL mL hL'
    exact p _ ⟨s'.H, upd s'.G L (.lst vs'), s'.M⟩ (fin acc s'.M ij) (st1.trans st6) k6 _ (.lst upd_same (rs.same sm))
section
variable {X : Cx} {CX : CXT} {E : XK} {k n nn i : Nat} {f C pp : Addr} {mc : Value} {fd : FuncData} {ps ks N : List Str} {φ : Ct} {x m pv : Str} {p pos apos : Pos} {e o : Expr} {es : List Expr} {kws : List Keyword} {αa ακ : DA} {τ : DE} {gD : List D → List D → List D}
theorem d_lcC {tg elt : Expr} {ifs : List Expr} {scope : Scope} {own : List (Str × Nat)} {g : TG} {γ : DG} {θ : DT} {ε : DE} (hc : X.calm = true) (hN : X.N.Nodup) (hi : DP X E e τ) (ok : BlkOk X.N X.env.scope scope own) (gp : GPair X.K g γ (own.map (·.2)))
    (hg : ∀ (s : Shared) (H : Hp) (C : Addr) (cl : List (Str × Addr)) (fp : List Addr), PG (X.blk s H scope (compEnvC scope cl C X.env) fp) tg g) (ht : ∀ (s : Shared) (H : Hp) (C : Addr) (cl : List (Str × Addr)) (fp : List Addr), DPTs (X.blk s H scope (compEnvC scope cl C X.env) fp) E0 ifs θ)
    (he : ∀ (s : Shared) (H : Hp) (C : Addr) (cl : List (Str × Addr)) (fp : List Addr), DP (X.blk s H scope (compEnvC scope cl C X.env) fp) E0 elt ε) (hs : ∀ x, foldedSetIterable e X.env x = pure x := by intro _; rfl) :
    DP X E (.ListComp elt [⟨tg, e, ifs, 0⟩] scope pos) (dLcC τ γ θ ε (own.map (·.2))) := pe_mono (pe_lc (tt := upT X.K E0 θ) (te := up X.K E0 ε) hc hN (pi_list hi) ok hg ht he hs) fun _ _ _ h => up_lcC gp h
/-! ### static methods -/
structure CSta (K : PySem.W.Frag) (C : Addr) (mc : Value) (m : Str) (p f : Addr) : Prop where
  at_ : PySem.W.findCls K (.ref C) mc m = some (.get (.builtin "staticmethod.__get__") (.ref p) .none (.ref C))
  rc : ∃ rest, PySem.W.recIn K p "staticmethod" = some (.ref f :: rest)
  kp : PySem.W.keepIn K (.ref f) = true
theorem d_smeth {pl : Sem Bool} {p1 : Pos} (r : ClX.CRead X.K C mc) (c : ∃ pp, CSta X.K C mc m pp f) (F : FnOk X.prog X.w X.K X.mg X.base CX k f fd ps (spD X.K nn φ)) (hr : Room k X.A) (hg : Gl X x) (hm : X.mg x = some (.ref C)) (hb : KBd X.K fd ps n ks gD) (hgl : ∀ us ws : List D, us.length = n → ws.length = ks.length → (gD us ws).length = nn) (hx : Passes CX X E)
    (ha : DPA X E (e :: es) αa) (hkw : DPK X E kws ακ) (hall : (backToKw pos (keywordEach kws X.env)).all (·.1.isSome) = true := by rfl) (hks : (backToKw pos (keywordEach kws X.env)).filterMap (·.1) = ks := by rfl)
    (hdb : (x == ("__debug__" : Str)) = false := by decide) (he : starEach (e :: es) X.env = (false, eval e X.env) :: starEach es X.env := by rfl)
    (hpl : ((backTo pos (starEach (e :: es) X.env)).any (·.1) || (backToKw pos (keywordEach kws X.env)).any (·.1.isNone)) = false := by rfl)
    (ht : eval (.Call (.Attribute (.Name x p1) m apos) (e :: es) kws pos) X.env = (do
      let ov ← eval (.Name x p1) X.env
      standAt apos.atName
      let (f, first) ← holding [ov] (getMethod ov m pl)
      callWith pos f first (backTo pos (starEach (e :: es) X.env)) (backToKw pos (keywordEach kws X.env))) := by rfl) :
    DP X E (.Call (.Attribute (.Name x p1) m apos) (e :: es) kws pos) (dCallK n ks.length φ gD αa ακ) := by
  refine ⟨fun pins s σ H Q I h => ?_⟩
  obtain ⟨ρ, s0, kk, xx, rfl, er, q, ppp, px⟩ := h
  obtain ⟨pp, c⟩ := c
  refine PySem.W.methodCall_KW (pl := pl) (ld_glob I hg hm ?_ hdb) ht
  obtain ⟨rest, hp⟩ := c.rc
  refine PySem.W.method_cls I.kIn r.ga ?_
  refine PySem.W.cls_bind I.kIn r.rd c.at_ ?_
  refine wpAny_call (PySem.W.sm_get (s := { s with toks := s.toks + 1 }) I.kIn hp (PySem.W.handed_on rfl ?_))
  have I0 : Inv X pins σ s0.H { s with toks := s.toks + 1 } := I.tok _
  refine PySem.W.callWith_KW (first := []) (h₀ := X.base) I.ok.mod.kin c.kp hall (thn (ha.run pos pins _ σ s0.H (fun vs H1 => ∃ s1 ds, s1.H = H1 ∧ Ok X.K s1 ∧ Step s0 s1 ∧ Reps X.K s1.G vs ds ∧ ακ ρ s1.M (fun zs M2 => ds.length = n ∧ zs.length = ks.length ∧ φ (gD ds zs) M2 kk xx) xx) I0 ⟨ρ, s0, _, xx, rfl, er, q, fun ds s1 q1 st1 ok1 vs r1 => ⟨s1, ds, rfl, ok1, st1, r1, q1⟩, px⟩) fun us s1 ⟨vs, H1, I1, r, s2, ds, e2, ok2, st2, r2, q2⟩ => ?_) hpl he
  subst e2
  refine thn (hkw.run pos pins s1 σ s2.H (fun zs H2 => ∃ s3 zd, s3.H = H2 ∧ Ok X.K s3 ∧ Step s2 s3 ∧ Reps X.K s3.G zs zd ∧ ds.length = n ∧ zd.length = ks.length ∧ φ (gD ds zd) s3.M kk xx) I1 ⟨ρ, s2, _, xx, rfl, er.step st2 ok2, q2, fun zd s3 q3 st3 ok3 zs r3 => ⟨s3, zd, rfl, ok3, st3, r3, q3⟩, px.step st2⟩) fun ws s3 ⟨zs, H2, I2, rz, s4, zd, e4, ok4, st4, r4, l4, l5, q4⟩ => ⟨I2.kIn, ?_⟩
  subst e4
  rw [hks]
  exact run_D F hr hb hx I2 r rz ⟨s4, ds, zd, kk, xx, rfl, ok4, r2.same st4.same, r4, l4, l5, hgl _ _ l4 l5, q4, ppp.step (st2.trans st4), px.step (st2.trans st4)⟩
/-! ### defs with a star parameter, as classmethods -/
def spS (K : PySem.W.Frag) (n : Nat) (φ : Ct) : Sp := fun vs H Q E => ∃ s ds k x, s.H = H ∧ Ok K s ∧ Reps K s.G vs ds ∧ n ≤ ds.length ∧ ds.length ≤ sizeLine ∧ φ (ds.take n ++ [.tup (ds.drop n)]) s.M k x ∧ Post K s k Q ∧ PostX K E s x
theorem fn_DS {P : Program} {w : World} {K : PySem.W.Frag} {mg : Str → Option Value} {base : Heap} {y qual : Str} {params : Arguments} {body : List Stmt} {scope : Scope} (F : FunD K y qual params body scope [] [] f fd) (S : FnScope N (ps ++ [pv]) scope) (hn : n = ps.length)
    (hb : ∀ (kV doc pm : Value) (an : Option Addr) (cdv ct : Value) (us rest : List Value), us.length = ps.length → bindArgs (PySem.W.fnOf y qual params body scope .none kV doc pm an cdv ct) ⟨us ++ rest, []⟩ = (newTuple rest >>= fun t => pure (ps.zip us ++ [(pv, t)])))
    (h : ∀ (cdv : Value) (A : Around) (outer : List Env) (s : Shared) (H : Hp) (E : XK), Room k (A.deeper (envOfC qual scope s.heap.objs.size f cdv)) →
      Passes (L2.CX P w) (cxOf (L2.CX P w) P w K mg base N qual scope f cdv A outer s H E) E → PassesOwn (model P w) (cxOf (L2.CX P w) P w K mg base N qual scope f cdv A outer s H E).A (cxOf (L2.CX P w) P w K mg base N qual scope f cdv A outer s H E).env (cxOf (L2.CX P w) P w K mg base N qual scope f cdv A outer s H E).xe →
      ∃ τ, DPB (cxOf (L2.CX P w) P w K mg base N qual scope f cdv A outer s H E) E body τ ∧
        ∀ (ds : List D) (M : Mm) (kk : DK) (x : DX), ds.length = n + 1 → φ ds M kk x → τ { nx := fun _ M => kk .non M, rt := kk, m0 := M } x (startD N ds) M) : FnR P w K mg base (L2.CX P w) (k + 1) f (spS K n φ) := by
  obtain ⟨oc, od, dV, kV, doc, pm, an, cdv, ct, osl, rfl, lk, hcd, hD, hK⟩ := F.ex
  rcases hD with ⟨_, rfl⟩ | ⟨e, _⟩
  case inr => exact absurd rfl e
  have G := StX.fn_star (P := P) (w := w) (mg := mg) (base := base) (CX := L2.CX P w) (k := k) (sp := spD K (n + 1) φ) (ps := ps) (pv := pv) lk hcd S StX.cxUp (hb kV doc pm an cdv ct) fun A outer s H vs Q E hr q => by
    obtain ⟨τ, ht, hq⟩ := h cdv A outer s H E hr (pass_own rfl rfl rfl rfl) (passes_of rfl)
    refine ⟨_, ht, ?_⟩
    obtain ⟨s0, ds, kk, xx, rfl, o, r, hl, f, p, px⟩ := q
    exact ⟨_, s0, _, xx, rfl, er_start o r, hq ds s0.M kk xx hl f, ⟨fun ρ t q st σ er => p _ t q st er.ok _ .non, ⟨s0, Step.refl s0, o, rfl, p⟩, fun _ _ z => z.elim, fun _ _ z => z.elim⟩, px⟩
  intro A outer s H us vs Q E hr e0 r q
  refine G A outer s H us vs Q E hr e0 r ?_
  obtain ⟨s0, ds, kk, xx, rfl, o, r, hl, hz, f, p, px⟩ := q
  have hlen := r.length
  refine ⟨vs.take n, vs.drop n, (List.take_append_drop n vs).symm, by rw [List.length_take, hlen, ← hn]; omega, by rw [List.length_drop, hlen]; omega, fun q hq => ?_⟩
  obtain ⟨k2, st2⟩ := o.new (o := .tup (vs.drop n)) hq
  refine ⟨⟨_, _, _⟩, _, kk, xx, rfl, k2, ?_, ?_, f, p.step st2, px.step st2⟩
  · exact ((r.take n).same st2.same).append (.cons (.tup (SqT.of upd_same) ((r.drop n).same st2.same)) .nil)
  · rw [List.length_append, List.length_take]
    show min n ds.length + 1 = n + 1
    omega
def dCMeth (C : Addr) (φ : Ct) (α : DA) : DE := fun ρ M k x => α ρ M (fun ds M1 => ds.length < sizeLine ∧ φ [.cel C, .tup ds] M1 k x) x
theorem d_cmeth {pl : Sem Bool} {p1 : Pos} (r : ClX.CRead X.K C mc) (c : ∃ pp, ClX.CMet X.K C mc m pp f) (F : FnR X.prog X.w X.K X.mg X.base CX k f (spS X.K 1 φ)) (hr : Room k X.A) (hg : Gl X x) (hm : X.mg x = some (.ref C)) (hx : Passes CX X E) (ha : DPA X E (e :: es) αa)
    (hd : (x == ("__debug__" : Str)) = false := by decide)
    (hst : starEach (e :: es) X.env = (false, eval e X.env) :: starEach es X.env := by rfl) (hpl : (backTo pos (starEach es X.env)).any (·.1) = false := by rfl)
    (ht : eval (.Call (.Attribute (.Name x p1) m apos) (e :: es) [] pos) X.env = (do
      let ov ← eval (.Name x p1) X.env
      standAt apos.atName
      let (f, first) ← holding [ov] (getMethod ov m pl)
      callWith pos f first (backTo pos (starEach (e :: es) X.env)) (backToKw pos (keywordEach [] X.env))) := by rfl) :
    DP X E (.Call (.Attribute (.Name x p1) m apos) (e :: es) [] pos) (dCMeth C φ αa) := by
  obtain ⟨pp, c⟩ := c
  refine pe_mono (ClX.pe_cmeth (pe_glob (v := .ref C) hg hm rfl hd) r c F hr hx ha hst hpl ht) fun σ H Q h => ?_
  obtain ⟨ρ, s, k, xx, rfl, er, q, p, px⟩ := h
  refine ⟨rfl, ρ, s, _, xx, rfl, er, q, fun ds s1 q1 st1 ok1 vs r1 => ?_, px⟩
  exact ⟨s1, .cel C :: ds, k, xx, rfl, ok1, .cons .cel r1, by simp, q1.1, q1.2, p.step st1, px.step st1⟩
/-! ### a class in a local name, called -/
def dMakeV (i : Nat) (C : Addr) (n m : Nat) (φ : Ct) (gD : List D → List D → List D) (α κ : DA) : DE := fun ρ M k x => ρ[i]? = some (some (.cel C)) ∧ dMake C n m φ gD α κ ρ M k x
theorem d_makeV (Mk : Mk X.K C f) (F : FnOk X.prog X.w X.K X.mg X.base CX k f fd ps (spD X.K nn φ)) (hr : Room (k + 1) X.A) (hN : X.N[i]? = some x) (hv : Vis X.env.scope x) (hb : KBd X.K fd ps (n + 1) ks gD) (hgl : ∀ us ws : List D, us.length = n + 1 → ws.length = ks.length → (gD us ws).length = nn) (hx : Passes CX X E)
    (ha : DPA X E (e :: es) αa) (hkw : DPK X E kws ακ) (hall : (backToKw pos (keywordEach kws X.env)).all (·.1.isSome) = true := by rfl) (hks : (backToKw pos (keywordEach kws X.env)).filterMap (·.1) = ks := by rfl)
    (hdb : (x == ("__debug__" : Str)) = false := by decide) (hcd : (x == ("__classdict__" : Str)) = false := by decide) (he : starEach (e :: es) X.env = (false, eval e X.env) :: starEach es X.env := by rfl)
    (hpl : ((backTo pos (starEach (e :: es) X.env)).any (·.1) || (backToKw pos (keywordEach kws X.env)).any (·.1.isNone)) = false := by rfl) :
    DP X E (.Call (.Name x p) (e :: es) kws pos) (dMakeV i C n ks.length φ gD αa ακ) := by
  obtain ⟨g, gV, hb, hrep⟩ := hb.ex
  refine ⟨fun pins s σ H Q I h => ?_⟩
  obtain ⟨ρ, s0, kk, xx, rfl, er, ⟨hv0, q⟩, pp, px⟩ := h
  obtain ⟨v, hv1, rv⟩ := er.at_ _ _ hv0
  cases rv.cel_of
  refine wpAny_Call_Name_kw (thn ((pe_var (pos := p) hN hv hdb hcd).run pins s σ s0.H (fun v H1 => v = .ref C ∧ H1 = s0.H) I ⟨.ref C, hv1, rfl, rfl⟩) fun u s1 ⟨v, H1, I1, r1, q1⟩ => ?_)
  obtain ⟨rfl, rfl⟩ := q1
  obtain rfl : u = Value.ref C := r1
  refine PySem.W.callWith_KW (h₀ := X.base) I.ok.mod.kin Mk.kp hall (thn (ha.run pos pins s1 σ s0.H (fun vs H1 => ∃ sa ds, sa.H = H1 ∧ Ok X.K sa ∧ Step s0 sa ∧ Reps X.K sa.G vs ds ∧ ακ ρ sa.M (fun zs M2 => ds.length = n ∧ zs.length = ks.length ∧ mkC C φ gD ds zs M2 kk xx) xx) I1 ⟨ρ, s0, _, xx, rfl, er, q, fun ds s1 q1 st1 ok1 vs r1 => ⟨s1, ds, rfl, ok1, st1, r1, q1⟩, px⟩) fun us s2 ⟨vs, H2, I2, r, sa, ds, ea, oka, sta, ra, qa⟩ => ?_) hpl he
  subst ea
  refine thn (hkw.run pos pins s2 σ sa.H (fun zs H2 => ∃ sb zd, sb.H = H2 ∧ Ok X.K sb ∧ Step sa sb ∧ Reps X.K sb.G zs zd ∧ ds.length = n ∧ zd.length = ks.length ∧ mkC C φ gD ds zd sb.M kk xx) I2 ⟨ρ, sa, _, xx, rfl, er.step sta oka, qa, fun zd s3 q3 st3 ok3 zs r3 => ⟨s3, zd, rfl, ok3, st3, r3, q3⟩, px.step sta⟩) fun ws s3 ⟨zs, H3, I3, rz, sb, zd, eb, okb, stb, rb, l1, l2, qb⟩ => ⟨I3.kIn, ?_⟩
  subst eb
  rw [hks]
  have st := sta.trans stb
  exact run_makeN Mk F hr hb hx I3 r rz (ra.length.trans l1) (rb.length.trans l2) (mk_sp hrep hgl okb (ra.same stb.same) rb l1 l2 qb (pp.step st) (px.step st))
end
end DL
set_option Elab.async false
set_option linter.all false
set_option maxRecDepth 100000
set_option maxHeartbeats 2000000
namespace DL
open PySem PySem.Spec PyProof.Rows L2
section
variable {X : Cx} {E : XK}
/-- a list, changing or not -/
def lstOf : D → Mm → Option (List D)
  | .lst ds, _ => some ds
  | .cel a, M => match M a with
    | some (.lst ds) => some ds
    | _ => none
  | _, _ => none
theorem lst_at {K : PySem.W.Frag} {s : Sta} {v : V} {d : D} {ds : List D} (ok : Ok K s) (r : Rep K s.G v d) (h : lstOf d s.M = some ds) : ∃ a vs, v = .ref a ∧ s.H a = some (.lst vs) ∧ Reps K s.G vs ds := by
  cases r with
  | lst h1 r1 => cases h; exact ⟨_, _, rfl, ok.sub _ _ h1, r1⟩
  | @cel a =>
    simp only [lstOf] at h
    split at h
    · rename_i ds' hm
      cases h
      obtain ⟨vs, e, r⟩ := ok.cells _ _ hm
      exact ⟨a, vs, rfl, e, r⟩
    · cases h
  | _ => cases h
theorem lstOf_cel {M : Mm} {p : Addr} {ds : List D} (h : M p = some (.lst ds)) : lstOf (.cel p) M = some ds := by
  simp only [lstOf, h]
/-- xs == [], xs != [] -/
def dEqE (neg : Bool) : D2 := fun x y M k _ => y = .lst [] ∧ ∃ ds, lstOf x M = some ds ∧ k (.bl (if neg then !ds.isEmpty else ds.isEmpty)) M
theorem o_neE (hu : X.A.units + 64 < cLine) : OpR X (compareOp .NotEq) (r2 X.K E (dEqE true)) := by
  intro pins s σ H x y u v Q I rx ry h
  obtain ⟨s0, dx, dy, kk, xx, rfl, ok, hdx, hdy, ⟨rfl, ds, hm, q⟩, p, px⟩ := h
  obtain ⟨b, vs, rfl, hb, rs⟩ := hdy.lst_of
  cases rs
  obtain ⟨a, ws, rfl, ha, rw'⟩ := lst_at ok hdx hm
  obtain rfl : u = Value.ref a := rx
  obtain rfl : v = Value.ref b := ry
  obtain ⟨its, rv, pl, hz⟩ := I.list (SqL.of ha)
  obtain ⟨jts, rj, pl', hz'⟩ := I.list (SqL.of (ok.sub _ _ hb))
  cases rj
  have hl := rv.length
  have hl' := rw'.length
  show wpAny _ _ (richCompare .NotEq _ _) _ _ _
  cases ds with
  | nil =>
    have e : its = [] := List.eq_nil_of_length_eq_zero (by rw [← hl, hl']; rfl)
    subst e
    exact SeqAt.RcNeAt.lists (e := fun _ => true) pl.isList pl'.isList rfl (by omega) (fun j h1 => absurd h1 (by simp)) _ _ _ _ ⟨.bl false, s0.H, I, rfl, p.now q ok .bl⟩
  | cons d ds =>
    refine SeqAt.RcNeAt.lists_lengths pl.isList pl'.isList ?_ (by omega) _ _ _ _ ⟨.bl true, s0.H, I, rfl, p.now q ok .bl⟩
    have : its.length = ds.length + 1 := by rw [← hl, hl']; rfl
    simp [this]
theorem o_eqE (hu : X.A.units + 64 < cLine) : OpR X (compareOp .Eq) (r2 X.K E (dEqE false)) := by
  intro pins s σ H x y u v Q I rx ry h
  obtain ⟨s0, dx, dy, kk, xx, rfl, ok, hdx, hdy, ⟨rfl, ds, hm, q⟩, p, px⟩ := h
  obtain ⟨b, vs, rfl, hb, rs⟩ := hdy.lst_of
  cases rs
  obtain ⟨a, ws, rfl, ha, rw'⟩ := lst_at ok hdx hm
  obtain rfl : u = Value.ref a := rx
  obtain rfl : v = Value.ref b := ry
  obtain ⟨its, rv, pl, hz⟩ := I.list (SqL.of ha)
  obtain ⟨jts, rj, pl', hz'⟩ := I.list (SqL.of (ok.sub _ _ hb))
  cases rj
  have hl := rv.length
  have hl' := rw'.length
  show wpAny _ _ (richCompare .Eq _ _) _ _ _
  cases ds with
  | nil =>
    have e : its = [] := List.eq_nil_of_length_eq_zero (by rw [← hl, hl']; rfl)
    subst e
    exact SeqAt.RcAt.lists (e := fun _ => true) pl.isList pl'.isList rfl (by omega) (fun j h1 => absurd h1 (by simp)) _ _ _ _ ⟨.bl true, s0.H, I, rfl, p.now q ok .bl⟩
  | cons d ds =>
    refine SeqAt.RcAt.lists_lengths pl.isList pl'.isList ?_ (by omega) _ _ _ _ ⟨.bl false, s0.H, I, rfl, p.now q ok .bl⟩
    have : its.length = ds.length + 1 := by rw [← hl, hl']; rfl
    simp [this]
end
end DL
set_option Elab.async false
set_option linter.all false
set_option maxRecDepth 100000
set_option maxHeartbeats 2000000
namespace XI
open PySem PySem.Spec PyProof.Rows L2 PySem.W
/-- the context of the body of an __init__ that says super() -/
def supCx (P : Program) (w : World) (K : PySem.W.Frag) (mg : Str → Option Value) (base : Heap) (N : List Str) (qual : Str) (scope : Scope) (f cda cc : Addr) (A : Around) (outer : List Env) (s : Shared) (H : Hp) : Cx where
  prog := P
  w := w
  K := K
  mg := mg
  base := base
  A := A.deeper (ksEnv qual scope s.heap.objs.size f (.ref cda) cc)
  N := N
  s_0 := s
  H_0 := H
  env := ksEnv qual scope s.heap.objs.size f (.ref cda) cc
  outer := outer
  stack := ksEnv qual scope s.heap.objs.size f (.ref cda) cc :: outer
  ex := []
  fn := fun _ => false
  calm := true
  pn := []
  xe := fun _ _ => False
theorem look_of {l : List (Str × Value)} {y : Str} {u : Value} (h : (y, u) ∈ l) (hu : ∀ u', (y, u') ∈ l → u' = u) : l.lookup y = some u := by
  induction l with
  | nil => cases h
  | cons p l ih =>
    obtain ⟨z, v⟩ := p
    rw [List.lookup_cons]
    cases e : (y == z) with
    | true =>
      have e' : y = z := eq_of_beq e
      subst e'
      rw [hu v List.mem_cons_self]
    | false =>
      rcases List.mem_cons.mp h with q | q
      · cases q
        simp at e
      · exact ih q fun u' hm => hu u' (List.mem_cons_of_mem _ hm)
theorem rev_look {ps : List Str} {us : List Value} (nd : ps.Nodup) {i : Nat} {y : Str} {u : Value} (h1 : ps[i]? = some y) (h2 : us[i]? = some u) : (ps.zip us).reverse.lookup y = some u := by
  refine look_of (List.mem_reverse.mpr ?_) fun u' hm => ?_
  · refine List.mem_of_getElem? (i := i) ?_
    rw [List.getElem?_zip_eq_some]
    exact ⟨h1, h2⟩
  · obtain ⟨j, hj, e⟩ := List.mem_iff_getElem.mp (List.mem_reverse.mp hm)
    have e' : (ps.zip us)[j]? = some (y, u') := List.getElem?_eq_some_iff.mpr ⟨hj, e⟩
    rw [List.getElem?_zip_eq_some] at e'
    have : j = i := nodup_ix nd e'.1 h1
    subst this
    have := e'.2.symm.trans h2
    exact Option.some.inj this
/-- what is told of such a def -/
structure SupD (K : PySem.W.Frag) (P : Program) (qual : Str) (params : Arguments) (body : List Stmt) (scope : Scope) (ps : List Str) (f D : Addr) (fd : FuncData) (cda cc : Addr) : Prop where
  ex : ∃ (oc dV kV doc pm ct ccl cl : Value) (od an cdd cld : Option Addr) (osl ccs csl : Array (Option Value)) (vs : Array Value) (file : Str) (tf : Tok),
    fd = ksFn "__init__" qual params body scope dV kV doc pm an (.ref cda) ct cc ∧ K.lookup f = some ⟨oc, od, .func (ksFn "__init__" qual params body scope dV kV doc pm an (.ref cda) ct cc), osl⟩ ∧
      K.lookup cda = some ⟨ccl, cdd, .fields vs, ccs⟩ ∧ vs[2]? = some (.str file tf) ∧ ((P.main.file : Str) == file) = true ∧ K.lookup cc = some ⟨cl, cld, .cell (some (.ref D)), csl⟩
  cd : PySem.W.codeIn K (.ref cda) qual = true
  top : (P.main.scope.names.lookup ("super" : Str)).isSome = false
structure SupS (ps : List Str) (params : Arguments) (scope : Scope) : Prop where
  kind : scope.kind = .function
  co : scope.isCoroutine = false
  gen : scope.isGenerator = false
  nd : ps.Nodup
  loc : ∀ y ∈ ps, scope.names.lookup y = some .local
  nocell : ∀ x ∈ scope.names, x.2 ≠ .cell
  fre : ∀ x ∈ scope.names, x.2 = .free → x.1 = "__class__"
  su : scope.names.lookup ("super" : Str) = some .globalImplicit
  cl : scope.names.lookup ("__class__" : Str) = some .free
  self_ : ps[0]? = some ("self" : Str)
  par : ∃ ar : Arg, (params.posonlyargs ++ params.args).head? = some ar ∧ ar.arg = "self"
section
variable {P : Program} {w : World} {K : PySem.W.Frag} {mg : Str → Option Value} {base : Heap} {qual : Str} {params : Arguments} {body rest : List Stmt} {scope : Scope} {ps : List Str} {f D cda cc : Addr} {fd : FuncData} {A : Around} {outer : List Env} {s : Shared} {H : Hp}
theorem inv_sup {us : List Value} {vs : List V} {h₁ : Heap} {tk : Nat} (S : SupS ps params scope) (hd : A.handled = none) (e0 : Env0 P w K mg base A outer s H) (hl : vs.length = ps.length) (r : Vals vs us) {cl : Value} {cld : Option Addr} {csl : Array (Option Value)} (hcc : K.lookup cc = some ⟨cl, cld, .cell (some (.ref D)), csl⟩)
    (hns : h₁.Ns s.heap.objs.size fun y => (ps.zip us).reverse.lookup y) (kp : ∀ b o, s.heap.get? b = some o → h₁.get? b = some o) :
    Inv (supCx P w K mg base ps qual scope f cda cc A outer s H) [] (L2.start ps vs) H { s with heap := h₁, toks := tk } := by
  have noA : ∀ b : Addr, b ∉ (supCx P w K mg base ps qual scope f cda cc A outer s H).ex := fun b z => absurd (show b ∈ ([] : List Addr) from z) (by simp)
  have hcb := e0.mod.kin _ _ hcc
  obtain ⟨hcs, hcH⟩ := e0.bs _ _ hcb
  have cl1 : ∀ {y : Str} {c : Addr}, ([("__class__", cc)] : List (Str × Addr)).lookup y = some c → y = "__class__" ∧ c = cc := fun {y c} h => by
    rw [List.lookup_cons] at h
    cases e : (y == ("__class__" : Str)) with
    | true =>
      rw [e] at h
      cases h
      exact ⟨eq_of_beq e, rfl⟩
    | false =>
      rw [e] at h
      cases h
  refine ⟨⟨e0.mod, S.kind, rfl, rfl, Nat.le_refl _, fun y z c e1 e2 => (cl1 e1).1.trans (cl1 e2).1.symm, fun y hy => ?_, fun y c z _ => ?_, fun _ => hd, Around.frames_deeper e0.frames, .inr ⟨rfl, rfl⟩, fun b z => absurd z (noA b), e0.bs, e0.bsz, fun b _ _ => noA b,
      fun b z => absurd z (noA b), e0.funs, e0.frf⟩,
    rfl, e0.bare, Un.kept kp, ⟨_, hns, fun i y v e1 e2 e3 => ?_⟩, fun y c e => ?_, e0.hok.fresh (Nat.le_refl _), fun y c e => ?_, fun q hq => absurd (show q ∈ ([] : List (Addr × Obj)) ++ [] from hq) (by simp), e0.hok.kept kp, ?_⟩
  · have hy : scope.names.lookup y = some .cell ∨ scope.names.lookup y = some .free := hy
    rcases hy with hy | hy
    · exact absurd rfl (S.nocell _ (PySem.mem_of_lookup hy))
    · have e := S.fre _ (PySem.mem_of_lookup hy) rfl
      have e : y = "__class__" := e
      subst e
      exact ⟨cc, rfl⟩
  · have z : false = true := z
    cases z
  · have hi : i < vs.length := by
      unfold L2.start at e2
      by_cases hi : i < vs.length
      · exact hi
      · rw [List.getElem?_append_right (by simpa using hi)] at e2
        rw [List.getElem?_replicate] at e2
        split at e2 <;> cases e2
    have ha : vs[i]? = some v := by
      unfold L2.start at e2
      rw [List.getElem?_append_left (by simpa using hi), List.getElem?_map] at e2
      cases e : vs[i]? with
      | none => rw [e] at e2; cases e2
      | some a => rw [e] at e2; cases e2; rfl
    obtain ⟨u, hu, rv⟩ := r.get ha
    have e1 : ps[i]? = some y := e1
    exact ⟨u, rv, .inl ⟨S.loc y (List.mem_of_getElem? e1), rev_look S.nd e1 hu⟩⟩
  · obtain ⟨_, rfl⟩ := cl1 e
    exact ⟨_, _, kp _ _ hcs, rfl⟩
  · obtain ⟨_, rfl⟩ := cl1 e
    exact hcH
  · unfold L2.start
    show _ = ps.length
    rw [List.length_append, List.length_map, List.length_replicate]
    omega
/-- super().__init__(a text), at the body's beginning -/
theorem sup_first {C a : Addr} {σ : L2.St} {s1 : Shared} {H1 : Hp} {pl : Sem Bool} {p0 p1 p2 p3 p4 p5 : Pos} {msg : Str} {j : Nat} {Q : Flow → Shared → Prop} (F : SupD K P qual params body scope ps f D fd cda cc) (S : SupS ps params scope) (T : OexC K C)
    (hsu : mg "super" = none) (hop : nsIn K cStatics "thirdparty.any" = some none) (hD : (clsIn K D).isSome = true) (hCD : mroIn K C (.ref D) = some true) (hal : ks_superIn K C D "__init__" = some (some (.builtin "ValueError.__init__"))) (hVE : subIn K (.ref C) (.type "ValueError") = some true)
    (I : Inv (supCx P w K mg base ps qual scope f cda cc A outer s H) [] σ H1 s1) (h0 : σ[0]? = some (some (.ref a))) (e : H1 a = some (exo a C none)) (hq : ∀ s', Inv (supCx P w K mg base ps qual scope f cda cc A outer s H) [] σ H1 s' → Q .next s')
    (he : ∀ L, eval (.Call (.Attribute (.Call (.Name "super" p0) [] [] p1) "__init__" p2) [.Constant (.str msg) j p3] [] p4) (ksEnv qual scope L f (.ref cda) cc) = (do
      let ov ← attributeBase (.Call (.Name "super" p0) [] [] p1) "__init__" (ksEnv qual scope L f (.ref cda) cc) (eval (.Call (.Name "super" p0) [] [] p1) (ksEnv qual scope L f (.ref cda) cc))
      standAt p2.atName
      let (fv, first) ← holding [ov] (getMethod ov "__init__" pl)
      callWith p4 fv first (backTo p4 (starEach [.Constant (.str msg) j p3] (ksEnv qual scope L f (.ref cda) cc))) [])) :
    _root_.PySem.wpAt (model P w) (supCx P w K mg base ps qual scope f cda cc A outer s H).A (.func body (supCx P w K mg base ps qual scope f cda cc A outer s H).env)
      (exec (.Expr (.Call (.Attribute (.Call (.Name "super" p0) [] [] p1) "__init__" p2) [.Constant (.str msg) j p3] [] p4) p5) (supCx P w K mg base ps qual scope f cda cc A outer s H).env) Q (fun _ _ => False) s1 := by
  obtain ⟨oc, dV, kV, doc, pm, ct, ccl, cl, od, an, cdd, cld, osl, ccs, csl, vs, file, tf, rfl, lf, lcd, hvs, hfile, lcc⟩ := F.ex
  have KX : K.In s1.heap := I.kIn
  obtain ⟨ar, hp, har⟩ := S.par
  obtain ⟨nm, q, N, bs, bm, sn, sub, ab, col, dd, k0, k1, k2, k3, k5, hC, hbm⟩ := T.cls
  obtain ⟨cdD, hcD⟩ := Option.isSome_iff_exists.mp hD
  obtain ⟨t1, ho⟩ := exo_at I.hok e
  obtain ⟨m, hn, hlk⟩ := id I.loc
  obtain ⟨u0, ru0, lk0⟩ := hlk 0 "self" (.ref a) S.self_ h0 (.inl (S.loc _ (List.mem_of_getElem? S.self_)))
  obtain rfl : u0 = Value.ref a := ru0
  have lm : m "self" = some (.ref a) := by
    rcases lk0 with ⟨_, z⟩ | ⟨z, _⟩
    · exact z
    · have hl := S.loc _ (List.mem_of_getElem? S.self_)
      rcases z with z | z <;> (rw [show scope.names.lookup ("self" : Str) = _ from z] at hl; cases hl)
  obtain ⟨hh, g, d, t, os⟩ := s1
  obtain ⟨oD, hD1, hD2⟩ : ∃ oD, hh.get? D = some oD ∧ oD.data = .cls cdD := by
    unfold clsIn at hcD
    split at hcD
    · rename_i c d cd' sl ho
      cases hcD
      exact ⟨_, KX _ _ ho, rfl⟩
    · cases hcD
  refine ks_wpAt_Expr_any ?_ (hi := by show (scope.kind == .module && _) = false; rw [S.kind]; rfl)
  refine ks_wpAt_MethodCall (pl := pl) ?_ (he _)
  refine ks_wpAt_super_base (env := ksEnv qual scope s.heap.objs.size f (.ref cda) cc) (f := f) (cc := cda) S.su S.cl (by decide) rfl (KX _ _ lf) rfl hp rfl (KX _ _ lcd) rfl hvs hfile F.top ?_
  obtain ⟨mb, hb1, hb2⟩ := I.mod.blt
  refine ks_loadName_global S.kind S.su (Calls.loadGlobal_builtin (env := ksEnv qual scope s.heap.objs.size f (.ref cda) cc) (v := .type "super") (I.mod.glob.keeps I.bk) hsu (hb1.keeps I.bk) ((hb2 "super" (by decide)).trans (by decide +kernel)) ⟨rfl, ?_⟩)
  refine wpAny_loadName_free S.kind S.cl rfl ⟨_, KX _ _ lcc, rfl⟩ ?_
  rw [har]
  refine wpAny_loadName_local S.kind (S.loc _ (List.mem_of_getElem? S.self_)) hn lm ?_
  refine ks_wpAny_isType_cls hD1 hD2 ⟨rfl, ?_⟩
  refine ks_wpAny_call_super hD1 hD2 ho rfl (fun c e => by cases e) (looks_mroIn KX hCD) (fun h' e1 k1' => ?_)
  have I1 : Inv (supCx P w K mg base ps qual scope f cda cc A outer s H) [] σ H1 ⟨h', g, d, t, os⟩ := I.kept (t' := t) k1'
  have hcl : clsIn K C = some { name := nm, bases := bs, mro := .ref C :: bm, ns := N, qualname := q, hasDict := true, slotNames := sn, subclasses := sub, abstract := ab, collection := col, hasDel := false } := by unfold clsIn; rw [hC] <;> rfl
  have hal' := hal
  unfold ks_superIn at hal'
  rw [hcl] at hal'
  have IA : InstAt hh a ({ cls := .ref C, dict := none, data := .fields #[.ref t1, .none, .none, .none, .bool false, .none] } : Obj) C none := ⟨ho, rfl, rfl, trivial⟩
  have hI : Looks (model P w) h' (isInstance (.ref a) (.type "ValueError")) true := Looks.keeps (IA.type.andThen (looks_subIn KX hVE)) k1'
  refine kxs_getMethod kxs_ValueError e1 (looks_opaque I1.kIn hop) (l₀ := .ref C :: bm) ?_ rfl I1.kIn hal' hI (ks_ne KX IA hcl) (by decide) ?_
  · exact fun A Q E s k q => wpAny_bind ((looks_clsIn I1.kIn hcl) A _ E s k (wpAny_pure q))
  have I2 : Inv (supCx P w K mg base ps qual scope f cda cc A outer s H) [(h'.objs.size, kxs_mw "ValueError.__init__" a)] σ H1 ⟨h'.push (kxs_mw "ValueError.__init__" a), g, d, t + 1, os⟩ :=
    ClX.pin_new I1 (fun b o e => Heap.get?_push_of_some _ e) (Nat.le_refl _) (Heap.get?_push_size _ rfl) (fun v z => nomatch z)
  refine kxs_callWith (i := "ValueError.__init__") (x := a) (u := h'.objs.size) (by rfl) ?_
  refine Calls.evalArgs_plain ?_
  show wpAny _ _ (spliced ((false, eval (.Constant (.str msg) j p3) (supCx P w K mg base ps qual scope f cda cc A outer s H).env) :: backTo p4 (starEach [] (supCx P w K mg base ps qual scope f cda cc A outer s H).env))) _ _ _
  refine Calls.spliced_cons (wpAny_mono ((pe_str (X := supCx P w K mg base ps qual scope f cda cc A outer s H) (x := msg) (j := j) (pos := p3)).run [(h'.objs.size, kxs_mw "ValueError.__init__" a)] _ σ H1 (fun v H' => v = .str msg ∧ H' = H1) I2 ⟨rfl, rfl⟩) (fun u s2 hu => ?_) fun _ _ z => z)
  obtain ⟨v, H', I3, rv, rfl, rfl⟩ := hu
  obtain ⟨tk, rfl⟩ := rv
  refine Calls.spliced_nil ⟨ClX.pin_at I3, ?_⟩
  have hmw := ClX.pin_at I3
  have I4 := ClX.unpin I3
  obtain ⟨t2, ho2⟩ := exo_at I4.hok e
  obtain ⟨h2, g2, d2, tk2, os2⟩ := s2
  refine wpAny_call (codeAny_of_tree ?_)
  show wpAny _ _ (callAny (.ref h'.objs.size) ⟨[.str msg tk], []⟩) _ _ _
  simp only [callAny]
  refine wpAny_bind (wpAny_load hmw ?_)
  simp only [kxs_mw, show (Value.type "method-wrapper" == Value.type "method" || Value.type "method-wrapper" == Value.type "builtin_function_or_method" || Value.type "method-wrapper" == Value.type "method-wrapper") = true by decide, if_true]
  refine KFB.if_so (by decide) ?_
  refine wpAny_bind (check_bound_init PySem.F.excBase_ValueError.toExcCallFacts (I4.kIn _ _ hC) ho2 rfl ?_)
  refine wpAny_bind (wpAny_pure (wpAny_pure ?_))
  refine ⟨plainId_quiet PySem.F.excBase_ValueError.init.plain _, codeAny_builtin PySem.F.excBase_ValueError.initEntry ?_⟩
  refine exc_init_tree (cls := .ref C) (t0 := t2) (dv := none) (c2 := .none) (c3 := .none) (b4 := .bool false) ho2 (by show 1 ≤ sizeLine; decide) fun h5 k5' e5 t5 => ?_
  have J := I4.write (t' := tk2) (x := a) (e := a) (o := exo a C none) (by rw [e]; exact True.intro) (.inl rfl) k5' ⟨_, e5⟩ (exo_ok e5)
  have eu : upd H' a (exo a C none) = H' := by
    funext b
    by_cases hb : b = a
    · rw [hb, upd_same, e]
    · rw [upd_ne hb]
  rw [eu] at J
  exact hq _ J
end
end XI
namespace XI
open PySem PySem.Spec PyProof.Rows L2 PySem.W
/-- what the making of such an exception keeps: fl tells its fields by its arguments -/
def spX (C : Addr) (n : Nat) (fl : List V → List (Str × V)) : Sp := fun vs H Q _ => ∃ (a : Addr) (ws : List V), vs = .ref a :: ws ∧ ws.length = n ∧ H a = some (exo a C none) ∧ ∀ dx, H dx = none → dx ≠ a → Q .non (upd (upd H dx (exd dx (fl ws))) a (exo a C (some dx)))
/-- the facts of the class -/
structure XCls (K : PySem.W.Frag) (mg : Str → Option Value) (C D : Addr) : Prop where
  T : OexC K C
  su : mg "super" = none
  op : nsIn K cStatics "thirdparty.any" = some none
  hD : (clsIn K D).isSome = true
  CD : mroIn K C (.ref D) = some true
  al : ks_superIn K C D "__init__" = some (some (.builtin "ValueError.__init__"))
  VE : subIn K (.ref C) (.type "ValueError") = some true
section
variable {P : Program} {w : World} {K : PySem.W.Frag} {mg : Str → Option Value} {base : Heap} {qual : Str} {params : Arguments} {rest : List Stmt} {scope : Scope} {ps : List Str} {f D cda cc C : Addr} {fd : FuncData} {CX : CXT} {k n : Nat} {fl : List V → List (Str × V)}
  {pl : Sem Bool} {p0 p1 p2 p3 p4 p5 : Pos} {msg : Str} {j : Nat}
theorem fn_exc (F : SupD K P qual params (.Expr (.Call (.Attribute (.Call (.Name "super" p0) [] [] p1) "__init__" p2) [.Constant (.str msg) j p3] [] p4) p5 :: rest) scope ps f D fd cda cc) (S : SupS ps params scope) (X : XCls K mg C D) (hn : ps.length = n + 1)
    (he : ∀ L, eval (.Call (.Attribute (.Call (.Name "super" p0) [] [] p1) "__init__" p2) [.Constant (.str msg) j p3] [] p4) (ksEnv qual scope L f (.ref cda) cc) = (do
      let ov ← attributeBase (.Call (.Name "super" p0) [] [] p1) "__init__" (ksEnv qual scope L f (.ref cda) cc) (eval (.Call (.Name "super" p0) [] [] p1) (ksEnv qual scope L f (.ref cda) cc))
      standAt p2.atName
      let (fv, first) ← holding [ov] (getMethod ov "__init__" pl)
      callWith p4 fv first (backTo p4 (starEach [.Constant (.str msg) j p3] (ksEnv qual scope L f (.ref cda) cc))) []))
    (h : ∀ (A : Around) (outer : List Env) (s : Shared) (H : Hp), ∃ t, PSs (supCx P w K mg base ps qual scope f cda cc A outer s H) rest t ∧
      ∀ (vs : List V) (Q : VK) (H1 : Hp), spX C n fl vs H1 Q (fun _ _ _ => False) → t { nx := fun _ H' => Q .non H', rt := Q } (L2.start ps vs) H1) :
    FnOk P w K mg base CX (k + 1) f fd ps (spX C n fl) := by
  refine ⟨fun vs H Q E q => ?_, fun A outer s H args us vs Q E hr e0 hb r q => ?_⟩
  · obtain ⟨a, ws, rfl, hl, _⟩ := q
    rw [List.length_cons, hl, hn]
  obtain ⟨oc, dV, kV, doc, pm, ct, ccl, cl, od, an, cdd, cld, osl, ccs, csl, vs', file, tf, rfl, lf, lcd, hvs, hfile, lcc⟩ := id F.ex
  have KX : K.In s.heap := e0.mod.kin.keeps fun b o e => (e0.bs b o e).1
  have lim : s.heap.NoLimit := e0.mod.nolimit.keeps fun b o e => (e0.bs b o e).1
  have hl : vs.length = ps.length := by
    obtain ⟨a, ws, rfl, hl, _⟩ := q
    rw [List.length_cons, hl, hn]
  refine ks_codeAny_call_defAt (binds := ps.zip us) hr.depth (KX _ _ lf) rfl lim (codeRec_of KX F.cd) rfl hb S.nocell (fun y hy => S.loc _ (List.of_mem_zip hy).1) (fun h₁ hns kp => ?_) S.co S.gen S.kind
  have I := inv_sup (f := f) (cda := cda) (qual := qual) (tk := s.toks + (ps.zip us).length) S hr.hd e0 hl r lcc hns kp
  obtain ⟨t, ht, hq⟩ := h A outer s H
  have q' := hq vs Q H (by obtain ⟨a, ws, e1, e2, e3, e4⟩ := q; exact ⟨a, ws, e1, e2, e3, e4⟩)
  obtain ⟨a, ws, rfl, hw, ea, _⟩ := q
  have h0 : (L2.start ps (.ref a :: ws))[0]? = some (some (.ref a)) := rfl
  refine ks_wpAt_execs_cons (ks_wpAt_mono (sup_first F S X.T X.su X.op X.hD X.CD X.al X.VE I h0 ea (Q := fun fl' s' => fl' = .next ∧ Inv (supCx P w K mg base ps qual scope f cda cc A outer s H) [] (L2.start ps (.ref a :: ws)) H s') (fun s' I' => ⟨rfl, I'⟩) he) (fun fl' s' hz => ?_) (fun _ _ z => z.elim))
  obtain ⟨rfl, I'⟩ := hz
  refine wpAt_of_wpAny (wpAny_mono (ht.run [] s' _ H _ I' q') (fun fl'' s'' hs => ?_) fun _ _ z => z.elim)
  have fin : ∀ {σ' : L2.St} {H' : Hp} {v : V} {u : Value}, Inv (supCx P w K mg base ps qual scope f cda cc A outer s H) [] σ' H' s'' → RelV v u → Q v H' → CE outer P w H s Q u s'' :=
    fun {σ' H' v u} J rv q => ⟨v, H', J.os, J.bare, J.base, J.hok, rv, q⟩
  cases fl'' with
  | ret u =>
    obtain ⟨v, σ', H', J, rv, q⟩ := hs
    exact fin J rv q
  | next =>
    obtain ⟨σ', H', J, q⟩ := hs
    exact fin (v := V.non) (u := Value.none) J rfl q
  | brk =>
    obtain ⟨_, _, _, q⟩ := hs
    exact False.elim q
  | cont =>
    obtain ⟨_, _, _, q⟩ := hs
    exact False.elim q
end
end XI
namespace XI
open PySem PySem.Spec PyProof.Rows L2 PySem.W
section
variable {P : Program} {w : World} {K : PySem.W.Frag} {mg : Str → Option Value} {base : Heap} {qual : Str} {params : Arguments} {scope : Scope} {f D cda cc C : Addr} {fd : FuncData} {CX : CXT} {k : Nat}
  {pl : Sem Bool} {p0 p1 p2 p3 p4 p5 a1 a2 a3 a4 b1 b2 b3 b4 c1 c2 c3 c4 : Pos} {msg code f1 f2 x1 x2 : Str} {j jj : Nat}
theorem upd2 {H : Hp} {dx a : Addr} {o u v : HO} (h : dx ≠ a) : upd (upd (upd H dx o) a v) dx u = upd (upd H dx u) a v := by
  funext b
  by_cases e1 : b = dx
  · subst e1
    rw [upd_same, upd_ne h, upd_same]
  · rw [upd_ne e1]
    by_cases e2 : b = a
    · subst e2; rw [upd_same, upd_same]
    · rw [upd_ne e2, upd_ne e2, upd_ne e1, upd_ne e1]
def fl0 (code : Str) : List V → List (Str × V) := fun _ => [("code", .str code)]
def fl1 (code f1 : Str) : List V → List (Str × V)
  | [w] => [("code", .str code), (f1, w)]
  | _ => []
def fl2 (code f1 f2 : Str) : List V → List (Str × V)
  | [w, v] => [("code", .str code), (f2, v), (f1, w)]
  | _ => []
theorem fn_exc0 (F : SupD K P qual params (.Expr (.Call (.Attribute (.Call (.Name "super" p0) [] [] p1) "__init__" p2) [.Constant (.str msg) j p3] [] p4) p5 :: [.Assign [.Attribute (.Name "self" c1) "code" c2] (.Constant (.str code) jj c3) c4]) scope ["self"] f D fd cda cc) (S : SupS ["self"] params scope) (X : XCls K mg C D)  (nc : findIn K (.ref C) "code" = some none)
    (hc : ∀ L, swapsWith (.Constant (.str code) jj c3) (some (.Attribute (.Name "self" c1) "code" c2)) c4.line (ksEnv qual scope L f (.ref cda) cc) = pure false)
    (he : ∀ L, eval (.Call (.Attribute (.Call (.Name "super" p0) [] [] p1) "__init__" p2) [.Constant (.str msg) j p3] [] p4) (ksEnv qual scope L f (.ref cda) cc) = (do
      let ov ← attributeBase (.Call (.Name "super" p0) [] [] p1) "__init__" (ksEnv qual scope L f (.ref cda) cc) (eval (.Call (.Name "super" p0) [] [] p1) (ksEnv qual scope L f (.ref cda) cc))
      standAt p2.atName
      let (fv, first) ← holding [ov] (getMethod ov "__init__" pl)
      callWith p4 fv first (backTo p4 (starEach [.Constant (.str msg) j p3] (ksEnv qual scope L f (.ref cda) cc))) [])) :
    FnOk P w K mg base CX (k + 1) f fd ["self"] (spX C 0 (fl0 code)) := by
  refine fn_exc F S X rfl he fun A outer s H => ⟨_, pss_one (ps_ost (pe_var (i := 0) rfl (.inl (S.loc _ (.head _)))) pe_str (hc _)), ?_⟩
  rintro vs Q H1 ⟨a, ws, rfl, hl, ea, q⟩
  have e : ws = [] := List.eq_nil_of_length_eq_zero hl
  subst e
  exact ⟨.ref a, rfl, a, C, rfl, X.T, nc, .inl ⟨ea, fun dx h1 h2 => q dx h1 h2⟩⟩
theorem fn_exc1 (F : SupD K P qual params (.Expr (.Call (.Attribute (.Call (.Name "super" p0) [] [] p1) "__init__" p2) [.Constant (.str msg) j p3] [] p4) p5 :: [.Assign [.Attribute (.Name "self" a1) f1 a2] (.Name x1 a3) a4, .Assign [.Attribute (.Name "self" c1) "code" c2] (.Constant (.str code) jj c3) c4]) scope ["self", x1] f D fd cda cc) (S : SupS ["self", x1] params scope) (X : XCls K mg C D) (n1 : findIn K (.ref C) f1 = some none) (nc : findIn K (.ref C) "code" = some none) (d1 : (x1 == ("__debug__" : Str)) = false) (e1 : (x1 == ("__classdict__" : Str)) = false)
    (ha : ∀ L, swapsWith (.Name x1 a3) (some (.Attribute (.Name "self" a1) f1 a2)) a4.line (ksEnv qual scope L f (.ref cda) cc) = pure false) (hc : ∀ L, swapsWith (.Constant (.str code) jj c3) (some (.Attribute (.Name "self" c1) "code" c2)) c4.line (ksEnv qual scope L f (.ref cda) cc) = pure false)
    (he : ∀ L, eval (.Call (.Attribute (.Call (.Name "super" p0) [] [] p1) "__init__" p2) [.Constant (.str msg) j p3] [] p4) (ksEnv qual scope L f (.ref cda) cc) = (do
      let ov ← attributeBase (.Call (.Name "super" p0) [] [] p1) "__init__" (ksEnv qual scope L f (.ref cda) cc) (eval (.Call (.Name "super" p0) [] [] p1) (ksEnv qual scope L f (.ref cda) cc))
      standAt p2.atName
      let (fv, first) ← holding [ov] (getMethod ov "__init__" pl)
      callWith p4 fv first (backTo p4 (starEach [.Constant (.str msg) j p3] (ksEnv qual scope L f (.ref cda) cc))) [])) :
    FnOk P w K mg base CX (k + 1) f fd ["self", x1] (spX C 1 (fl1 code f1)) := by
  refine fn_exc F S X rfl he fun A outer s H => ⟨_, pss_cons (ps_ost (pe_var (i := 0) rfl (.inl (S.loc _ (.head _)))) (pe_var (i := 1) rfl (.inl (S.loc _ (.tail _ (.head _)))) d1 e1) (ha _)) (pss_one (ps_ost (pe_var (i := 0) rfl (.inl (S.loc _ (.head _)))) pe_str (hc _))), ?_⟩
  rintro vs Q H1 ⟨a, ws, rfl, hl, ea, q⟩
  obtain ⟨w, rfl⟩ : ∃ w, ws = [w] := by
    match ws, hl with
    | [w], _ => exact ⟨w, rfl⟩
  refine ⟨w, rfl, .ref a, rfl, a, C, rfl, X.T, n1, .inl ⟨ea, fun dx h1 h2 => ?_⟩⟩
  refine ⟨.ref a, rfl, a, C, rfl, X.T, nc, .inr ⟨dx, _, upd_same, by rw [upd_ne h2]; exact upd_same, by show 1 ≤ 900; decide, ?_⟩⟩
  have q2 := q dx h1 h2
  rw [← upd2 h2] at q2
  exact q2
theorem fn_exc2 (F : SupD K P qual params (.Expr (.Call (.Attribute (.Call (.Name "super" p0) [] [] p1) "__init__" p2) [.Constant (.str msg) j p3] [] p4) p5 :: [.Assign [.Attribute (.Name "self" a1) f1 a2] (.Name x1 a3) a4, .Assign [.Attribute (.Name "self" b1) f2 b2] (.Name x2 b3) b4, .Assign [.Attribute (.Name "self" c1) "code" c2] (.Constant (.str code) jj c3) c4]) scope ["self", x1, x2] f D fd cda cc) (S : SupS ["self", x1, x2] params scope) (X : XCls K mg C D) (n1 : findIn K (.ref C) f1 = some none) (n2 : findIn K (.ref C) f2 = some none) (nc : findIn K (.ref C) "code" = some none) (d1 : (x1 == ("__debug__" : Str)) = false) (e1 : (x1 == ("__classdict__" : Str)) = false) (d2 : (x2 == ("__debug__" : Str)) = false) (e2 : (x2 == ("__classdict__" : Str)) = false)
    (ha : ∀ L, swapsWith (.Name x1 a3) (some (.Attribute (.Name "self" a1) f1 a2)) a4.line (ksEnv qual scope L f (.ref cda) cc) = pure false) (hb : ∀ L, swapsWith (.Name x2 b3) (some (.Attribute (.Name "self" b1) f2 b2)) b4.line (ksEnv qual scope L f (.ref cda) cc) = pure false) (hc : ∀ L, swapsWith (.Constant (.str code) jj c3) (some (.Attribute (.Name "self" c1) "code" c2)) c4.line (ksEnv qual scope L f (.ref cda) cc) = pure false)
    (he : ∀ L, eval (.Call (.Attribute (.Call (.Name "super" p0) [] [] p1) "__init__" p2) [.Constant (.str msg) j p3] [] p4) (ksEnv qual scope L f (.ref cda) cc) = (do
      let ov ← attributeBase (.Call (.Name "super" p0) [] [] p1) "__init__" (ksEnv qual scope L f (.ref cda) cc) (eval (.Call (.Name "super" p0) [] [] p1) (ksEnv qual scope L f (.ref cda) cc))
      standAt p2.atName
      let (fv, first) ← holding [ov] (getMethod ov "__init__" pl)
      callWith p4 fv first (backTo p4 (starEach [.Constant (.str msg) j p3] (ksEnv qual scope L f (.ref cda) cc))) [])) :
    FnOk P w K mg base CX (k + 1) f fd ["self", x1, x2] (spX C 2 (fl2 code f1 f2)) := by
  refine fn_exc F S X rfl he fun A outer s H => ⟨_, pss_cons (ps_ost (pe_var (i := 0) rfl (.inl (S.loc _ (.head _)))) (pe_var (i := 1) rfl (.inl (S.loc _ (.tail _ (.head _)))) d1 e1) (ha _)) (pss_cons (ps_ost (pe_var (i := 0) rfl (.inl (S.loc _ (.head _)))) (pe_var (i := 2) rfl (.inl (S.loc _ (.tail _ (.tail _ (.head _))))) d2 e2) (hb _)) (pss_one (ps_ost (pe_var (i := 0) rfl (.inl (S.loc _ (.head _)))) pe_str (hc _)))), ?_⟩
  rintro vs Q H1 ⟨a, ws, rfl, hl, ea, q⟩
  obtain ⟨w, v, rfl⟩ : ∃ w v, ws = [w, v] := by
    match ws, hl with
    | [w, v], _ => exact ⟨w, v, rfl⟩
  refine ⟨w, rfl, .ref a, rfl, a, C, rfl, X.T, n1, .inl ⟨ea, fun dx h1 h2 => ?_⟩⟩
  refine ⟨v, rfl, .ref a, rfl, a, C, rfl, X.T, n2, .inr ⟨dx, _, upd_same, by rw [upd_ne h2]; exact upd_same, by show 1 ≤ 900; decide, ?_⟩⟩
  rw [upd2 h2]
  refine ⟨.ref a, rfl, a, C, rfl, X.T, nc, .inr ⟨dx, _, upd_same, by rw [upd_ne h2]; exact upd_same, by show 2 ≤ 900; decide, ?_⟩⟩
  have q2 := q dx h1 h2
  rw [← upd2 h2] at q2
  exact q2
end
end XI
set_option Elab.async false
set_option linter.all false
set_option maxRecDepth 100000
set_option maxHeartbeats 2000000
namespace DL
open PySem PySem.Spec PyProof.Rows L2
theorem Step.free {K : PySem.W.Frag} {s t : Sta} {p : Addr} (st : Step s t) (os : Ok K s) (ot : Ok K t) (h : t.H p = none) : s.H p = none := by
  cases e : s.H p with
  | none => rfl
  | some o =>
    exfalso
    cases eg : s.G p with
    | some u =>
      have := ot.sub p u (st.same p u eg)
      rw [h] at this
      cases this
    | none =>
      cases em : s.M p with
      | none =>
        have := (st.hid p o e eg em).1
        rw [h] at this
        cases this
      | some mo =>
        obtain ⟨m2, e2⟩ := Option.isSome_iff_exists.mp (st.dom p (by rw [em]; rfl))
        obtain ⟨u, e3⟩ := (ot.cells p m2 e2).some
        rw [h] at e3
        cases e3
/-- nothing leaves: every context lets it pass -/
theorem passes_no {P : Program} {w : World} {X : Cx} : Passes (L2.CX P w) X (fun _ _ _ => False) := fun _ _ _ _ _ _ _ h => by
  obtain ⟨_, _, _, _, _, _, _, _, _, _, _, _, z⟩ := h
  exact z.elim
/-- raise C(e, ..) -/
def dRaise (C : Addr) (n : Nat) (flD : List D → List (Str × D)) (α : DA) : DS := fun _ x ρ M => α ρ M (fun ds M1 => ds.length = n ∧ x C (flD ds) M1) x
theorem post_exc {K : PySem.W.Frag} {E : XK} {s s1 : Sta} {x : DX} {C dx : Addr} {fs : List (Str × D)} {fvs : List (Str × V)} (px : PostX K E s x) (os : Ok K s) (st : Step s s1) (ok : Ok K s1) (hx : x C fs s1.M) (hd : s1.H dx = none) (r : FRep K s1.G fvs fs) : E (.ref C) (some dx) (upd s1.H dx (.xd fvs)) := by
  obtain ⟨o2, st2⟩ := ok.hide (o := .xd fvs) st (st.free os ok hd) (ok.freeG hd) (ok.freeM hd)
  exact px C fs ⟨upd s1.H dx (.xd fvs), s1.G, s1.M⟩ hx st2 o2 dx fvs upd_same (ok.freeG hd) (ok.freeM hd) (fun ⟨o, z, _⟩ => by rw [st.free os ok hd] at z; cases z) r
section
variable {X : Cx} {E : XK} {e o : Expr} {es : List Expr} {αa : DA} {τo : DE} {x : Str} {C fI : Addr} {k n : Nat} {fd : FuncData} {ps : List Str} {fl : List V → List (Str × V)} {flD : List D → List (Str × D)} {p pos pos' : Pos}
theorem heap_exc {H : Hp} {a dx : Addr} {u v w : HO} {z : HO} (ha : H a = none) (hne : dx ≠ a) : upd (del (upd (upd (upd H a u) dx v) a w) a) dx z = upd H dx z := by
  funext b
  by_cases e1 : b = dx
  · rw [e1, upd_same, upd_same]
  · rw [upd_ne e1, upd_ne e1]
    by_cases e2 : b = a
    · rw [e2, del_same, ha]
    · rw [del_ne e2, upd_ne e2, upd_ne e1, upd_ne e2]
theorem s_raise (hc : X.calm = true) (tk : Takes X (fun cls d _ H' => E cls d H')) (T : OexC X.K C) (iC : PySem.W.findIn X.K (.ref C) "__init__" = some (some (.ref fI))) (tI : PySem.W.typeIn X.K (.ref fI) = some (.type "function"))
    (F1 : FnOk X.prog X.w X.K X.mg X.base (L2.CX X.prog X.w) k fI fd ps (XI.spX C n fl)) (hfl : ∀ {G : Hp} {vs : List V} {ds : List D}, Reps X.K G vs ds → ds.length = n → FRep X.K G (fl vs) (flD ds)) (hr : Room (k + 1) X.A) (hb : Binds X.K fd ps []) (hn : n ≤ 1000)
    (hg : Gl X x) (hm : X.mg x = some (.ref C)) (ha : DPA X E (e :: es) αa) (hdb : (x == ("__debug__" : Str)) = false := by decide) (he : starEach (e :: es) X.env = (false, eval e X.env) :: starEach es X.env := by rfl) (hpl : (backTo pos (starEach es X.env)).any (·.1) = false := by rfl) :
    DPS X E (.Raise (some (.Call (.Name x p) (e :: es) [] pos)) none pos') (dRaise C n flD αa) :=
  ps_mono (ps_raise hc tk (pmk_oex T iC tI F1 hr hb .nil passes_no hg hm ha hdb he hpl)) fun D σ H h => by
    obtain ⟨ρ, s, kk, xx, rfl, er, q, pp, px⟩ := h
    refine ⟨ρ, s, _, xx, rfl, er, q, fun ds s1 q1 st1 ok1 vs r1 => ?_, px⟩
    obtain ⟨hl, q1⟩ := q1
    refine ⟨by rw [r1.length, hl]; exact hn, fun a ha => ?_⟩
    refine ⟨a, vs ++ [], rfl, by rw [List.append_nil, r1.length, hl], upd_same, fun dx hdx hne => ?_⟩
    rw [upd_ne hne] at hdx
    refine ⟨rfl, dx, fl (vs ++ []), upd_same, by rw [upd_ne hne, upd_same], hdx, ?_⟩
    rw [heap_exc ha hne, List.append_nil]
    exact post_exc px er.ok st1 ok1 q1 hdx (hfl r1 hl)
end
def fd1 (code f1 : Str) : List D → List (Str × D)
  | [d] => [("code", .str code), (f1, d)]
  | _ => []
def fd2 (code f1 f2 : Str) : List D → List (Str × D)
  | [d, u] => [("code", .str code), (f2, u), (f1, d)]
  | _ => []
def fd0 (code : Str) : List D → List (Str × D) := fun _ => [("code", .str code)]
theorem fr0 {K : PySem.W.Frag} {code : Str} {G : Hp} {vs : List V} {ds : List D} (_ : Reps K G vs ds) (_ : ds.length = 0) : FRep K G (XI.fl0 code vs) (fd0 code ds) := .cons .str .nil
theorem fr1 {K : PySem.W.Frag} {code f1 : Str} {G : Hp} {vs : List V} {ds : List D} (h : Reps K G vs ds) (hl : ds.length = 1) : FRep K G (XI.fl1 code f1 vs) (fd1 code f1 ds) := by
  obtain ⟨d, rfl⟩ := List.length_eq_one_iff.mp hl
  obtain ⟨x, rfl, r⟩ := h.one
  exact .cons .str (.cons r .nil)
theorem fr2 {K : PySem.W.Frag} {code f1 f2 : Str} {G : Hp} {vs : List V} {ds : List D} (h : Reps K G vs ds) (hl : ds.length = 2) : FRep K G (XI.fl2 code f1 f2 vs) (fd2 code f1 f2 ds) := by
  match ds, hl with
  | [d, u], _ =>
    obtain ⟨x, y, rfl, r1, r2⟩ := h.two
    exact .cons .str (.cons r2 (.cons r1 .nil))
end DL
set_option Elab.async false
set_option linter.all false
set_option maxRecDepth 100000
set_option maxHeartbeats 2000000
namespace DL
open PySem PySem.Spec PyProof.Rows L2
/-! ### an attribute of the caught exception -/
section
variable {X : Cx} {E : XK} {e o : Expr} {τo : DE} {pos : Pos}
def dXf (a dd : Addr) (n : Str) (τ : DE) : DE := fun ρ M k x => τ ρ M (fun u M1 => ∃ fs v, u = .exc a dd fs ∧ fs.lookup n = some v ∧ k v M1) x
theorem d_xf {a C dd : Addr} {oe : Obj} {n : Str} (T : XfC X.K C) (hno : PySem.W.findIn X.K (.ref C) n = some none) (hp : (a, oe) ∈ X.pn) (hz : Zc (.ref C) (some dd) oe) (hf : ∃ vs, oe.data = .fields vs) (he : DP X E e τo)
    (hb : attributeBase e n X.env (eval e X.env) = eval e X.env := by rfl) : DP X E (.Attribute e n pos) (dXf a dd n τo) := by
  refine ⟨fun pins s σ H Q I h => ?_⟩
  obtain ⟨ρ, s0, kk, xx, rfl, er, q, pp, px⟩ := h
  refine attr_of hb (thn (he.run pins s σ s0.H (fun v H1 => ∃ s1 d, s1.H = H1 ∧ Ok X.K s1 ∧ Step s0 s1 ∧ Rep X.K s1.G v d ∧ ∃ fs w, d = .exc a dd fs ∧ fs.lookup n = some w ∧ kk w s1.M) I
    ⟨ρ, s0, _, xx, rfl, er, q, fun d s1 q1 st1 ok1 v1 r1 => ⟨s1, d, rfl, ok1, st1, r1, q1⟩, px⟩) fun u s1 ⟨v, H1, I1, rv, sa, d, e1, oka, sta, ra, fs, w, ed, hl, q1⟩ => ?_)
  subst e1
  subst ed
  cases ra with
  | @exc _ _ fvs _ h r =>
  obtain rfl : u = Value.ref a := rv
  obtain ⟨wv, hl2, rw2⟩ := r.get hl
  have hobj : ObjOk X.prog X.w sa.H s1.heap dd (.xd fvs) := I1.hok dd _ (oka.sub _ _ h)
  obtain ⟨mA, hns, hrel⟩ := hobj
  obtain ⟨od, hod, hlk⟩ := lookIn_ns hns
  obtain ⟨uv, hu, ru⟩ := RelO.some_of (v := wv) (o := mA n) (by have := hrel n; rw [hl2] at this; exact this)
  obtain ⟨vs, hvs⟩ := hf
  have at_ : PySem.W.InstAt s1.heap a oe C (some od) := ⟨(I1.pin (a, oe) (List.mem_append_left _ hp)).1, hz.1, by unfold PySem.W.notCls; rw [hvs] <;> rfl, by rw [hz.2]; exact hod⟩
  exact HandSPX.exc_get I1.kIn at_ T.ga T.gg T.exC (PySem.W.findObj_own T.hdC hno rfl (by rw [hlk, hu])) (handed_of ru) ⟨wv, sa.H, I1.tok _, ru, (pp.step sta).now q1 oka rw2⟩
end
/-! ### a def called while an exception is handled -/
/-- its promise; p: the exception -/
structure FnP (P : Program) (w : World) (K : PySem.W.Frag) (mg : Str → Option Value) (base : Heap) (f : Addr) (fd : FuncData) (ps : List Str) (sp : Addr × Obj → Sp) : Prop where
  len : ∀ p vs H Q E, sp p vs H Q E → vs.length = ps.length
  run : ∀ (A : Around) (outer : List Env) (s : Shared) (H : Hp) (args : Args) (us : List Value) (vs : List V) (Q : VK) (E : XK) (p : Addr × Obj), L2H.RoomH 1 A → L2H.PinOk outer H s p → Env0 P w K mg base A outer s H → BindsTo s fd args (ps.zip us) → Vals vs us → sp p vs H Q E →
    codeAny (model P w) A (.call (.ref f) args) (CR (L2.CX P w) outer P w H s Q E) s
/-- the exception's class and dict, its fields by data -/
def spE (K : PySem.W.Frag) (Good : Addr → Prop) (φ : Addr → Addr → Ct) : Addr × Obj → Sp := fun p vs H Q E => ∃ C dd, Good C ∧ Zc (.ref C) (some dd) p.2 ∧ (∃ ws, p.2.data = .fields ws) ∧ spD K 1 (φ p.1 dd) vs H Q E
section
variable {P : Program} {w : World} {K : PySem.W.Frag} {mg : Str → Option Value} {base : Heap}
theorem fn_P {x qual : Str} {params : Arguments} {body : List Stmt} {scope : Scope} {f : Addr} {fd : FuncData} {N : List Str} {y : Str} {Good : Addr → Prop} {φ : Addr → Addr → Ct} (F : FunD K x qual params body scope [] [] f fd) (S : FnScope N [y] scope)
    (h : ∀ (cdv : Value) (A : Around) (outer : List Env) (s : Shared) (H : Hp) (E : XK) (a : Addr) (oe : Obj) (C dd : Addr), Good C → Zc (.ref C) (some dd) oe → (∃ ws, oe.data = .fields ws) → (A.deeper (envOfC qual scope s.heap.objs.size f cdv)).units + 64 < cLine →
      ∃ τ, DPB (L2H.cxH (L2.CX P w) P w K mg base N qual scope f cdv A outer s H E (a, oe)) E body τ ∧
        ∀ (ds : List D) (M : Mm) (kk : DK) (x : DX), ds.length = 1 → φ a dd ds M kk x → τ { nx := fun _ M => kk .non M, rt := kk, m0 := M } x (startD N ds) M) : FnP P w K mg base f fd [y] (spE K Good φ) := by
  obtain ⟨oc, od, dV, kV, doc, pm, an, cdv, ct, osl, rfl, lk, hcd, _, _⟩ := F.ex
  refine ⟨fun p vs H Q E ⟨C, dd, _, _, _, q⟩ => spD_len q, fun A outer s H args us vs Q E p hr hpin e0 hb r hsp => ?_⟩
  obtain ⟨C, dd, hgood, hz, hws, hq⟩ := hsp
  have KX : K.In s.heap := e0.mod.kin.keeps fun b o e => (e0.bs b o e).1
  have hkind : ∀ z ∈ [y].zip us, scope.names.lookup z.1 = some .local ∨ (scope.names.lookup z.1 = some .cell ∧ ((cellsFrom (s.heap.objs.size + 1) scope.names []).lookup z.1).isSome = true) := by
    rintro ⟨n, v⟩ hz
    have hm := (List.of_mem_zip hz).1
    rcases S.par n hm with q | q
    · exact Or.inl q
    · exact Or.inr ⟨q, PySem.W.cellsFrom_some _ _ _ (Or.inl q)⟩
  refine codeAny_call_function hr.depth (KX _ _ lk) rfl S.co S.gen rfl (PySem.W.codeRec_of KX hcd) (hb _ _ _ _ ?_)
  refine wpAny_newFunctionEnv_cells S.kind hkind fun env henv s1 hin => ?_
  subst henv
  have nolim : s.heap.NoLimit := e0.mod.nolimit.keeps fun b o e => (e0.bs b o e).1
  refine ⟨nolim.keeps hin.toInCall.keep, codeAny_func ?_⟩
  obtain ⟨τ, ht, hτ⟩ := h cdv A outer s H E p.1 p.2 C dd hgood hz hws (by have := hr.un; show A.units + 3 + 64 < _; omega)
  have J : Inv (L2H.cxH (L2.CX P w) P w K mg base N qual scope f cdv A outer s H E p) [] (L2.start N vs) H s1 := L2H.inv_startH S hpin e0 (spD_len hq) r hin
  obtain ⟨s0, ds, kk, xx, rfl, o, rr, hl, hf, pp, px⟩ := hq
  have up0 : upS K E τ { nx := fun _ H' => Q .non H', rt := Q } (L2.start N vs) s0.H :=
    ⟨_, s0, _, xx, rfl, er_start o rr, hτ ds s0.M kk xx hl hf, ⟨fun ρ t q st σ er => pp _ t q st er.ok _ .non, ⟨s0, Step.refl s0, o, rfl, pp⟩, fun _ _ z => z.elim, fun _ _ z => z.elim⟩, px⟩
  refine wpAny_mono (ht.run [] s1 _ _ _ J up0) (fun fl s2 hs => ?_) fun e s2 hs => hs
  match fl, hs with
  | .ret u, hs =>
    obtain ⟨v, σ', H', J', rv, q⟩ := hs
    exact ⟨v, H', J'.os, J'.bare, J'.base, J'.hok, rv, q⟩
  | .next, hs =>
    obtain ⟨σ', H', J', q⟩ := hs
    exact ⟨V.non, H', J'.os, J'.bare, J'.base, J'.hok, rfl, q⟩
  | .brk, hs => exact hs.elim fun _ h => h.elim fun _ h => h.2.elim
  | .cont, hs => exact hs.elim fun _ h => h.elim fun _ h => h.2.elim
end
/-- x(e), e the handled exception -/
def dCallP (φ : Ct) (τ : DE) : DE := fun ρ M k x => dCons τ dNil ρ M (fun ds M1 => ds.length = 1 ∧ φ ds M1 k x) x
section
variable {X : Cx} {E : XK} {e : Expr} {τo : DE} {pos q : Pos} {f : Addr} {fd : FuncData} {y x : Str} {Good : Addr → Prop} {φ : Addr → Addr → Ct}
theorem d_callP {a C dd : Addr} {oe : Obj} (F : FnP X.prog X.w X.K X.mg X.base f fd [y] (spE X.K Good φ)) (hr : L2H.RoomH 1 X.A) (hp : (a, oe) ∈ X.pn) (hG : Good C) (hz : Zc (.ref C) (some dd) oe) (hf : ∃ vs, oe.data = .fields vs) (hg : Gl X x) (hm : X.mg x = some (.ref f)) (hk : PySem.W.keepIn X.K (.ref f) = true) (hb : Binds X.K fd [y] [])
    (hx : Passes (L2.CX X.prog X.w) X E) (he : DP X E e τo) (hdb : (x == ("__debug__" : Str)) = false := by decide) (hs : starEach [e] X.env = (false, eval e X.env) :: starEach [] X.env := by rfl) (hpl : (backTo pos (starEach [] X.env)).any (·.1) = false := by rfl) :
    DP X E (.Call (.Name x q) [e] [] pos) (dCallP (φ a dd) τo) := by
  refine ⟨fun pins s σ H Q I h => ?_⟩
  obtain ⟨ρ, s0, kk, xx, rfl, er, q, pp, px⟩ := h
  have ha : DPA X E [e] (dCons τo dNil) := a_cons he a_nil hs
  refine wpAny_Call_Name_kw (ld_glob I hg hm ?_ hdb)
  refine PySem.W.callWith_K (h₀ := X.base) I.ok.mod.kin hk (thn (ha.run pos pins s σ s0.H (fun vs H1 => ∃ s1 ds, s1.H = H1 ∧ Ok X.K s1 ∧ Step s0 s1 ∧ Reps X.K s1.G vs ds ∧ ds.length = 1 ∧ φ a dd ds s1.M kk xx) I
    ⟨ρ, s0, _, xx, rfl, er, q, fun ds s1 q1 st1 ok1 vs r1 => ⟨s1, ds, rfl, ok1, st1, r1, q1⟩, px⟩) fun us s1 ⟨vs, H1, I1, r, s2, ds, e2, ok2, st2, r2, l2, q2⟩ => ⟨I1.kIn, ?_⟩) hs hpl
  subst e2
  have hl : us.length = 1 := by rw [← r.length, r2.length, l2]
  have bb := hb s1 us I1.kIn (by rw [List.append_nil]; exact hl)
  rw [List.append_nil] at bb
  obtain ⟨p1, p2, p3, p4, p5⟩ := I1.pin (a, oe) (List.mem_append_left _ hp)
  have pin : L2H.PinOk X.stack s2.H s1 (a, oe) := ⟨p1, p2, fun hm => (List.mem_cons.mp (I1.stkSub a hm)).elim p3 p4, p5⟩
  have sp : spE X.K Good φ (a, oe) vs s2.H Q E := ⟨C, dd, hG, hz, hf, s2, ds, kk, xx, rfl, ok2, r2, l2, q2, pp.step st2, px.step st2⟩
  refine wpAny_call (codeAny_mono (F.run X.A X.stack s1 s2.H ⟨us, []⟩ us vs Q E (a, oe) hr pin I1.env0 bb r sp) fun res s' hq => ?_)
  match res, hq with
  | .error e, hq => exact hx pins σ s2.H s1 e s' I1 hq
  | .ok (.ret u), hq => exact I1.after hq
  | .ok .next, hq => exact hq.elim
  | .ok .brk, hq => exact hq.elim
  | .ok .cont, hq => exact hq.elim
end
end DL
set_option Elab.async false
set_option linter.all false
set_option maxRecDepth 100000
set_option maxHeartbeats 2000000
namespace DL
open PySem PySem.Spec PyProof.Rows L2
theorem fly_keeps {B h h' : Heap} {l : List Env} {a : Addr} {Z : Obj → Prop} (x : HandSPX.FlyingZ B l a Z h) (k : ∀ b o, h.get? b = some o → h'.get? b = some o) : HandSPX.FlyingZ B l a Z h' := by
  obtain ⟨f1, f2, f3, oe, vs, T, oT, ts, he, hz, hd, h1, h2, h3, hT, hdT, h4⟩ := x
  exact ⟨fun b o q => k b o (f1 b o q), f2, f3.of_keeps fun b o q _ => ⟨o, k b o q, rfl⟩, ⟨oe, vs, T, oT, ts, k _ _ he, hz, hd, h1, h2, h3, k _ _ hT, hdT, h4⟩⟩
/-- what the clause 'except (x, y, z) as n' wishes of an exception of the body; it takes it -/
def wT (K : PySem.W.Frag) (cs : List Value) (i nn : Nat) (ts : Addr → Value → Option Addr → TS) (D : Ends) : WX := fun cls d σ H =>
  PySem.W.exmAny K cls cs = some true ∧ (σ.length = nn → ∀ a, H a = none → ts a cls d { nx := fun σ' H' => D.nx (σ'.set i none) H', rt := D.rt, bk := fun σ' H' => D.bk (σ'.set i none) H', ct := fun σ' H' => D.ct (σ'.set i none) H' } (σ.set i (some (.ref a))) H)
section
variable {X : Cx} {x1 x2 x3 n : Str} {c1 c2 c3 : Value} {i kk : Nat} {body suite : List Stmt} {b₀ : Stmt} {q1 q2 q3 tp pos pos' : Pos} {tb : WX → TS} {ts : Addr → Value → Option Addr → TS}
theorem ps_try3 (hs : X.stack = X.env :: X.outer) (hf : X.env.frame = some X.env.locals) (hN : X.N.Nodup) (hi : X.N[i]? = some n) (hln : X.env.kindOf n = some .local) (g1 : Gl X x1) (m1 : X.mg x1 = some c1) (g2 : Gl X x2) (m2 : X.mg x2 = some c2) (g3 : Gl X x3) (m3 : X.mg x3 = some c3)
    (hb : ∀ (W : WX) (pn : List (Addr × Obj)) (xe : Value → Shared → Prop), Takes (X.tr pn xe) W → PSs (X.tr pn xe) body (tb W))
    (hsu : ∀ (a : Addr) (oe : Obj) (cls : Value) (d : Option Addr) (pn : List (Addr × Obj)), Zc cls d oe → (∃ vs, oe.data = .fields vs) → PSs (X.suite a ((a, oe) :: pn)) (b₀ :: suite) (ts a cls d))
    (d1 : (x1 == ("__debug__" : Str)) = false := by decide) (d2 : (x2 == ("__debug__" : Str)) = false := by decide) (d3 : (x3 == ("__debug__" : Str)) = false := by decide) :
    PS X (.Try body [.ExceptHandler (some (.Tuple [.Name x1 q1, .Name x2 q2, .Name x3 q3] kk tp)) (some n) (b₀ :: suite) pos'] [] [] pos) (fun D σ H => tb (wT X.K [c1, c2, c3] i X.N.length ts D) D σ H) := by
  refine ⟨fun pins s σ H D I h => ?_⟩
  have okX := I.ok
  have frames : X.A.frames = some (X.env :: X.outer) := by rw [okX.frames, hs]
  let caught : Value → Shared → Prop := fun e s₁ => wpAny (model X.prog X.w) X.A (noteFrame e X.env) (fun _ s₂ => wpAny (model X.prog X.w) X.A (setFlight e none) (fun _ s₃ =>
    wpAny (model X.prog X.w) X.A (handleBy e X.env [.ExceptHandler (some (.Tuple [.Name x1 q1, .Name x2 q2, .Name x3 q3] kk tp)) (some n) (b₀ :: suite) pos']) (SP X pins D) X.xe s₃) X.xe s₂) X.xe s₁
  have tk : Takes (X.tr (X.pn ++ pins) caught) (wT X.K [c1, c2, c3] i X.N.length ts D) := by
    intro u s' xx
    obtain ⟨a, B, sI, pins', σ1, H1, cls, d, rfl, J', nb, up, sky, na, os, ag, hm, hw⟩ := xx
    have J : Inv X pins σ1 H1 sI := J'.ofTry okX
    have hw := hw J.len
    have sky' : Sky B (X.env :: X.outer) a (Zc cls d) X.env.locals s'.heap := by rw [← hs]; exact sky
    show wpAny (model X.prog X.w) X.A (noteFrame (.ref a) X.env) _ _ _
    refine Sky.land Zc.steady frames hf sky' fun h3 fl up3 => ?_
    have outside : ∀ {h : Heap} {o : Obj} {vs : Array Value}, h.FunFrames B (X.env :: X.outer) → h.get? a = some o → o.data = .fields vs → a ∉ frs (X.env :: X.outer) := by
      intro h o vs ff e dd hm
      obtain ⟨_, o2, e2, nf⟩ := ff.mem hm
      rw [e] at e2
      cases e2
      exact nf _ dd
    obtain ⟨oe, vs, he, hz, hd⟩ := fl.there
    have out := outside fl.2.2.1 he hd
    have noL : a ≠ X.env.locals := fun z => out (List.mem_filterMap.mpr ⟨X.env, List.mem_cons_self, by rw [hf, z]⟩)
    have noF : a ∉ X.fs := by
      intro hm
      obtain ⟨e2, he2, q⟩ := List.mem_filterMap.mp hm
      exact out (List.mem_filterMap.mpr ⟨e2, List.mem_cons_of_mem _ he2, q⟩)
    have J3 : Inv X pins σ1 H1 { s' with heap := h3 } := J.landed nb fl.1 (up.trans up3) os ag
    have S3 := J3.suite he hd na noL noF
    refine wpAny_handleBy_cons (codeAny_handlers_test ?_) (by intro q; cases q)
    refine wpAny_Tuple ?_
    refine wpAny_items_cons (ld_glob (X := X.suite a ((a, oe) :: (X.pn ++ pins))) S3 g1 m1 ?_ d1)
    refine wpAny_items_cons (ld_glob (X := X.suite a ((a, oe) :: (X.pn ++ pins))) S3 g2 m2 ?_ d2)
    refine wpAny_items_cons (ld_glob (X := X.suite a ((a, oe) :: (X.pn ++ pins))) S3 g3 m3 ?_ d3)
    refine wpAny_items_nil ⟨by size_fits, ?_⟩
    have grow : ∀ b o, h3.get? b = some o → (h3.push { cls := .type "tuple", data := .seq [c1, c2, c3].toArray }).get? b = some o := fun _ _ z => Heap.get?_push_of_some _ z
    have ty : PySem.W.Looks (model X.prog X.w) h3 (typeOf (.ref a)) cls := fun A Q E s k q => wpAny_typeOf_ref (k _ _ he) (by rw [hz.1]; exact q)
    refine (PySem.W.exm_tup3 (J3.kIn.keeps grow) (ty.keeps grow) (Heap.get?_push_size h3 rfl) hm).here ?_
    refine codeAny_handlers_suite_as ?_
    refine HandSPX.lands_againZ (fly_keeps fl grow) fun h4 fl4 up4 => ?_
    have J4 : Inv X pins σ1 H1 { s' with heap := h4 } := J.landed nb fl4.1 (((up.trans up3).trans (Heap.UpToSlots.of_keeps grow)).trans up4) os ag
    obtain ⟨oe4, vs4, he4, hz4, hd4⟩ := fl4.there
    have S4 := J4.suite he4 hd4 na noL noF
    refine store_ok (X := X.suite a ((a, oe4) :: (X.pn ++ pins))) (v := .ref a) S4 hN hi (.inl hln) rfl (fun s5 S5 => ?_) (.inr hln)
    refine wpAny_mono ((hsu a oe4 cls d (X.pn ++ pins) hz4 ⟨_, hd4⟩).run [] s5 _ H1 _ S5 (hw a na)) (fun fl s6 hsp => ?_) (fun _ _ z => False.elim z)
    have gone : ∀ {σ6 : L2.St} {H6 : Hp} {Q : Shared → Prop}, Inv (X.suite a ((a, oe4) :: (X.pn ++ pins))) [] σ6 H6 s6 → (∀ s7, Inv X pins (σ6.set i none) H6 s7 → Q s7) →
        wpAny (model X.prog X.w) X.A (do bindName X.env n .none; unbindBehindTheSuite X.env n pos') (fun _ s7 => Q s7) X.xe s6 := fun S6 hq => gone_ok (S6.unsuite okX) hN hi hln hq
    match fl, hsp with
    | .next, ⟨_, _, S6, q6⟩ => exact gone S6 fun s7 J7 => ⟨_, _, J7, q6⟩
    | .brk, ⟨_, _, S6, q6⟩ => exact gone S6 fun s7 J7 => ⟨_, _, J7, q6⟩
    | .cont, ⟨_, _, S6, q6⟩ => exact gone S6 fun s7 J7 => ⟨_, _, J7, q6⟩
    | .ret u, ⟨_, _, _, S6, r6, q6⟩ => exact gone S6 fun s7 J7 => ⟨_, _, _, J7, r6, q6⟩
  refine wpAny_Try_except (wpAny_mono ((hb _ (X.pn ++ pins) caught tk).run [] s σ H D (I.toTry _) h) (fun fl s1 hsp => ?_) fun e s1 he => he)
  match fl, hsp with
  | .next, ⟨σ', H', J', q⟩ => exact wpAny_execs_nil ⟨σ', H', J'.ofTry okX, q⟩
  | .brk, ⟨σ', H', J', q⟩ => exact ⟨σ', H', J'.ofTry okX, q⟩
  | .cont, ⟨σ', H', J', q⟩ => exact ⟨σ', H', J'.ofTry okX, q⟩
  | .ret u, ⟨v, σ', H', J', r, q⟩ => exact ⟨v, σ', H', J'.ofTry okX, r, q⟩
end
end DL
set_option Elab.async false
set_option linter.all false
set_option maxRecDepth 100000
set_option maxHeartbeats 2000000
namespace DL
open PySem PySem.Spec PyProof.Rows L2
/-- a table of code objects grows by one -/
theorem Ok.table {K : PySem.W.Frag} {s : Sta} {P c : Addr} {q : Str} {ps' : Array Value} (k : Ok K s) (hM : s.M P = some (.tbl q)) (hc : s.H c = none) (ht : TriplesOk ps'.toList)
    (ha : ∀ (pos : Pos) (cv : Value), codeAmong pos ps'.toList = some cv → cv = .ref c ∨ ∃ c0, cv = .ref c0 ∧ s.G c0 = some (LamX.CodeO c0 q)) :
    Ok K ⟨upd (upd s.H P (.tbl ps')) c (LamX.CodeO c q), upd s.G c (LamX.CodeO c q), s.M⟩ ∧ Step s ⟨upd (upd s.H P (.tbl ps')) c (LamX.CodeO c q), upd s.G c (LamX.CodeO c q), s.M⟩ := by
  obtain ⟨ps, eP, _, _⟩ := k.cells P _ hM
  have nPc : P ≠ c := ne_of_none eP hc
  have gP : s.G P = none := k.apart P _ hM
  have gc : s.G c = none := k.freeG hc
  have mc : s.M c = none := k.freeM hc
  refine ⟨⟨fun b u e => ?_, fun a mo e => ?_, fun a mo e => ?_⟩, ⟨same_new gc, fun _ x => x, fun a u h1 h2 h3 => ?_⟩⟩
  · have e' : upd s.G c (LamX.CodeO c q) b = some u := e
    show upd (upd s.H P (.tbl ps')) c (LamX.CodeO c q) b = some u
    by_cases eb : b = c
    · subst eb
      rw [upd_same] at e' ⊢
      exact e'
    · rw [upd_ne eb] at e' ⊢
      rw [upd_ne (ne_of_none e' gP)]
      exact k.sub b u e'
  · have ne : a ≠ c := fun z => by rw [z, mc] at e; cases e
    show upd s.G c _ a = none
    rw [upd_ne ne]
    exact k.apart a mo e
  · have ne : a ≠ c := fun z => by rw [z, mc] at e; cases e
    show MRep K (upd s.G c _) (upd (upd s.H P (.tbl ps')) c _ a) mo
    rw [upd_ne ne]
    by_cases eP2 : a = P
    · subst eP2
      have e2 : s.M a = some mo := e
      rw [hM] at e2
      cases e2
      rw [upd_same]
      refine ⟨ps', rfl, ht, fun pos cv hcv => ?_⟩
      rcases ha pos cv hcv with z | ⟨c0, z1, z2⟩
      · exact ⟨c, z, upd_same⟩
      · exact ⟨c0, z1, same_new gc _ _ z2⟩
    · rw [upd_ne eP2]
      exact (k.cells a mo e).same (same_new gc)
  · have ne : a ≠ c := ne_of_none h1 hc
    have nP : a ≠ P := fun z => by rw [z, hM] at h3; cases h3
    exact ⟨by show upd (upd s.H P _) c _ a = _; rw [upd_ne ne, upd_ne nP]; exact h1, by show upd s.G c _ a = _; rw [upd_ne ne]; exact h2, h3⟩
section
variable {X : Cx} {pins : List (Addr × Obj)} {σ : L2.St} {H : Hp} {s : Shared}
/-- a lambda is made: what is new in the tracked heap -/
theorem lam_made {c P : Addr} {ps : Array Value} {params : Arguments} {body : Expr} {scope : Scope} {pos : Pos} {E : Value → Shared → Prop} {Q : Value → Shared → Prop} (I : Inv X pins σ H s) (TB : LamX.TabB X.base X.mg c P) (hcode : X.env.code = .ref c)
    (hP : H P = some (.tbl ps)) (ht : TriplesOk ps.toList) (ha : ∀ (pos : Pos) (cv : Value), codeAmong pos ps.toList = some cv → ∃ c, cv = .ref c ∧ H c = some (LamX.CodeO c (X.env.qual ++ "<lambda>")))
    (hdef : defaultsOf params X.env = ([], [])) (hfree : ∀ y ∈ scope.names, y.2 = .free → ∃ c, X.env.cells.lookup y.1 = some c)
    (h : ∀ (f c' : Addr) (pm ctv : Value) (H1 : Hp) (s' : Shared), Inv X pins σ H1 s' → ((H1 = H ∧ ∃ p : Pos, codeAmong p ps.toList = some (.ref c')) ∨ ∃ ps' : Array Value, H c' = none ∧ H1 = upd (upd H P (.tbl ps')) c' (LamX.CodeO c' (X.env.qual ++ "<lambda>")) ∧ TriplesOk ps'.toList ∧
        ∀ (p : Pos) (cv : Value), codeAmong p ps'.toList = some cv → cv = .ref c' ∨ codeAmong p ps.toList = some cv) →
      s'.heap.get? f = some (PySem.W.kla_obj "<lambda>" (X.env.qual ++ "<lambda>") params body scope (cloFrom X.env.cells scope.names []) pm c' ctv) → H1 f = none → f ∉ frs X.stack → s.heap.objs.size ≤ f → Q (.ref f) s') :
    wpAny (model X.prog X.w) X.A (eval (.Lambda params body scope pos) X.env) Q E s := by
  refine PySem.W.kla_eval hdef ?_
  have atP : s.heap.get? P = some { cls := .none, data := .fields ps } := I.hok P _ hP
  have young : ∀ f, s.heap.objs.size ≤ f → f ∉ frs X.stack := by
    intro f hf z
    rcases List.mem_cons.mp (I.stkSub _ z) with e | e
    · have h1 := I.lt
      rw [← e] at h1
      exact absurd (Nat.lt_of_lt_of_le h1 hf) (Nat.lt_irrefl _)
    · exact I.nofs hf e
  match hc : codeAmong pos ps.toList with
  | some cv =>
    obtain ⟨c', rfl, hco⟩ := ha pos cv hc
    refine PySem.W.kla_makeFunctionHit (mg := X.mg) (c := c) (P := P) (ps := ps) (closure_ok hfree) I.ok.glob (I.mod.glob.keeps I.bk) hcode (TB.code.keeps I.bk) atP ht hc (TB.bm.keeps I.bk) fun ctv h' tk hx hsz => ?_
    refine h h'.objs.size c' ((X.mg "__name__").getD .none) ctv H _ (I.kept (t' := tk) fun b o e => Heap.get?_push_of_some _ (hx b o e)) (.inl ⟨rfl, pos, hc⟩) (Heap.get?_push_size _ rfl) (I.hok.fresh hsz) (young _ hsz) hsz
  | none =>
    refine PySem.W.kla_makeFunction (mg := X.mg) (c := c) (P := P) (ps := ps) (closure_ok hfree) I.ok.glob (I.mod.glob.keeps I.bk) hcode (TB.code.keeps I.bk) atP ht hc TB.gP (TB.bm.keeps I.bk) fun c' ctv h' tk hx hge hlt hrec htb => ?_
    obtain ⟨c2, oc, vs, t, e2, hoc, hd, hv⟩ := hrec
    cases e2
    have big : s.heap.objs.size ≤ h'.objs.size := Nat.le_trans hge (Nat.le_of_lt hlt)
    have nC : H c' = none := I.hok.fresh hge
    have eL : (ps ++ #[rawInt pos.line, rawInt pos.col, .ref c']).toList = ps.toList ++ [rawInt pos.line, rawInt pos.col, .ref c'] := by simp
    have J := LamX.inv_table (t' := tk) (more := #[rawInt pos.line, rawInt pos.col, .ref c']) (h' := h'.push (PySem.W.kla_obj "<lambda>" (X.env.qual ++ "<lambda>") params body scope (cloFrom X.env.cells scope.names []) ((X.mg "__name__").getD .none) c' ctv)) I hP
      (fun b o hb e => Heap.get?_push_of_some _ (hx b o hb e)) (Heap.get?_push_of_some _ htb) hge ⟨oc, vs, t, Heap.get?_push_of_some _ hoc, hd, hv⟩
    refine h h'.objs.size c' ((X.mg "__name__").getD .none) ctv _ _ J (.inr ⟨_, nC, rfl, by rw [eL]; exact PySem.TriplesOk_snoc _ _ _ _ ht, fun p cv z => ?_⟩) (Heap.get?_push_size _ rfl) ?_ (young _ big) big
    · rw [eL] at z
      exact (LamX.among_app _ ht z).elim .inr .inl
    · have n1 : h'.objs.size ≠ c' := Nat.ne_of_gt hlt
      have n2 : h'.objs.size ≠ P := Nat.ne_of_gt (Nat.lt_of_lt_of_le (Heap.lt_size atP) big)
      rw [upd_ne n1, upd_ne n2]
      exact I.hok.fresh big
/-- .. over data: nothing changes but what is hidden -/
theorem lam_data {c' P : Addr} {s0 : Sta} {q : Str} {H1 : Hp} {ps : Array Value} (ok : Ok X.K s0) (hM : s0.M P = some (.tbl q)) (hps : s0.H P = some (.tbl ps)) (ha : ∀ (pos : Pos) (cv : Value), codeAmong pos ps.toList = some cv → ∃ c, cv = .ref c ∧ s0.G c = some (LamX.CodeO c q))
    (hH : (H1 = s0.H ∧ ∃ p : Pos, codeAmong p ps.toList = some (.ref c')) ∨ ∃ ps' : Array Value, s0.H c' = none ∧ H1 = upd (upd s0.H P (.tbl ps')) c' (LamX.CodeO c' q) ∧ TriplesOk ps'.toList ∧ ∀ (p : Pos) (cv : Value), codeAmong p ps'.toList = some cv → cv = .ref c' ∨ codeAmong p ps.toList = some cv) :
    ∃ s1 : Sta, s1.H = H1 ∧ Step s0 s1 ∧ Ok X.K s1 ∧ s1.M = s0.M ∧ s1.G c' = some (LamX.CodeO c' q) := by
  rcases hH with ⟨rfl, p, h⟩ | ⟨ps', hn, rfl, ht, hall⟩
  · obtain ⟨c2, e1, e2⟩ := ha p _ h
    cases e1
    exact ⟨s0, rfl, Step.refl _, ok, rfl, e2⟩
  · obtain ⟨o, st⟩ := ok.table hM hn ht (fun p cv z => (hall p cv z).imp id fun w => ha p cv w)
    exact ⟨_, rfl, st, o, rfl, upd_same⟩
end
end DL
set_option Elab.async false
set_option linter.all false
set_option maxRecDepth 100000
set_option maxHeartbeats 2000000
namespace DL
open PySem PySem.Spec PyProof.Rows L2
/-! ### the attributes of an error by its code -/
def inC (c : Str) (xs : List Str) : Bool := inD (.str c) (xs.map .str)
def eqC (c x : Str) : Bool := decide (toV (.str c) = toV (.str x))
def oneF (fs : List (Str × D)) (n : Str) : Option (List D) := (fs.lookup n).map fun d => [d]
def twoF (fs : List (Str × D)) (n m : Str) : Option (List D) := (fs.lookup n).bind fun d => (fs.lookup m).map fun u => [d, u]
def fieldsOf (c : Str) (fs : List (Str × D)) : Option (List D) :=
  if inC c ["InvalidRatio", "InvalidSpan", "InvalidCount", "InvalidLimit"] = true then oneF fs "given"
  else if inC c ["InvalidText", "InvalidCorners", "InvalidTiles", "InvalidDeed"] = true then
    (if eqC c "InvalidText" = true then oneF fs "line" else if eqC c "InvalidDeed" = true then oneF fs "index" else oneF fs "at")
  else if inC c ["InvalidName", "DuplicateName", "UnknownTile", "UnknownMark"] = true then oneF fs "name"
  else if inC c ["SplitSide", "InvalidWall", "MarkedSide", "UnknownSide"] = true then oneF fs "side"
  else if inC c ["TooMany", "TooFar"] = true then oneF fs "most"
  else if inC c ["Overlap", "InvalidChord", "NotJoined"] = true then twoF fs "one" "other"
  else if inC c ["InvalidPlace", "InvalidRound"] = true then oneF fs "value"
  else if eqC c "LooseCorner" = true then oneF fs "corner" else some []
/-- what _law_fields(e) keeps -/
def phF (a dd : Addr) : Ct := fun ds M k _ => ∃ fs code vals, ds = [.exc a dd fs] ∧ List.lookup ("code" : Str) fs = some (.str code) ∧ fieldsOf code fs = some vals ∧ vals.length ≤ 2 ∧ k (.tup vals) M
/-- what is known of the classes of the errors -/
structure GoodX (K : PySem.W.Frag) (cs : List Value) (C : Addr) : Prop where
  xf : XfC K C
  ex : PySem.W.exmAny K (.ref C) cs = some true
  no : ∀ n ∈ (["code", "given", "line", "index", "at", "name", "side", "most", "one", "other", "value", "corner"] : List Str), PySem.W.findIn K (.ref C) n = some none
/-- _law_try(lambda: e) -/
def dTry (P : Addr) (q : Str) (Good : Addr → Prop) (τ : DE) : DE := fun ρ M k _ => M P = some (.tbl q) ∧ τ ρ M (fun d M1 => k (.tup [.str "told", d]) M1)
  (fun C fs M1 => Good C ∧ ∃ code vals, List.lookup ("code" : Str) fs = some (.str code) ∧ fieldsOf code fs = some vals ∧ vals.length ≤ 2 ∧ k (.tup (.str "no" :: .str code :: vals)) M1)
section
variable {P : Program} {w : World} {K : PySem.W.Frag} {mg : Str → Option Value} {base : Heap}
/-- the suite, over data -/
def τSuite (a dd : Addr) : DS := dRet (dOp dAdd (dTup (dCons (dC (.str "no")) (dCons (dXf a dd "code" (dVar 1)) dNil))) (dCallP (phF a dd) (dVar 1)))
theorem suite_D {X : Cx} {a C dd : Addr} {oe : Obj} {cs : List Value} {fF : Addr} {fdF : FuncData} {j1 kk : Nat} {p1 p2 p3 p4 p5 p6 p7 p8 p9 : Pos} (hN : X.N[1]? = some ("_law_e" : Str)) (hv : Vis X.env.scope "_law_e") (hp : (a, oe) ∈ X.pn) (G : GoodX X.K cs C) (hz : Zc (.ref C) (some dd) oe) (hf : ∃ vs, oe.data = .fields vs)
    (hr : L2H.RoomH 1 X.A) (F : FnP X.prog X.w X.K X.mg X.base fF fdF ["_law_e"] (spE X.K (GoodX X.K cs) phF)) (hg : Gl X "_law_fields") (hm : X.mg "_law_fields" = some (.ref fF)) (hk : PySem.W.keepIn X.K (.ref fF) = true) (hb : Binds X.K fdF ["_law_e"] [])
    (hat : attributeBase (.Name "_law_e" p3) "code" X.env (eval (.Name "_law_e" p3) X.env) = eval (.Name "_law_e" p3) X.env)
    (hs1 : starEach [.Constant (.str "no") j1 p2, .Attribute (.Name "_law_e" p3) "code" p4] X.env = (false, eval (.Constant (.str "no") j1 p2) X.env) :: starEach [.Attribute (.Name "_law_e" p3) "code" p4] X.env)
    (hs2 : starEach [.Attribute (.Name "_law_e" p3) "code" p4] X.env = (false, eval (.Attribute (.Name "_law_e" p3) "code" p4) X.env) :: starEach [] X.env)
    (hs3 : starEach [.Name "_law_e" p6] X.env = (false, eval (.Name "_law_e" p6) X.env) :: starEach [] X.env) (hpl : (backTo p8 (starEach [] X.env)).any (·.1) = false) :
    DPB X (fun _ _ _ => False) [.Return (some (.BinOp (.Tuple [.Constant (.str "no") j1 p2, .Attribute (.Name "_law_e" p3) "code" p4] kk p5) .Add (.Call (.Name "_law_fields" p7) [.Name "_law_e" p6] [] p8) p9)) p1] (τSuite a dd) := by
  have v : ∀ {q : Pos}, DP X (fun _ _ _ => False) (.Name "_law_e" q) (dVar 1) := fun {q} => dv 1 hN hv
  exact b_one (s_ret (d_op o_add (d_tup (a_cons d_str (a_cons (d_xf G.xf (G.no _ (by simp)) hp hz hf v hat) a_nil hs2) hs1)) (d_callP F hr hp G hz hf hg hm hk hb passes_no v (by decide) hs3 hpl)))
end
/-- the body of _law_try -/
abbrev tryBody (j1 j2 k1 k2 k3 : Nat) (p1 p2 p3 p4 p5 p6 p7 p8 p9 q1 q2 q3 q4 q5 q6 q7 q8 q9 r1 r2 : Pos) : List Stmt :=
  [.Try [.Return (some (.Tuple [.Constant (.str "told") j1 p1, .Call (.Name "_law_ask" p2) [] [] p3] k1 p4)) p5]
    [.ExceptHandler (some (.Tuple [.Name "GustError" p6, .Name "Missing" p7, .Name "NothingLeft" p8] k2 p9)) (some "_law_e")
      [.Return (some (.BinOp (.Tuple [.Constant (.str "no") j2 q2, .Attribute (.Name "_law_e" q3) "code" q4] k3 q5) .Add (.Call (.Name "_law_fields" q7) [.Name "_law_e" q6] [] q8) q9)) q1] r1] [] [] r2]
end DL
set_option Elab.async false
set_option linter.all false
set_option maxRecDepth 100000
set_option maxHeartbeats 2000000
namespace DL
open PySem PySem.Spec PyProof.Rows L2
theorem roomH1 {k : Nat} {A : Around} {e : Option Value} (r : Room (k + 1) A) : L2H.RoomH 1 (A.mark e) := ⟨by have := r.dp; show A.depth + 3 * 1 + 5 < _; omega, by have := r.un; show A.units + 16 * 1 + 200 < _; omega⟩
/-- what a law's _law_try must have -/
structure TryF (P : Program) (w : World) (K : PySem.W.Frag) (mg : Str → Option Value) (base : Heap) (cs : List Value) (g fF : Addr) (fdF : FuncData) : Prop where
  m : mg "_law_try" = some (.ref g)
  k : PySem.W.keepIn K (.ref g) = true
  f : ∃ (pg : Arguments) (sg : Scope) (dV kV doc pm cdv ct oc : Value) (an od : Option Addr) (osl : Array (Option Value)) (j1 j2 k1 k2 k3 : Nat) (p1 p2 p3 p4 p5 p6 p7 p8 p9 q1 q2 q3 q4 q5 q6 q7 q8 q9 r1 r2 : Pos),
    K.lookup g = some ⟨oc, od, .func (PySem.W.fnOf "_law_try" "_law_try" pg (tryBody j1 j2 k1 k2 k3 p1 p2 p3 p4 p5 p6 p7 p8 p9 q1 q2 q3 q4 q5 q6 q7 q8 q9 r1 r2) sg dV kV doc pm an cdv ct), osl⟩ ∧ PySem.W.codeIn K cdv "_law_try" = true ∧
      Binds K (PySem.W.fnOf "_law_try" "_law_try" pg (tryBody j1 j2 k1 k2 k3 p1 p2 p3 p4 p5 p6 p7 p8 p9 q1 q2 q3 q4 q5 q6 q7 q8 q9 r1 r2) sg dV kV doc pm an cdv ct) ["_law_ask"] [] ∧ FnScope ["_law_ask", "_law_e"] ["_law_ask"] sg ∧
      (sg.names.lookup ("_law_ask" : Str) = some .local ∧ sg.names.lookup ("_law_e" : Str) = some .local ∧ sg.names.lookup ("GustError" : Str) = some .globalImplicit ∧ sg.names.lookup ("Missing" : Str) = some .globalImplicit ∧ sg.names.lookup ("NothingLeft" : Str) = some .globalImplicit ∧ sg.names.lookup ("_law_fields" : Str) = some .globalImplicit)
  cls : ∃ c1 c2 c3, cs = [c1, c2, c3] ∧ mg "GustError" = some c1 ∧ mg "Missing" = some c2 ∧ mg "NothingLeft" = some c3
  mF : mg "_law_fields" = some (.ref fF)
  kF : PySem.W.keepIn K (.ref fF) = true
  bF : Binds K fdF ["_law_e"] []
  F : FnP P w K mg base fF fdF ["_law_e"] (spE K (GoodX K cs) phF)
section
variable {X : Cx} {E : XK} {cs : List Value} {g fF c P : Addr} {fdF : FuncData} {k : Nat} {params : Arguments} {body : Expr} {scope : Scope} {τ : DE} {p lpos pos : Pos}
theorem d_trylam (TF : TryF X.prog X.w X.K X.mg X.base cs g fF fdF) (hg : Gl X "_law_try") (TB : LamX.TabB X.base X.mg c P) (hcode : X.env.code = .ref c) (hr : Room (k + 2) X.A) (L : LamX.LamS X.env.scope scope) (hdef : defaultsOf params X.env = ([], []))
    (hbind : ∀ (q : Str) (cl : List (Str × Addr)) (pm cv ctv : Value), bindArgs (PySem.W.kla_fn "<lambda>" q params body scope cl pm cv ctv) ⟨[], []⟩ = pure [])
    (hbody : ∀ (A : Around) (outer : List Env) (s : Shared) (H : Hp) (E : XK) (f c' : Addr), Room k (A.deeper (LamX.lamEnv X scope s.heap.objs.size f c')) → Passes (L2.CX X.prog X.w) (LamX.lamCx X A outer s H E scope f c') E → DP (LamX.lamCx X A outer s H E scope f c') E body τ) :
    DP X E (.Call (.Name "_law_try" p) [.Lambda params body scope lpos] [] pos) (dTry P (X.env.qual ++ "<lambda>") (GoodX X.K cs) τ) := by
  refine ⟨fun pins s σ H Q I h => ?_⟩
  obtain ⟨ρ, s0, kk, xx, rfl, er, ⟨hM, q⟩, pp, px⟩ := h
  obtain ⟨ps, eP, ht, ha⟩ := er.ok.cells P _ hM
  obtain ⟨pg, sg, dV, kV, doc, pm, cdv, ct, oc, an, od, osl, j1, j2, k1, k2, k3, p1, p2, p3, p4, p5, p6, p7, p8, p9, q1, q2, q3, q4, q5, q6, q7, q8, q9, r1, r2, lk, hcg, hb, Sg, n1, n2, n3, n4, n5, n6⟩ := TF.f
  obtain ⟨c1, c2, c3, rfl, m1, m2, m3⟩ := TF.cls
  refine wpAny_Call_Name_kw (ld_glob I hg TF.m ?_ (by decide))
  refine PySem.W.callWith_K (h₀ := X.base) I.ok.mod.kin TF.k ?_ (by rfl) (by rfl)
  show wpAny _ _ (spliced ((false, eval (.Lambda params body scope lpos) X.env) :: backTo pos (starEach [] X.env))) _ _ s
  refine Calls.spliced_cons (lam_made I TB hcode eP ht (fun p cv z => let ⟨c, e1, e2⟩ := ha p cv z; ⟨c, e1, er.ok.sub _ _ e2⟩) hdef (L.has I.ok) fun f c' pm' ctv H1 s' I1 hH hf hfn hfr _ => ?_)
  refine Calls.spliced_nil ⟨I1.kIn, ?_⟩
  obtain ⟨s1, rfl, st1, ok1, eM, hc1⟩ := lam_data (X := X) er.ok hM eP ha hH
  have er1 := er.step st1 ok1
  have rc : codeAny (model X.prog X.w) X.A (.call (.ref g) ⟨[.ref f], []⟩) (CR (L2.CX X.prog X.w) X.stack X.prog X.w s1.H s' Q (fun _ _ _ => False)) s' := by
    refine LamX.run_ofS (N := ["_law_ask", "_law_e"]) (ps := ["_law_ask"]) (us := [.ref f]) (vs := [.ref f]) (k := k + 1) lk hcg Sg hr I1.env0 (hb s' [.ref f] I1.kIn rfl) (.cons rfl .nil) rfl fun hr' => ?_
    -- what an exception of the lambda must bring
    let Ech : XK := fun cls d H' => ∃ C dd, cls = .ref C ∧ d = some dd ∧ GoodX X.K [c1, c2, c3] C ∧ ∀ (σ' : L2.St), σ'.length = 2 → ∀ a, H' a = none → upS X.K (fun _ _ _ => False) (τSuite a dd) { nx := fun _ H' => Q .non H', rt := Q } (σ'.set 1 (some (.ref a))) H'
    let ts : Addr → Value → Option Addr → TS := fun a cls d D σ' H' => ∃ C dd, cls = .ref C ∧ d = some dd ∧ GoodX X.K [c1, c2, c3] C ∧ upS X.K (fun _ _ _ => False) (τSuite a dd) D σ' H'
    have hsu : ∀ (a : Addr) (oe : Obj) (cls : Value) (d : Option Addr) (pn : List (Addr × Obj)), Zc cls d oe → (∃ vs, oe.data = .fields vs) →
        PSs ((cxOf (L2.CX X.prog X.w) X.prog X.w X.K X.mg X.base ["_law_ask", "_law_e"] "_law_try" sg g cdv X.A X.stack s' s1.H (fun _ _ _ => False)).suite a ((a, oe) :: pn))
          [.Return (some (.BinOp (.Tuple [.Constant (.str "no") j2 q2, .Attribute (.Name "_law_e" q3) "code" q4] k3 q5) .Add (.Call (.Name "_law_fields" q7) [.Name "_law_e" q6] [] q8) q9)) q1] (ts a cls d) := by
      intro a oe cls d pn hz hfl
      refine ⟨fun pins2 s2 σ2 H2 D2 I2 h2 => ?_⟩
      obtain ⟨C, dd, rfl, rfl, hG, hu⟩ := h2
      exact (suite_D (X := (cxOf (L2.CX X.prog X.w) X.prog X.w X.K X.mg X.base ["_law_ask", "_law_e"] "_law_try" sg g cdv X.A X.stack s' s1.H (fun _ _ _ => False)).suite a ((a, oe) :: pn)) rfl (.inl n2) List.mem_cons_self hG hz hfl (roomH1 hr') TF.F n6 TF.mF TF.kF TF.bF rfl rfl rfl rfl rfl).run pins2 s2 σ2 H2 D2 I2 hu
    refine ⟨_, pss_one (ps_try3 (X := cxOf (L2.CX X.prog X.w) X.prog X.w X.K X.mg X.base ["_law_ask", "_law_e"] "_law_try" sg g cdv X.A X.stack s' s1.H (fun _ _ _ => False)) (i := 1) (n := "_law_e")
      (tb := fun W D σ' H' => (∀ cls d σ'' H'', Ech cls d H'' → W cls d σ'' H'') ∧ σ'[0]? = some (some (.ref f)) ∧ H' c' = some (LamX.CodeO c' (X.env.qual ++ "<lambda>")) ∧ up X.K Ech τ σ H' fun v H'' => ∀ p, H'' p = none → D.rt (.ref p) (upd H'' p (.tup [.str "told", v]))) (ts := ts)
      rfl rfl Sg.nd rfl n2 n3 m1 n4 m2 n5 m3 (fun W pn xe tk => ?_) hsu), ?_⟩
    · refine ⟨fun pins2 s2 σ2 H2 D2 I2 h2 => ?_⟩
      obtain ⟨hW, e1, e2, e3⟩ := h2
      have act := LamX.pe_act (CXg := L2.CX X.prog X.w) (Eg := fun _ _ _ => False) (Ng := ["_law_ask", "_law_e"]) (qg := "_law_try") (sg := sg) (g := g) (cdg := cdv) (k := k) (i := 0) (a := "_law_ask") (pn := pn) (xe := xe) (W := W) (E := Ech) (tb := up X.K Ech τ) (p1 := p2) (p2 := p3)
        I1 L hf hfn hfr (hbind _ _ _ _ _) tk hW hr' (fun A outer s H hr2 => hbody A outer s H Ech f c' hr2 (pass_own rfl rfl rfl rfl)) rfl (.inl n1)
      refine (pss_one (ps_ret (pos := p5) (pe_tup (x1 := k1) (pos := p4) (pa_cons (pe_str (x := "told") (j := j1) (pos := p1)) (pa_cons act pa_nil rfl) rfl)))).run pins2 s2 σ2 H2 D2 I2 ?_
      refine ⟨e1, e2, ?_⟩
      obtain ⟨ρ', t0, kk', xx', e4, er', q', pp', px'⟩ := e3
      exact ⟨ρ', t0, kk', xx', e4, er', q', fun d t hk st ok v r => ⟨by show 2 ≤ sizeLine; decide, fun p hp => pp' d t hk st ok v r p hp⟩, px'⟩
    · refine ⟨fun cls d σ'' H'' hE => ?_, rfl, ok1.sub _ _ hc1, ?_⟩
      · obtain ⟨C, dd, rfl, rfl, hG, hs⟩ := hE
        exact ⟨hG.ex, fun hl a hn => ⟨C, dd, rfl, rfl, hG, hs σ'' hl a hn⟩⟩
      · rw [← eM] at q
        refine ⟨ρ, s1, _, _, rfl, er1, q, fun d t hk st ok v r p hp => ?_, fun C fs t hx st ok dx fvs e1 e2 e3 e4 r => ?_⟩
        · refine (pp.step (st1.trans st)).tup hk ok ?_ hp
          exact .cons .str (.cons r .nil)
        · obtain ⟨hG, code, vals, l1, l2, l3, hk⟩ := hx
          refine ⟨C, dx, rfl, rfl, hG, fun σ' hl a hn => ?_⟩
          have new : ¬ s0.hidden dx := fun ⟨o, z1, z2, z3⟩ => e4 ⟨o, st1.hid dx o z1 z2 z3⟩
          obtain ⟨oku, stu, sau⟩ := ok.shown2 (st1.trans st) new e2 e3 e1
          obtain ⟨v0, v1, rfl⟩ : ∃ v0 v1, σ' = [v0, v1] := by
            match σ', hl with
            | [v0, v1], _ => exact ⟨v0, v1, rfl⟩
          refine ⟨[none, some (.exc a dx fs)], ⟨t.H, upd t.G dx (.xd fvs), t.M⟩, { nx := fun _ _ => False, rt := kk, m0 := t.M }, fun _ _ _ => False, rfl, ⟨oku, rfl, fun i d hd => ?_⟩, ?_, ⟨fun _ _ z => z.elim, ⟨_, Step.refl _, oku, rfl, pp.step stu⟩, fun _ _ z => z.elim, fun _ _ z => z.elim⟩, PostX.never⟩
          · match i, hd with
            | 1, hd =>
              cases hd
              exact ⟨.ref a, rfl, .exc upd_same (r.same sau)⟩
          · refine ⟨_, rfl, fs, .str code, rfl, l1, ⟨by show 2 ≤ sizeLine; decide, _, rfl, rfl, fs, code, vals, rfl, l1, l2, l3, ?_⟩⟩
            exact ⟨by have : (4 : Nat) ≤ sizeLine := by decide
                      show 2 + vals.length ≤ sizeLine; omega, hk⟩
  refine wpAny_call (codeAny_mono rc fun r s2 hq => ?_)
  match r, hq with
  | .error e, hq =>
    obtain ⟨_, _, _, _, _, _, _, _, _, _, _, _, z⟩ := hq
    exact z.elim
  | .ok (.ret u), hq => exact I1.after hq
  | .ok .next, hq => exact hq.elim
  | .ok .brk, hq => exact hq.elim
  | .ok .cont, hq => exact hq.elim
end
end DL
set_option Elab.async false
set_option linter.all false
set_option maxRecDepth 100000
set_option maxHeartbeats 2000000
namespace DL
open PySem PySem.Spec PyProof.Rows L2
section
variable {P : Program} {w : World} {K : PySem.W.Frag} {mg : Str → Option Value} {base : Heap}
/-- a def whose code object stands at c: it may make lambdas -/
theorem fn_DL {x qual : Str} {params : Arguments} {body : List Stmt} {scope : Scope} {dV kV doc pm ct oc : Value} {an od : Option Addr} {osl : Array (Option Value)} {f c : Addr} {N ps : List Str} {k n : Nat} {φ : Ct}
    (lk : K.lookup f = some ⟨oc, od, .func (PySem.W.fnOf x qual params body scope dV kV doc pm an (.ref c) ct), osl⟩) (hcd : PySem.W.codeIn K (.ref c) qual = true) (S : FnScope N ps scope) (hn : n = ps.length)
    (h : ∀ (A : Around) (outer : List Env) (s : Shared) (H : Hp) (E : XK), Room k (A.deeper (envOfC qual scope s.heap.objs.size f (.ref c))) →
      Passes (L2.CX P w) (cxOf (L2.CX P w) P w K mg base N qual scope f (.ref c) A outer s H E) E → PassesOwn (model P w) (cxOf (L2.CX P w) P w K mg base N qual scope f (.ref c) A outer s H E).A (cxOf (L2.CX P w) P w K mg base N qual scope f (.ref c) A outer s H E).env (cxOf (L2.CX P w) P w K mg base N qual scope f (.ref c) A outer s H E).xe →
      ∃ τ, DPB (cxOf (L2.CX P w) P w K mg base N qual scope f (.ref c) A outer s H E) E body τ ∧
        ∀ (ds : List D) (M : Mm) (kk : DK) (x : DX), ds.length = n → φ ds M kk x → τ { nx := fun _ M => kk .non M, rt := kk, m0 := M } x (startD N ds) M) :
    FnOk P w K mg base (L2.CX P w) (k + 1) f (PySem.W.fnOf x qual params body scope dV kV doc pm an (.ref c) ct) ps (spD K n φ) := by
  refine fn_of lk hcd S (fun vs H Q E q => by rw [spD_len q, hn]) fun A outer s H vs Q E hr q => ?_
  obtain ⟨τ, ht, hq⟩ := h A outer s H E hr (pass_own rfl rfl rfl rfl) (passes_of rfl)
  refine ⟨_, ht, ?_⟩
  obtain ⟨s0, ds, kk, xx, rfl, o, r, hl, f, p, px⟩ := q
  exact ⟨_, s0, _, xx, rfl, er_start o r, hq ds s0.M kk xx hl f, ⟨fun ρ t q st σ er => p _ t q st er.ok _ .non, ⟨s0, Step.refl s0, o, rfl, p⟩, fun _ _ z => z.elim, fun _ _ z => z.elim⟩, px⟩
end
/-- the end of a law that makes lambdas itself -/
theorem walk_DT {l : PySem.W.OpenLaw} {k : Nat} {q : Program} {loose : List Str} {XP : (Str → Option Value) → Heap → Prop} {YP : World → Heap → Prop} {d : DefRec} {K : Params → PySem.W.Frag} {φ : Addr → Ct} {x q0 : Str}
    (hn : l.most = some 63) (hdf : d.params.defaults = []) (hr : Room k callerA) (hrec : ((recsOf q).any fun e => e.name == d.name) = true)
    (hφ : ∀ (P : Addr) (ns : List Int) (M : Mm) (kk : DK) (xx : DX), ns.length ≤ 63 → (∀ z ∈ ns, Builtin.Int.intBits z ≤ 1048576) → M P = some (.tbl q0) → (∀ a, a ≠ P → M a = none) → (∀ M', kk (.bl true) M') → φ P [.scr ns] M kk xx)
    (hY : ∀ (w : World) (h : Heap), YP w h → (K w.params).In h)
    (F : ∀ (w : World) (mg : Str → Option Value) (fa : Addr) (h : Heap), (K w.params).In h → h.Ns mainGlobals mg → mg d.name = some (.ref fa) →
      ∃ (fd : FuncData) (c P : Addr) (o : Obj) (e : Value) (dd : Option Addr) (vs : Array Value) (sl : Array (Option Value)), (K w.params).lookup fa = some o ∧ o.data = .func fd ∧ fd.code = .ref c ∧ (K w.params).lookup c = some ⟨e, dd, .fields vs, sl⟩ ∧ vs[11]? = some (.ref P) ∧ (K w.params).lookup P = none ∧ PySem.W.codeHdIn (K w.params) c P = true ∧
        (∀ (s : Shared) (u : Value), BindsTo s fd ⟨[u], []⟩ [(x, u)]) ∧
        ∀ base : Heap, (K w.params).In base → base.Ns mainGlobals mg → LamX.TabB base mg c P → FnOk l.prog w (K w.params) mg base (L2.CX l.prog w) k fa fd [x] (spD (K w.params) 1 (φ P))) :
    PySem.W.WalkO q loose XP YP l.row.toRowW d [] (fun f vs => PySem.call f vs) := by
  refine LamX.walk_ofOwn (n := 63) (k := k) (x := x) (CX := fun w => L2.CX l.prog w) hn (by decide) hdf hr hrec hY (fun w mg fa h Y KX G hmg own => ?_) fun w H s e s' h => by
    obtain ⟨_, _, _, _, _, _, _, _, _, _, _, _, z⟩ := h
    exact z
  obtain ⟨fd, c, P, o, e, dd, vs, sl, k1, k2, k3, k4, k5, k6, k7, hb, hF⟩ := F w mg fa h KX G hmg
  have hP := own c P o fd e dd vs sl k1 k2 k3 k4 k5
  refine ⟨fd, [(c, P)], spD (K w.params) 1 (φ P), fun p hp => ?_, fun p hp => ?_, fun p hp => ?_, hb, fun H a ns hl hbits hT hS => ?_, fun base kb nb hT => hF base kb nb (hT (c, P) (List.mem_singleton.mpr rfl))⟩
  · rw [List.mem_singleton.mp hp]; exact hP
  · rw [List.mem_singleton.mp hp]; exact k6
  · rw [List.mem_singleton.mp hp]; exact PySem.W.codeHd_of_K KX k7
  · have eP : H P = some (.tbl #[]) := hT (c, P) (List.mem_singleton.mpr rfl)
    have ne : ∀ u, H a = some u → (∀ ps, u ≠ .tbl ps) → a ≠ P := fun u e1 e2 z => by
      rw [z, eP] at e1
      exact e2 _ (Option.some.inj e1).symm
    have hG : ∀ u, H a = some u → (∀ ps, u ≠ .tbl ps) → (fun b => if b = P then none else H b : Hp) a = some u := fun u e1 e2 => by
      show (if a = P then none else H a) = some u
      rw [if_neg (ne u e1 e2)]
      exact e1
    have hS2 : SqL (K w.params) (fun b => if b = P then none else H b) a (ns.map V.int) := by
      rcases hS with (z | ⟨o2, z⟩) | z
      · exact .inl (.inl (hG _ z fun ps y => by cases y))
      · exact .inl (.inr ⟨o2, hG _ z fun ps y => by cases y⟩)
      · exact .inr z
    refine ⟨⟨H, fun b => if b = P then none else H b, fun b => if b = P then some (.tbl q0) else none⟩, [.scr ns], fun d _ => d = .bl true, fun _ _ _ => False, rfl, ⟨fun b u z => ?_, fun b mo z => ?_, fun b mo z => ?_⟩, .cons (.scr hS2) .nil, rfl,
      hφ P ns _ _ _ hl hbits (if_pos rfl) (fun b hb => if_neg hb) (fun _ => rfl), fun d t e _ _ v r => by subst e; cases r; rfl, fun C fs t h => h.elim⟩
    · have z' : (if b = P then none else H b) = some u := z
      split at z'
      · cases z'
      · exact z'
    · have z' : (if b = P then some (MO.tbl q0) else none) = some mo := z
      show (if b = P then none else H b) = none
      split at z'
      · rename_i hb; rw [if_pos hb]
      · cases z'
    · have z' : (if b = P then some (MO.tbl q0) else none) = some mo := z
      split at z'
      · rename_i hb
        cases z'
        show MRep _ _ (H b) _
        rw [hb, eP]
        exact ⟨#[], rfl, True.intro, fun pos cv hc => by simp [codeAmong] at hc⟩
      · cases z'
end DL
set_option Elab.async false
set_option linter.all false
set_option maxRecDepth 100000
set_option maxHeartbeats 2000000
namespace DL
open PySem PySem.Spec PyProof.Rows L2
/-- what is known of an own exception class: its name, its address, its making -/
structure RaiseF (P : Program) (w : World) (K : PySem.W.Frag) (mg : Str → Option Value) (base : Heap) (x : Str) (C : Addr) (n : Nat) (fl : List V → List (Str × V)) : Prop where
  m : mg x = some (.ref C)
  T : OexC K C
  ex : ∃ (fI : Addr) (fd : FuncData) (ps : List Str), PySem.W.findIn K (.ref C) "__init__" = some (some (.ref fI)) ∧ PySem.W.typeIn K (.ref fI) = some (.type "function") ∧ Binds K fd ps [] ∧ FnOk P w K mg base (L2.CX P w) 1 fI fd ps (XI.spX C n fl)
section
variable {X : Cx} {E : XK} {e : Expr} {es : List Expr} {αa : DA} {x : Str} {C : Addr} {n : Nat} {fl : List V → List (Str × V)} {flD : List D → List (Str × D)} {p pos pos' : Pos}
theorem s_raiseF (R : RaiseF X.prog X.w X.K X.mg X.base x C n fl) (hfl : ∀ {G : Hp} {vs : List V} {ds : List D}, Reps X.K G vs ds → ds.length = n → FRep X.K G (fl vs) (flD ds)) (hc : X.calm = true) (tk : Takes X (fun cls d _ H' => E cls d H')) (hr : Room 2 X.A) (hn : n ≤ 1000)
    (hg : Gl X x) (ha : DPA X E (e :: es) αa) (hdb : (x == ("__debug__" : Str)) = false := by decide) (he : starEach (e :: es) X.env = (false, eval e X.env) :: starEach es X.env := by rfl) (hpl : (backTo pos (starEach es X.env)).any (·.1) = false := by rfl) :
    DPS X E (.Raise (some (.Call (.Name x p) (e :: es) [] pos)) none pos') (dRaise C n flD αa) := by
  obtain ⟨fI, fd, ps, h1, h2, h3, h4⟩ := R.ex
  exact s_raise hc tk R.T h1 h2 h4 hfl hr h3 hn hg R.m ha hdb he hpl
end
/-- a def whose code object stands at c -/
structure DefL (K : PySem.W.Frag) (x qual : Str) (params : Arguments) (body : List Stmt) (scope : Scope) (f c : Addr) (fd : FuncData) : Prop where
  ex : ∃ (dV kV doc pm ct oc : Value) (an od : Option Addr) (osl : Array (Option Value)), fd = PySem.W.fnOf x qual params body scope dV kV doc pm an (.ref c) ct ∧ K.lookup f = some ⟨oc, od, .func (PySem.W.fnOf x qual params body scope dV kV doc pm an (.ref c) ct), osl⟩
  cd : PySem.W.codeIn K (.ref c) qual = true
section
variable {P : Program} {w : World} {K : PySem.W.Frag} {mg : Str → Option Value} {base : Heap}
theorem fn_DL2 {x qual : Str} {params : Arguments} {body : List Stmt} {scope : Scope} {f c : Addr} {fd : FuncData} {N ps : List Str} {k n : Nat} {φ : Ct}
    (F : DefL K x qual params body scope f c fd) (S : FnScope N ps scope) (hn : n = ps.length)
    (h : ∀ (A : Around) (outer : List Env) (s : Shared) (H : Hp) (E : XK), Room k (A.deeper (envOfC qual scope s.heap.objs.size f (.ref c))) →
      Passes (L2.CX P w) (cxOf (L2.CX P w) P w K mg base N qual scope f (.ref c) A outer s H E) E → PassesOwn (model P w) (cxOf (L2.CX P w) P w K mg base N qual scope f (.ref c) A outer s H E).A (cxOf (L2.CX P w) P w K mg base N qual scope f (.ref c) A outer s H E).env (cxOf (L2.CX P w) P w K mg base N qual scope f (.ref c) A outer s H E).xe →
      ∃ τ, DPB (cxOf (L2.CX P w) P w K mg base N qual scope f (.ref c) A outer s H E) E body τ ∧
        ∀ (ds : List D) (M : Mm) (kk : DK) (x : DX), ds.length = n → φ ds M kk x → τ { nx := fun _ M => kk .non M, rt := kk, m0 := M } x (startD N ds) M) :
    FnOk P w K mg base (L2.CX P w) (k + 1) f fd ps (spD K n φ) := by
  obtain ⟨dV, kV, doc, pm, ct, oc, an, od, osl, rfl, lk⟩ := F.ex
  exact fn_DL lk F.cd S hn h
end
end DL
set_option Elab.async false
set_option linter.all false
set_option maxRecDepth 100000
set_option maxHeartbeats 2000000
/-! own errors over any built-in base: the fields -/
namespace XG
open PySem PySem.Spec PyProof.Rows L2 PySem.W
/-- a built-in base of own errors -/
structure Bas (B nw ini : String) (tl : List Value) : Prop where
  fx : ExcBaseFacts B nw ini tl
  st : StoreFacts B tl "object.__setattr__" "object"
  kx : KxsFacts B ini
  st0 : (kfb_private% "nameAndClass") (.builtin ini) = pure (PySem.Str.ofString "__init__", .type B)
theorem basV : Bas "ValueError" "ValueError.__new__" "ValueError.__init__" [.type "ValueError", .type "Exception", .type "BaseException", .type "object"] := ⟨PySem.F.excBase_ValueError, PySem.F.store_ValueError, kxs_ValueError, kxs_ValueError.nac⟩
theorem basL : Bas "LookupError" "LookupError.__new__" "LookupError.__init__" [.type "LookupError", .type "Exception", .type "BaseException", .type "object"] := ⟨PySem.F.excBase_LookupError, PySem.F.store_LookupError, kxs_LookupError, kxs_LookupError.nac⟩
theorem basI : Bas "IndexError" "IndexError.__new__" "IndexError.__init__" [.type "IndexError", .type "LookupError", .type "Exception", .type "BaseException", .type "object"] := ⟨PySem.F.excBase_IndexError, PySem.F.store_IndexError, kxs_IndexError, kxs_IndexError.nac⟩
/-- what is known of the class -/
structure OexB (K : PySem.W.Frag) (nw : String) (tl : List Value) (C : Addr) : Prop where
  cls : ∃ nm q N bs bm sn sub ab col dd k0 k1 k2 k3 k5, K.lookup C = some (excClassObj nm q C N bs bm true sn sub ab col dd k0 k1 k2 k3 k5 nw) ∧ excTail tl bm = true
  sa : PySem.W.findIn K (.ref C) "__setattr__" = some (some (.builtin "object.__setattr__"))
  exC : PySem.W.subIn K (.ref C) (.type "BaseException") = some true
  tyC : PySem.W.typeIn K (.ref C) = some (.type "type")
  kC : PySem.W.keepIn K (.ref C) = true
theorem OexB.over {K : PySem.W.Frag} {nw : String} {tl : List Value} {C : Addr} (T : OexB K nw tl C) : excOver K C tl = true := by
  obtain ⟨nm, q, N, bs, bm, sn, sub, ab, col, dd, k0, k1, k2, k3, k5, hC, hbm⟩ := T.cls
  have hcl : clsIn K C = some { name := nm, bases := bs, mro := .ref C :: bm, ns := N, qualname := q, hasDict := true, slotNames := sn, subclasses := sub, abstract := ab, collection := col, hasDel := false } := by unfold clsIn; rw [hC] <;> rfl
  unfold excOver
  rw [hcl]
  show (C == C && excTail tl bm) = true
  rw [hbm]
  simp
theorem taker_no {K : PySem.W.Frag} {C : Addr} {f : Str} (h : findIn K (.ref C) f = some none) : takerIn K C f = some none := by
  unfold takerIn
  rw [h]
  rfl
section
open Builtin Builtin.ObjectAttr
variable {X : Cx} {pins : List (Addr × Obj)} {σ : L2.St} {H : Hp} {s : Shared} {a C dx : Addr} {f : Str} {y : V} {u : Value} {fs : List (Str × V)} {Q : Unit → Shared → Prop} {E : Value → Shared → Prop} {A : Around} {B nw ini : String} {tl : List Value}
/-- the first field -/
theorem ost_new (BS : Bas B nw ini tl) (T : OexB X.K nw tl C) (I : Inv X pins σ H s) (e : H a = some (exo a C none)) (hno : PySem.W.findIn X.K (.ref C) f = some none) (ry : RelV y u)
    (h : ∀ dx s', H dx = none → dx ≠ a → Inv X pins σ (upd (upd H dx (exd dx [(f, y)])) a (exo a C (some dx))) s' → Q () s') : wpAny (model X.prog X.w) A (setAttr (.ref a) f u) Q E s := by
  obtain ⟨nm, q, N, bs, bm, sn, sub, ab, col, dd, k0, k1, k2, k3, k5, hC, hbm⟩ := T.cls
  have hcl : clsIn X.K C = some { name := nm, bases := bs, mro := .ref C :: bm, ns := N, qualname := q, hasDict := true, slotNames := sn, subclasses := sub, abstract := ab, collection := col, hasDel := false } := by unfold clsIn; rw [hC] <;> rfl
  obtain ⟨t1, ho⟩ := exo_at I.hok e
  obtain ⟨hp, g, d, t, os⟩ := s
  have IA : InstAt hp a ({ cls := .ref C, dict := none, data := .fields #[.ref t1, .none, .none, .none, .bool false, .none] } : Obj) C none := ⟨ho, rfl, rfl, trivial⟩
  have has : a ≠ hp.objs.size := Nat.ne_of_lt (Heap.lt_size ho)
  have hcls : Looks (model X.prog X.w) hp (classData C) _ := looks_clsIn I.kIn hcl
  refine set_plain I.kIn IA T.sa (osa_openX (s := ⟨hp, g, d, t + 1, os⟩) BS.st I.kIn IA T.over (taker_no hno) fun bb => ?_)
  show wpAny _ _ (storeInOwnDict (.ref a) (.ref C) (.str f t) f u bb) _ _ _
  unfold storeInOwnDict ownDictForStores
  repeat (first | with_reducible refine HandSPX.store_in_new ?_ ?_ | with_reducible refine wpAny_loadPart_at ho ?_ | with_reducible refine hcls.at ?_ | wp_step)
  · exact ⟨_, #[], _, (Heap.get?_update_ne _ _ _ _ has.symm).trans (Heap.get?_push_at rfl rfl), rfl, fun e he => absurd he (by simp), fun _ => rfl⟩
  intro h' tk' hn' hs
  have hx₁ : (hp.push { cls := .type "dict", data := .dict #[] }).get? a = some ({ cls := .ref C, dict := none, data := .fields #[.ref t1, .none, .none, .none, .bool false, .none] } : Obj) := Heap.get?_push_of_some _ ho
  have k : ∀ b o, b ≠ a → hp.get? b = some o → h'.get? b = some o := fun b o hb ho' => (hs.2 b (Nat.ne_of_lt (Heap.lt_size ho'))).trans ((Heap.get?_update_ne _ _ _ _ hb).trans (Heap.get?_push_of_some _ ho'))
  have hx : h'.get? a = some ({ cls := .ref C, dict := some hp.objs.size, data := .fields #[.ref t1, .none, .none, .none, .bool false, .none] } : Obj) := (hs.2 a has).trans (Heap.get?_update_self _ hx₁ rfl)
  have hnd : H hp.objs.size = none := I.hok.fresh (Nat.le_refl _)
  have nd : ∀ {b : Addr} {o : Obj}, hp.get? b = some o → b ≠ hp.objs.size := fun {b o} q => Nat.ne_of_lt (Heap.lt_size q)
  have na : ∀ {b : Addr}, H b = none → b ≠ a := fun {b} n z => by rw [z, e] at n; cases n
  have Un1 : Un X.fs [] H (upd (upd H hp.objs.size (exd hp.objs.size [(f, y)])) a (exo a C (some hp.objs.size))) hp h' := {
    keep := fun b o q n _ _ => k b o (na n) q
    slot := fun b o q n _ _ => ⟨o.slots, k b o (na n) q⟩
    free := fun b o q n _ => by rw [upd_ne (na n), upd_ne (nd q)]; exact n
    there := fun b o q _ => by
      by_cases hb : b = a
      · exact ⟨_, by rw [hb]; exact hx⟩
      · exact ⟨o, k b o hb q⟩
    tups := fun b xs q => by rw [upd_ne (at_ne e q exo_tup), upd_ne (ne_of_none q hnd)]; exact q
    frzs := fun b o v q => by rw [upd_ne (at_ne e q exo_frz), upd_ne (ne_of_none q hnd)]; exact q
    tbls := fun b ps q => ⟨#[], by rw [upd_ne (at_ne e q exo_tbl), upd_ne (ne_of_none q hnd), q]; simp⟩ }
  refine h hp.objs.size _ hnd has.symm (I.un (t' := tk') Un1 fun b o q => ?_)
  by_cases hb : b = a
  · subst hb
    rw [upd_same] at q
    cases q
    exact exo_ok hx
  · rw [upd_ne hb] at q
    by_cases hd : b = hp.objs.size
    · subst hd
      rw [upd_same] at q
      cases q
      exact exd_ok hn' (relO_put (fs := []) ry fun g => True.intro)
    · rw [upd_ne hd] at q
      exact (I.hok b o q).stay (fun c v hc z => k c v (by
          rcases hc with hc | hc
          · rw [hc]
            exact hb
          · exact at_ne e hc exo_own) z)
        (fun c hc => by rw [upd_ne (at_ne e hc exo_own), upd_ne (ne_of_none hc hnd)]; exact hc) (fun c xs hc => by rw [upd_ne (at_ne e hc exo_tup), upd_ne (ne_of_none hc hnd)]; exact hc)
/-- a further field -/
theorem ost_old (BS : Bas B nw ini tl) (T : OexB X.K nw tl C) (I : Inv X pins σ H s) (e : H a = some (exo a C (some dx))) (ed : H dx = some (exd dx fs)) (hl : fs.length ≤ 900) (hno : PySem.W.findIn X.K (.ref C) f = some none) (ry : RelV y u)
    (h : ∀ s', Inv X pins σ (upd H dx (exd dx ((f, y) :: fs))) s' → Q () s') : wpAny (model X.prog X.w) A (setAttr (.ref a) f u) Q E s := by
  obtain ⟨nm, q, N, bs, bm, sn, sub, ab, col, dd, k0, k1, k2, k3, k5, hC, hbm⟩ := T.cls
  have hcl : clsIn X.K C = some { name := nm, bases := bs, mro := .ref C :: bm, ns := N, qualname := q, hasDict := true, slotNames := sn, subclasses := sub, abstract := ab, collection := col, hasDel := false } := by unfold clsIn; rw [hC] <;> rfl
  obtain ⟨t1, ho⟩ := exo_at I.hok e
  obtain ⟨mA, hns, rel⟩ := exd_at I.hok ed
  have hw := within_of rel
  obtain ⟨hp, g, d, t, os⟩ := s
  obtain ⟨oD, _, _, hoD, _, _⟩ := hns.count hw
  have IA : InstAt hp a ({ cls := .ref C, dict := some dx, data := .fields #[.ref t1, .none, .none, .none, .bool false, .none] } : Obj) C (some oD) := ⟨ho, rfl, rfl, hoD⟩
  have hcls : Looks (model X.prog X.w) hp (classData C) _ := looks_clsIn I.kIn hcl
  have hz : (fs.map (·.1)).length ≤ 1000 := by rw [List.length_map]; omega
  refine set_plain I.kIn IA T.sa (osa_openX (s := ⟨hp, g, d, t + 1, os⟩) BS.st I.kIn IA T.over (taker_no hno) fun bb => ?_)
  show wpAny _ _ (storeInOwnDict (.ref a) (.ref C) (.str f t) f u bb) _ _ _
  unfold storeInOwnDict ownDictForStores
  repeat (first | with_reducible refine OEX.store_in_old hns hw hz ?_ | with_reducible refine wpAny_loadPart_at ho ?_ | with_reducible refine hcls.at ?_ | wp_step)
  intro h' tk' hn' hs
  have hd : ∃ o, h'.get? dx = some o := by
    obtain ⟨o, _, _, e', _⟩ := hn'
    exact ⟨o, e'⟩
  exact h _ (I.write (t' := tk') (x := dx) (e := dx) (o := exd dx ((f, y) :: fs)) (by rw [ed]; exact True.intro) (.inl rfl) (fun b o hb ho' => (hs.2 b hb).trans ho') hd (exd_ok hn' (relO_put ry rel)))
end
end XG
set_option Elab.async false
set_option linter.all false
set_option maxRecDepth 100000
set_option maxHeartbeats 2000000
/-! own errors over any built-in base: the __init__ -/
namespace XG
open PySem PySem.Spec PyProof.Rows L2 PySem.W XI
section
variable {P : Program} {w : World} {K : PySem.W.Frag} {mg : Str → Option Value} {base : Heap} {qual : Str} {params : Arguments} {body rest : List Stmt} {scope : Scope} {ps : List Str} {f D cda cc : Addr} {fd : FuncData} {A : Around} {outer : List Env} {s : Shared} {H : Hp} {B nw ini : String} {tl : List Value}
/-- super().__init__(a text), at the body's beginning -/
theorem sup_first {C a : Addr} {σ : L2.St} {s1 : Shared} {H1 : Hp} {pl : Sem Bool} {p0 p1 p2 p3 p4 p5 : Pos} {msg : Str} {j : Nat} {Q : Flow → Shared → Prop} (F : SupD K P qual params body scope ps f D fd cda cc) (S : SupS ps params scope) (BS : Bas B nw ini tl) (T : OexB K nw tl C)
    (hsu : mg "super" = none) (hop : nsIn K cStatics "thirdparty.any" = some none) (hD : (clsIn K D).isSome = true) (hCD : mroIn K C (.ref D) = some true) (hal : ks_superIn K C D "__init__" = some (some (.builtin ini))) (hVE : subIn K (.ref C) (.type B) = some true)
    (I : Inv (supCx P w K mg base ps qual scope f cda cc A outer s H) [] σ H1 s1) (h0 : σ[0]? = some (some (.ref a))) (e : H1 a = some (exo a C none)) (hq : ∀ s', Inv (supCx P w K mg base ps qual scope f cda cc A outer s H) [] σ H1 s' → Q .next s')
    (he : ∀ L, eval (.Call (.Attribute (.Call (.Name "super" p0) [] [] p1) "__init__" p2) [.Constant (.str msg) j p3] [] p4) (ksEnv qual scope L f (.ref cda) cc) = (do
      let ov ← attributeBase (.Call (.Name "super" p0) [] [] p1) "__init__" (ksEnv qual scope L f (.ref cda) cc) (eval (.Call (.Name "super" p0) [] [] p1) (ksEnv qual scope L f (.ref cda) cc))
      standAt p2.atName
      let (fv, first) ← holding [ov] (getMethod ov "__init__" pl)
      callWith p4 fv first (backTo p4 (starEach [.Constant (.str msg) j p3] (ksEnv qual scope L f (.ref cda) cc))) [])) :
    _root_.PySem.wpAt (model P w) (supCx P w K mg base ps qual scope f cda cc A outer s H).A (.func body (supCx P w K mg base ps qual scope f cda cc A outer s H).env)
      (exec (.Expr (.Call (.Attribute (.Call (.Name "super" p0) [] [] p1) "__init__" p2) [.Constant (.str msg) j p3] [] p4) p5) (supCx P w K mg base ps qual scope f cda cc A outer s H).env) Q (fun _ _ => False) s1 := by
  obtain ⟨oc, dV, kV, doc, pm, ct, ccl, cl, od, an, cdd, cld, osl, ccs, csl, vs, file, tf, rfl, lf, lcd, hvs, hfile, lcc⟩ := F.ex
  have KX : K.In s1.heap := I.kIn
  obtain ⟨ar, hp, har⟩ := S.par
  obtain ⟨nm, q, N, bs, bm, sn, sub, ab, col, dd, k0, k1, k2, k3, k5, hC, hbm⟩ := T.cls
  obtain ⟨cdD, hcD⟩ := Option.isSome_iff_exists.mp hD
  obtain ⟨t1, ho⟩ := exo_at I.hok e
  obtain ⟨m, hn, hlk⟩ := id I.loc
  obtain ⟨u0, ru0, lk0⟩ := hlk 0 "self" (.ref a) S.self_ h0 (.inl (S.loc _ (List.mem_of_getElem? S.self_)))
  obtain rfl : u0 = Value.ref a := ru0
  have lm : m "self" = some (.ref a) := by
    rcases lk0 with ⟨_, z⟩ | ⟨z, _⟩
    · exact z
    · have hl := S.loc _ (List.mem_of_getElem? S.self_)
      rcases z with z | z <;> (rw [show scope.names.lookup ("self" : Str) = _ from z] at hl; cases hl)
  obtain ⟨hh, g, d, t, os⟩ := s1
  obtain ⟨oD, hD1, hD2⟩ : ∃ oD, hh.get? D = some oD ∧ oD.data = .cls cdD := by
    unfold clsIn at hcD
    split at hcD
    · rename_i c d cd' sl ho
      cases hcD
      exact ⟨_, KX _ _ ho, rfl⟩
    · cases hcD
  refine ks_wpAt_Expr_any ?_ (hi := by show (scope.kind == .module && _) = false; rw [S.kind]; rfl)
  refine ks_wpAt_MethodCall (pl := pl) ?_ (he _)
  refine ks_wpAt_super_base (env := ksEnv qual scope s.heap.objs.size f (.ref cda) cc) (f := f) (cc := cda) S.su S.cl (by decide) rfl (KX _ _ lf) rfl hp rfl (KX _ _ lcd) rfl hvs hfile F.top ?_
  obtain ⟨mb, hb1, hb2⟩ := I.mod.blt
  refine ks_loadName_global S.kind S.su (Calls.loadGlobal_builtin (env := ksEnv qual scope s.heap.objs.size f (.ref cda) cc) (v := .type "super") (I.mod.glob.keeps I.bk) hsu (hb1.keeps I.bk) ((hb2 "super" (by decide)).trans (by decide +kernel)) ⟨rfl, ?_⟩)
  refine wpAny_loadName_free S.kind S.cl rfl ⟨_, KX _ _ lcc, rfl⟩ ?_
  rw [har]
  refine wpAny_loadName_local S.kind (S.loc _ (List.mem_of_getElem? S.self_)) hn lm ?_
  refine ks_wpAny_isType_cls hD1 hD2 ⟨rfl, ?_⟩
  refine ks_wpAny_call_super hD1 hD2 ho rfl (fun c e => by cases e) (looks_mroIn KX hCD) (fun h' e1 k1' => ?_)
  have I1 : Inv (supCx P w K mg base ps qual scope f cda cc A outer s H) [] σ H1 ⟨h', g, d, t, os⟩ := I.kept (t' := t) k1'
  have hcl : clsIn K C = some { name := nm, bases := bs, mro := .ref C :: bm, ns := N, qualname := q, hasDict := true, slotNames := sn, subclasses := sub, abstract := ab, collection := col, hasDel := false } := by unfold clsIn; rw [hC] <;> rfl
  have hal' := hal
  unfold ks_superIn at hal'
  rw [hcl] at hal'
  have IA : InstAt hh a ({ cls := .ref C, dict := none, data := .fields #[.ref t1, .none, .none, .none, .bool false, .none] } : Obj) C none := ⟨ho, rfl, rfl, trivial⟩
  have hI : Looks (model P w) h' (isInstance (.ref a) (.type B)) true := Looks.keeps (IA.type.andThen (looks_subIn KX hVE)) k1'
  refine kxs_getMethod BS.kx e1 (looks_opaque I1.kIn hop) (l₀ := .ref C :: bm) ?_ rfl I1.kIn hal' hI (ks_ne KX IA hcl) (by decide) ?_
  · exact fun A Q E s k q => wpAny_bind ((looks_clsIn I1.kIn hcl) A _ E s k (wpAny_pure q))
  have I2 : Inv (supCx P w K mg base ps qual scope f cda cc A outer s H) [(h'.objs.size, kxs_mw ini a)] σ H1 ⟨h'.push (kxs_mw ini a), g, d, t + 1, os⟩ :=
    ClX.pin_new I1 (fun b o e => Heap.get?_push_of_some _ e) (Nat.le_refl _) (Heap.get?_push_size _ rfl) (fun v z => nomatch z)
  refine kxs_callWith (i := ini) (x := a) (u := h'.objs.size) (by rfl) ?_
  refine Calls.evalArgs_plain ?_
  show wpAny _ _ (spliced ((false, eval (.Constant (.str msg) j p3) (supCx P w K mg base ps qual scope f cda cc A outer s H).env) :: backTo p4 (starEach [] (supCx P w K mg base ps qual scope f cda cc A outer s H).env))) _ _ _
  refine Calls.spliced_cons (wpAny_mono ((pe_str (X := supCx P w K mg base ps qual scope f cda cc A outer s H) (x := msg) (j := j) (pos := p3)).run [(h'.objs.size, kxs_mw ini a)] _ σ H1 (fun v H' => v = .str msg ∧ H' = H1) I2 ⟨rfl, rfl⟩) (fun u s2 hu => ?_) fun _ _ z => z)
  obtain ⟨v, H', I3, rv, rfl, rfl⟩ := hu
  obtain ⟨tk, rfl⟩ := rv
  refine Calls.spliced_nil ⟨ClX.pin_at I3, ?_⟩
  have hmw := ClX.pin_at I3
  have I4 := ClX.unpin I3
  obtain ⟨t2, ho2⟩ := exo_at I4.hok e
  obtain ⟨h2, g2, d2, tk2, os2⟩ := s2
  refine wpAny_call (codeAny_of_tree ?_)
  show wpAny _ _ (callAny (.ref h'.objs.size) ⟨[.str msg tk], []⟩) _ _ _
  simp only [callAny]
  refine wpAny_bind (wpAny_load hmw ?_)
  simp only [kxs_mw, show (Value.type "method-wrapper" == Value.type "method" || Value.type "method-wrapper" == Value.type "builtin_function_or_method" || Value.type "method-wrapper" == Value.type "method-wrapper") = true by decide, if_true]
  refine KFB.if_so (by decide) ?_
  refine wpAny_bind (check_bound_init BS.fx.toExcCallFacts (I4.kIn _ _ hC) ho2 rfl ?_)
  refine wpAny_bind (wpAny_pure (wpAny_pure ?_))
  refine ⟨plainId_quiet BS.fx.init.plain _, codeAny_builtin BS.fx.initEntry ?_⟩
  refine exc_init_tree (cls := .ref C) (t0 := t2) (dv := none) (c2 := .none) (c3 := .none) (b4 := .bool false) ho2 (by show 1 ≤ sizeLine; decide) fun h5 k5' e5 t5 => ?_
  have J := I4.write (t' := tk2) (x := a) (e := a) (o := exo a C none) (by rw [e]; exact True.intro) (.inl rfl) k5' ⟨_, e5⟩ (exo_ok e5)
  have eu : upd H' a (exo a C none) = H' := by
    funext b
    by_cases hb : b = a
    · rw [hb, upd_same, e]
    · rw [upd_ne hb]
  rw [eu] at J
  exact hq _ J
end
/-- self.f = e -/
def tOst (K : PySem.W.Frag) (nw : String) (tl : List Value) (f : Str) (to te : TE) : TS := fun D σ H => te σ H fun y H1 => to σ H1 fun x H2 => ∃ a C : Addr, x = .ref a ∧ OexB K nw tl C ∧ PySem.W.findIn K (.ref C) f = some none ∧
  ((H2 a = some (exo a C none) ∧ ∀ dx, H2 dx = none → dx ≠ a → D.nx σ (upd (upd H2 dx (exd dx [(f, y)])) a (exo a C (some dx)))) ∨
    ∃ (dx : Addr) (fs : List (Str × V)), H2 a = some (exo a C (some dx)) ∧ H2 dx = some (exd dx fs) ∧ fs.length ≤ 900 ∧ D.nx σ (upd H2 dx (exd dx ((f, y) :: fs))))
theorem ps_ost {X : Cx} {o e : Expr} {to te : TE} {f : Str} {p' pos : Pos} {B nw ini : String} {tl : List Value} (BS : Bas B nw ini tl) (ho : PE X o to) (he : PE X e te) (hs : swapsWith e (some (.Attribute o f p')) pos.line X.env = pure false := by rfl) : PS X (.Assign [.Attribute o f p'] e pos) (tOst X.K nw tl f to te) := by
  refine ⟨fun pins s σ H D I h => ?_⟩
  refine plainObj_wpAny_Assign_Attribute (thn (he.run pins s σ H _ I h) fun v s1 ⟨y, H1, I1, r1, q1⟩ => thn (ho.run pins s1 σ H1 _ I1 q1) fun u s2 ⟨x, H2, I2, r2, a, C, ex, T, hno, q⟩ => ?_) hs
  subst ex
  obtain rfl : u = Value.ref a := r2
  rcases q with ⟨ea, q⟩ | ⟨dx, fs, ea, ed, hl, q⟩
  · exact ost_new BS T I2 ea hno r1 fun dx s' n ne J => ⟨σ, _, J, q dx n ne⟩
  · exact ost_old BS T I2 ea ed hl hno r1 fun s' J => ⟨σ, _, J, q⟩
/-- the facts of the class -/
structure XClsB (B nw ini : String) (tl : List Value) (K : PySem.W.Frag) (mg : Str → Option Value) (C D : Addr) : Prop where
  T : OexB K nw tl C
  su : mg "super" = none
  op : nsIn K cStatics "thirdparty.any" = some none
  hD : (clsIn K D).isSome = true
  CD : mroIn K C (.ref D) = some true
  al : ks_superIn K C D "__init__" = some (some (.builtin ini))
  VE : subIn K (.ref C) (.type B) = some true
section
variable {P : Program} {w : World} {K : PySem.W.Frag} {mg : Str → Option Value} {base : Heap} {qual : Str} {params : Arguments} {rest : List Stmt} {scope : Scope} {ps : List Str} {f D cda cc C : Addr} {fd : FuncData} {CX : CXT} {k n : Nat} {fl : List V → List (Str × V)}
  {B nw ini : String} {tl : List Value} {pl : Sem Bool} {p0 p1 p2 p3 p4 p5 : Pos} {msg : Str} {j : Nat}
theorem fn_exc (F : SupD K P qual params (.Expr (.Call (.Attribute (.Call (.Name "super" p0) [] [] p1) "__init__" p2) [.Constant (.str msg) j p3] [] p4) p5 :: rest) scope ps f D fd cda cc) (S : SupS ps params scope) (BS : Bas B nw ini tl) (X : XClsB B nw ini tl K mg C D) (hn : ps.length = n + 1)
    (he : ∀ L, eval (.Call (.Attribute (.Call (.Name "super" p0) [] [] p1) "__init__" p2) [.Constant (.str msg) j p3] [] p4) (ksEnv qual scope L f (.ref cda) cc) = (do
      let ov ← attributeBase (.Call (.Name "super" p0) [] [] p1) "__init__" (ksEnv qual scope L f (.ref cda) cc) (eval (.Call (.Name "super" p0) [] [] p1) (ksEnv qual scope L f (.ref cda) cc))
      standAt p2.atName
      let (fv, first) ← holding [ov] (getMethod ov "__init__" pl)
      callWith p4 fv first (backTo p4 (starEach [.Constant (.str msg) j p3] (ksEnv qual scope L f (.ref cda) cc))) []))
    (h : ∀ (A : Around) (outer : List Env) (s : Shared) (H : Hp), ∃ t, PSs (supCx P w K mg base ps qual scope f cda cc A outer s H) rest t ∧
      ∀ (vs : List V) (Q : VK) (H1 : Hp), spX C n fl vs H1 Q (fun _ _ _ => False) → t { nx := fun _ H' => Q .non H', rt := Q } (L2.start ps vs) H1) :
    FnOk P w K mg base CX (k + 1) f fd ps (spX C n fl) := by
  refine ⟨fun vs H Q E q => ?_, fun A outer s H args us vs Q E hr e0 hb r q => ?_⟩
  · obtain ⟨a, ws, rfl, hl, _⟩ := q
    rw [List.length_cons, hl, hn]
  obtain ⟨oc, dV, kV, doc, pm, ct, ccl, cl, od, an, cdd, cld, osl, ccs, csl, vs', file, tf, rfl, lf, lcd, hvs, hfile, lcc⟩ := id F.ex
  have KX : K.In s.heap := e0.mod.kin.keeps fun b o e => (e0.bs b o e).1
  have lim : s.heap.NoLimit := e0.mod.nolimit.keeps fun b o e => (e0.bs b o e).1
  have hl : vs.length = ps.length := by
    obtain ⟨a, ws, rfl, hl, _⟩ := q
    rw [List.length_cons, hl, hn]
  refine ks_codeAny_call_defAt (binds := ps.zip us) hr.depth (KX _ _ lf) rfl lim (codeRec_of KX F.cd) rfl hb S.nocell (fun y hy => S.loc _ (List.of_mem_zip hy).1) (fun h₁ hns kp => ?_) S.co S.gen S.kind
  have I := inv_sup (f := f) (cda := cda) (qual := qual) (tk := s.toks + (ps.zip us).length) S hr.hd e0 hl r lcc hns kp
  obtain ⟨t, ht, hq⟩ := h A outer s H
  have q' := hq vs Q H (by obtain ⟨a, ws, e1, e2, e3, e4⟩ := q; exact ⟨a, ws, e1, e2, e3, e4⟩)
  obtain ⟨a, ws, rfl, hw, ea, _⟩ := q
  have h0 : (L2.start ps (.ref a :: ws))[0]? = some (some (.ref a)) := rfl
  refine ks_wpAt_execs_cons (ks_wpAt_mono (sup_first F S BS X.T X.su X.op X.hD X.CD X.al X.VE I h0 ea (Q := fun fl' s' => fl' = .next ∧ Inv (supCx P w K mg base ps qual scope f cda cc A outer s H) [] (L2.start ps (.ref a :: ws)) H s') (fun s' I' => ⟨rfl, I'⟩) he) (fun fl' s' hz => ?_) (fun _ _ z => z.elim))
  obtain ⟨rfl, I'⟩ := hz
  refine wpAt_of_wpAny (wpAny_mono (ht.run [] s' _ H _ I' q') (fun fl'' s'' hs => ?_) fun _ _ z => z.elim)
  have fin : ∀ {σ' : L2.St} {H' : Hp} {v : V} {u : Value}, Inv (supCx P w K mg base ps qual scope f cda cc A outer s H) [] σ' H' s'' → RelV v u → Q v H' → CE outer P w H s Q u s'' :=
    fun {σ' H' v u} J rv q => ⟨v, H', J.os, J.bare, J.base, J.hok, rv, q⟩
  cases fl'' with
  | ret u =>
    obtain ⟨v, σ', H', J, rv, q⟩ := hs
    exact fin J rv q
  | next =>
    obtain ⟨σ', H', J, q⟩ := hs
    exact fin (v := V.non) (u := Value.none) J rfl q
  | brk =>
    obtain ⟨_, _, _, q⟩ := hs
    exact False.elim q
  | cont =>
    obtain ⟨_, _, _, q⟩ := hs
    exact False.elim q
end
section
variable {P : Program} {w : World} {K : PySem.W.Frag} {mg : Str → Option Value} {base : Heap} {qual : Str} {params : Arguments} {scope : Scope} {f D cda cc C : Addr} {fd : FuncData} {CX : CXT} {k : Nat}
  {B nw ini : String} {tl : List Value} {pl : Sem Bool} {p0 p1 p2 p3 p4 p5 a1 a2 a3 a4 b1 b2 b3 b4 c1 c2 c3 c4 : Pos} {msg code f1 f2 x1 x2 : Str} {j jj : Nat}
theorem fn_exc0 (F : SupD K P qual params (.Expr (.Call (.Attribute (.Call (.Name "super" p0) [] [] p1) "__init__" p2) [.Constant (.str msg) j p3] [] p4) p5 :: [.Assign [.Attribute (.Name "self" c1) "code" c2] (.Constant (.str code) jj c3) c4]) scope ["self"] f D fd cda cc) (S : SupS ["self"] params scope) (BS : Bas B nw ini tl) (X : XClsB B nw ini tl K mg C D)  (nc : findIn K (.ref C) "code" = some none)
    (hc : ∀ L, swapsWith (.Constant (.str code) jj c3) (some (.Attribute (.Name "self" c1) "code" c2)) c4.line (ksEnv qual scope L f (.ref cda) cc) = pure false)
    (he : ∀ L, eval (.Call (.Attribute (.Call (.Name "super" p0) [] [] p1) "__init__" p2) [.Constant (.str msg) j p3] [] p4) (ksEnv qual scope L f (.ref cda) cc) = (do
      let ov ← attributeBase (.Call (.Name "super" p0) [] [] p1) "__init__" (ksEnv qual scope L f (.ref cda) cc) (eval (.Call (.Name "super" p0) [] [] p1) (ksEnv qual scope L f (.ref cda) cc))
      standAt p2.atName
      let (fv, first) ← holding [ov] (getMethod ov "__init__" pl)
      callWith p4 fv first (backTo p4 (starEach [.Constant (.str msg) j p3] (ksEnv qual scope L f (.ref cda) cc))) [])) :
    FnOk P w K mg base CX (k + 1) f fd ["self"] (spX C 0 (fl0 code)) := by
  refine fn_exc F S BS X rfl he fun A outer s H => ⟨_, pss_one (ps_ost BS (pe_var (i := 0) rfl (.inl (S.loc _ (.head _)))) pe_str (hc _)), ?_⟩
  rintro vs Q H1 ⟨a, ws, rfl, hl, ea, q⟩
  have e : ws = [] := List.eq_nil_of_length_eq_zero hl
  subst e
  exact ⟨.ref a, rfl, a, C, rfl, X.T, nc, .inl ⟨ea, fun dx h1 h2 => q dx h1 h2⟩⟩
theorem fn_exc1 (F : SupD K P qual params (.Expr (.Call (.Attribute (.Call (.Name "super" p0) [] [] p1) "__init__" p2) [.Constant (.str msg) j p3] [] p4) p5 :: [.Assign [.Attribute (.Name "self" a1) f1 a2] (.Name x1 a3) a4, .Assign [.Attribute (.Name "self" c1) "code" c2] (.Constant (.str code) jj c3) c4]) scope ["self", x1] f D fd cda cc) (S : SupS ["self", x1] params scope) (BS : Bas B nw ini tl) (X : XClsB B nw ini tl K mg C D) (n1 : findIn K (.ref C) f1 = some none) (nc : findIn K (.ref C) "code" = some none) (d1 : (x1 == ("__debug__" : Str)) = false) (e1 : (x1 == ("__classdict__" : Str)) = false)
    (ha : ∀ L, swapsWith (.Name x1 a3) (some (.Attribute (.Name "self" a1) f1 a2)) a4.line (ksEnv qual scope L f (.ref cda) cc) = pure false) (hc : ∀ L, swapsWith (.Constant (.str code) jj c3) (some (.Attribute (.Name "self" c1) "code" c2)) c4.line (ksEnv qual scope L f (.ref cda) cc) = pure false)
    (he : ∀ L, eval (.Call (.Attribute (.Call (.Name "super" p0) [] [] p1) "__init__" p2) [.Constant (.str msg) j p3] [] p4) (ksEnv qual scope L f (.ref cda) cc) = (do
      let ov ← attributeBase (.Call (.Name "super" p0) [] [] p1) "__init__" (ksEnv qual scope L f (.ref cda) cc) (eval (.Call (.Name "super" p0) [] [] p1) (ksEnv qual scope L f (.ref cda) cc))
      standAt p2.atName
      let (fv, first) ← holding [ov] (getMethod ov "__init__" pl)
      callWith p4 fv first (backTo p4 (starEach [.Constant (.str msg) j p3] (ksEnv qual scope L f (.ref cda) cc))) [])) :
    FnOk P w K mg base CX (k + 1) f fd ["self", x1] (spX C 1 (fl1 code f1)) := by
  refine fn_exc F S BS X rfl he fun A outer s H => ⟨_, pss_cons (ps_ost BS (pe_var (i := 0) rfl (.inl (S.loc _ (.head _)))) (pe_var (i := 1) rfl (.inl (S.loc _ (.tail _ (.head _)))) d1 e1) (ha _)) (pss_one (ps_ost BS (pe_var (i := 0) rfl (.inl (S.loc _ (.head _)))) pe_str (hc _))), ?_⟩
  rintro vs Q H1 ⟨a, ws, rfl, hl, ea, q⟩
  obtain ⟨w, rfl⟩ : ∃ w, ws = [w] := by
    match ws, hl with
    | [w], _ => exact ⟨w, rfl⟩
  refine ⟨w, rfl, .ref a, rfl, a, C, rfl, X.T, n1, .inl ⟨ea, fun dx h1 h2 => ?_⟩⟩
  refine ⟨.ref a, rfl, a, C, rfl, X.T, nc, .inr ⟨dx, _, upd_same, by rw [upd_ne h2]; exact upd_same, by show 1 ≤ 900; decide, ?_⟩⟩
  have q2 := q dx h1 h2
  rw [← upd2 h2] at q2
  exact q2
theorem fn_exc2 (F : SupD K P qual params (.Expr (.Call (.Attribute (.Call (.Name "super" p0) [] [] p1) "__init__" p2) [.Constant (.str msg) j p3] [] p4) p5 :: [.Assign [.Attribute (.Name "self" a1) f1 a2] (.Name x1 a3) a4, .Assign [.Attribute (.Name "self" b1) f2 b2] (.Name x2 b3) b4, .Assign [.Attribute (.Name "self" c1) "code" c2] (.Constant (.str code) jj c3) c4]) scope ["self", x1, x2] f D fd cda cc) (S : SupS ["self", x1, x2] params scope) (BS : Bas B nw ini tl) (X : XClsB B nw ini tl K mg C D) (n1 : findIn K (.ref C) f1 = some none) (n2 : findIn K (.ref C) f2 = some none) (nc : findIn K (.ref C) "code" = some none) (d1 : (x1 == ("__debug__" : Str)) = false) (e1 : (x1 == ("__classdict__" : Str)) = false) (d2 : (x2 == ("__debug__" : Str)) = false) (e2 : (x2 == ("__classdict__" : Str)) = false)
    (ha : ∀ L, swapsWith (.Name x1 a3) (some (.Attribute (.Name "self" a1) f1 a2)) a4.line (ksEnv qual scope L f (.ref cda) cc) = pure false) (hb : ∀ L, swapsWith (.Name x2 b3) (some (.Attribute (.Name "self" b1) f2 b2)) b4.line (ksEnv qual scope L f (.ref cda) cc) = pure false) (hc : ∀ L, swapsWith (.Constant (.str code) jj c3) (some (.Attribute (.Name "self" c1) "code" c2)) c4.line (ksEnv qual scope L f (.ref cda) cc) = pure false)
    (he : ∀ L, eval (.Call (.Attribute (.Call (.Name "super" p0) [] [] p1) "__init__" p2) [.Constant (.str msg) j p3] [] p4) (ksEnv qual scope L f (.ref cda) cc) = (do
      let ov ← attributeBase (.Call (.Name "super" p0) [] [] p1) "__init__" (ksEnv qual scope L f (.ref cda) cc) (eval (.Call (.Name "super" p0) [] [] p1) (ksEnv qual scope L f (.ref cda) cc))
      standAt p2.atName
      let (fv, first) ← holding [ov] (getMethod ov "__init__" pl)
      callWith p4 fv first (backTo p4 (starEach [.Constant (.str msg) j p3] (ksEnv qual scope L f (.ref cda) cc))) [])) :
    FnOk P w K mg base CX (k + 1) f fd ["self", x1, x2] (spX C 2 (fl2 code f1 f2)) := by
  refine fn_exc F S BS X rfl he fun A outer s H => ⟨_, pss_cons (ps_ost BS (pe_var (i := 0) rfl (.inl (S.loc _ (.head _)))) (pe_var (i := 1) rfl (.inl (S.loc _ (.tail _ (.head _)))) d1 e1) (ha _)) (pss_cons (ps_ost BS (pe_var (i := 0) rfl (.inl (S.loc _ (.head _)))) (pe_var (i := 2) rfl (.inl (S.loc _ (.tail _ (.tail _ (.head _))))) d2 e2) (hb _)) (pss_one (ps_ost BS (pe_var (i := 0) rfl (.inl (S.loc _ (.head _)))) pe_str (hc _)))), ?_⟩
  rintro vs Q H1 ⟨a, ws, rfl, hl, ea, q⟩
  obtain ⟨w, v, rfl⟩ : ∃ w v, ws = [w, v] := by
    match ws, hl with
    | [w, v], _ => exact ⟨w, v, rfl⟩
  refine ⟨w, rfl, .ref a, rfl, a, C, rfl, X.T, n1, .inl ⟨ea, fun dx h1 h2 => ?_⟩⟩
  refine ⟨v, rfl, .ref a, rfl, a, C, rfl, X.T, n2, .inr ⟨dx, _, upd_same, by rw [upd_ne h2]; exact upd_same, by show 1 ≤ 900; decide, ?_⟩⟩
  rw [upd2 h2]
  refine ⟨.ref a, rfl, a, C, rfl, X.T, nc, .inr ⟨dx, _, upd_same, by rw [upd_ne h2]; exact upd_same, by show 2 ≤ 900; decide, ?_⟩⟩
  have q2 := q dx h1 h2
  rw [← upd2 h2] at q2
  exact q2
end
end XG
set_option Elab.async false
set_option linter.all false
set_option maxRecDepth 100000
set_option maxHeartbeats 2000000
/-! an own error made with keywords -/
namespace XG
open PySem PySem.Spec PyProof.Rows L2 PySem.W PySem.HandSPX
section
variable {M : Model} {A : Around} {E : Value → Shared → Prop} {h : Heap} {g : Array GenState} {d : Drawn} {t : Nat} {os : OsState} {kws : List (Str × Value)}
variable {nm q : Str} {C N : Addr} {bs bm bmB : List Value} {hdct : Bool} {sn : List Str} {sub : List Value} {ab : Bool} {col : Option Bool} {dd : Option Addr} {k0 k1 k2 k3 k5 : Option Value} {B newId initId : String}
theorem check_newK (F : ExcBaseFacts B newId initId bmB) (hT : ∀ X : String, bm.contains (.type X) = bmB.contains (.type X)) {rest : List Value} {Q : Unit → Shared → Prop}
    (hC : h.get? C = some (excClassObj nm q C N bs bm hdct sn sub ab col dd k0 k1 k2 k3 k5 newId)) (hq : Q () ⟨h, g, d, t, os⟩) : wpAny M A (checkBuiltinCall newId ⟨.ref C :: rest, kws⟩) Q E ⟨h, g, d, t, os⟩ := by
  have hcont : (Value.ref C :: bm).contains (.type B) = true := by rw [List.contains_cons, hT, F.hasB, Bool.or_true]
  have hstar := F.noStar
  simp only [checkBuiltinCall, F.newKind, F.newSplit, F.newRow]
  repeat (first | refine wpAny_loadPart_at hC ?_ | (refine wpAny_isSubtype_exc hC ?_; rw [hcont]) | refine wpAny_staticBase_exc hC ?_ | refine wpAny_madeBy_exc hC ?_ | simp only [bne_self_eq_false, Bool.false_eq_true, if_false] | wp_step)
  exact hq
end
section
variable {prog : Program} {w : World} {A : Around} {E : Value → Shared → Prop} {R : Result → Shared → Prop} {h : Heap} {g : Array GenState} {d : Drawn} {t : Nat} {os : OsState} {kws : List (Str × Value)}
variable {nm q : Str} {C N : Addr} {bs bm bmB : List Value} {hdct : Bool} {sn : List Str} {sub : List Value} {ab : Bool} {col : Option Bool} {dd : Option Addr} {k0 k1 k2 k3 k5 : Option Value} {B newId initId : String}
theorem newK (F : ExcBaseFacts B newId initId bmB) (hT : ∀ X : String, bm.contains (.type X) = bmB.contains (.type X)) {rest : List Value}
    (hC : h.get? C = some (excClassObj nm q C N bs bm hdct sn sub ab col dd k0 k1 k2 k3 k5 newId))
    (hq : R (.ok (.ret (.ref (h.objs.size + 1)))) ⟨(h.push { cls := .type "tuple", data := .seq rest.toArray }).push
      { cls := .ref C, data := .fields #[.ref h.objs.size, .none, .none, .none, .bool false, .none] }, g, d, t, os⟩) (hrest : rest.length ≤ sizeLine) :
    codeAny (model prog w) A (.builtin newId ⟨.ref C :: rest, kws⟩) R ⟨h, g, d, t, os⟩ := by
  have hends := F.ends
  have hcB : (Value.ref C :: bm).contains (.type B) = true := by rw [List.contains_cons, hT, F.hasB, Bool.or_true]
  have hcA : (Value.ref C :: bm).contains (.type "AttributeError") = false := by rw [List.contains_cons, hT, F.noAttr]; rfl
  have hcN : (Value.ref C :: bm).contains (.type "NameError") = false := by rw [List.contains_cons, hT, F.noName]; rfl
  refine codeAny_builtinAt F.entry ?_
  unfold Builtin.«BaseException.__new__»
  refine _root_.PySem.wpAt_bind ?_
  show _root_.PySem.wpAt _ _ _ (stack >>= _) _ _ _
  refine _root_.PySem.wpAt_bind (_root_.PySem.wpAt_stack fun p below => _root_.PySem.wpAt_of_wpAny ?_)
  wp_walk
  refine _root_.PySem.wpAt_of_wpAny ?_
  rw [F.owner]
  repeat (first | with_reducible refine wpAny_madeHere_exc F.canon hC ?_ | with_reducible refine wpAny_loadPart_at hC ?_ | (with_reducible refine wpAny_isSubtype_exc hC ?_; first | rw [hcB] | rw [hcA] | rw [hcN]) | wp_step)
  show R _ _
  rw [Heap.size_push]
  exact hq
theorem type_callK (F : ExcBaseFacts B newId initId bmB) (hT : ∀ X : String, bm.contains (.type X) = bmB.contains (.type X)) {rest : List Value} {fI : Addr} {Q : Fin → Shared → Prop}
    (hC : h.get? C = some (excClassObj nm q C N bs bm hdct sn sub ab col dd k0 k1 k2 k3 k5 newId))
    (hi : W.Looks (model prog w) h (typeLookup (.ref C) "__init__") (some (.ref fI))) (hb : ∀ self, W.Looks (model prog w) h (bindSpecial (.ref fI) self) (.ref fI, [self])) (hrest : rest.length ≤ sizeLine)
    (hq : codeAny (model prog w) A (.call (.ref fI) ⟨.ref (h.objs.size + 1) :: rest, kws⟩)
      (fun r s' => match r with | .ok (.ret v) => v = .none ∧ Q (.done (.ret (.ref (h.objs.size + 1)))) s' | .ok _ => False | .error e => E e s')
      ⟨(h.push (W.kdv_tup rest)).push (excO C h.objs.size), g, d, t, os⟩) :
    wpAny (model prog w) A (Builtin.«type.__call__» ⟨.ref C :: rest, kws⟩) Q E ⟨h, g, d, t, os⟩ := by
  repeat (first | with_reducible refine wpAny_loadPart_at hC ?_ | with_reducible refine wpAny_madeBy_exc hC ?_ | wp_step)
  refine codeAny_call_builtin_code (Code.quiet_builtin _ F.quiet) (check_newK F hT hC ?_)
  refine newK F hT hC ?_ hrest
  show wpAny _ _ _ _ _ _
  have k : ∀ b o, h.get? b = some o → ((h.push (W.kdv_tup rest)).push (excO C h.objs.size)).get? b = some o := fun b o e => Heap.get?_push_of_some _ (Heap.get?_push_of_some _ e)
  have hC₁ := k _ _ hC
  have hget : ((h.push (W.kdv_tup rest)).push (excO C h.objs.size)).get? (h.objs.size + 1) = some (excO C h.objs.size) := by heap_get
  have hcC : (Value.ref C :: bm).contains (.ref C) = true := by simp
  have i1 := hi.keeps k
  have b1 := (hb (.ref (h.objs.size + 1))).keeps k
  unfold isInstance
  repeat (first | with_reducible refine wpAny_loadPart_at hget ?_ | (with_reducible refine wpAny_isSubtype_exc hC₁ ?_; rw [hcC]) | wp_step)
  show wpAny _ _ (typeLookup (.ref C) _) _ _ _
  refine i1.at ?_
  refine wpAny_holding (wpAny_bind (b1.at ?_))
  refine wpAny_bind (wpAny_call (codeAny_mono hq fun r s' z => ?_))
  rcases r with e | (v | _ | _ | _) <;> first | exact z | exact z.elim | skip
  obtain ⟨rfl, z⟩ := z
  first
    | exact wpAny_pure (wpAny_pure z)
    | (wp_walk; exact z)
/-- C(.., k=..): the object is laid, then the own __init__ runs -/
theorem callK (F : ExcBaseFacts B newId initId bmB) (hT : ∀ X : String, bm.contains (.type X) = bmB.contains (.type X)) {rest : List Value} {fI : Addr}
    (hC : h.get? C = some (excClassObj nm q C N bs bm hdct sn sub ab col dd k0 k1 k2 k3 k5 newId))
    (hi : W.Looks (model prog w) h (typeLookup (.ref C) "__init__") (some (.ref fI))) (hb : ∀ self, W.Looks (model prog w) h (bindSpecial (.ref fI) self) (.ref fI, [self])) (hrest : rest.length ≤ sizeLine)
    (hq : codeAny (model prog w) (A.under (.builtin "type.__call__" ⟨.ref C :: rest, kws⟩)) (.call (.ref fI) ⟨.ref (h.objs.size + 1) :: rest, kws⟩) (W.InitBack (h.objs.size + 1) R)
      ⟨(h.push (W.kdv_tup rest)).push (excO C h.objs.size), g, d, t, os⟩) :
    codeAny (model prog w) A (.call (.ref C) ⟨rest, kws⟩) R ⟨h, g, d, t, os⟩ := by
  have f1 := tc_lookup
  have f2 := tc_bind (.ref C)
  have hTy : (⟨h, g, d, t, os⟩ : Shared).TypeIs (.ref C) "type" := ⟨_, hC, rfl⟩
  refine codeAny_of_tree ?_
  show wpAny _ _ (callAny (.ref C) _) _ _ _
  repeat (any_goals (first | assumption | with_reducible refine wpAny_loadPart_at hC ?_ | wp_step))
  refine ⟨rfl, ?_⟩
  refine codeAny_call_builtin_at (Code.quiet_builtin _ (by decide +kernel)) entry_typeCall (wpAny_check_type_call_sub hC (type_callK F hT hC hi hb hrest ?_))
  refine codeAny_mono hq fun r s' z => ?_
  rcases r with e | (v | _ | _ | _) <;> exact z
end
end XG
set_option Elab.async false
set_option linter.all false
set_option maxRecDepth 100000
set_option maxHeartbeats 2000000
/-! an own error as a value -/
namespace XG
open PySem PySem.Spec PyProof.Rows L2 PySem.W XI
theorem upd3 {H : Hp} {dx a : Addr} {o u v : HO} : upd (upd (upd H a o) dx u) a v = upd (upd H dx u) a v := by
  funext b
  by_cases e : b = a
  · rw [e, upd_same, upd_same]
  · rw [upd_ne e, upd_ne e]
    by_cases e2 : b = dx
    · rw [e2, upd_same, upd_same]
    · rw [upd_ne e2, upd_ne e2, upd_ne e]
/-- C(.., k = v, ..) -/
def tErr (C : Addr) (n m : Nat) (fl : List V → List (Str × V)) (t tk : TA) : TE := fun σ H Q => t σ H fun vs H1 => tk σ H1 fun zs H2 => vs.length = n ∧ zs.length = m ∧ ∀ a dx, H2 a = none → H2 dx = none → dx ≠ a → Q (.ref a) (upd (upd H2 dx (exd dx (fl (vs ++ zs)))) a (exo a C (some dx)))
section
variable {X : Cx} {CX : CXT} {k n : Nat} {fI C : Addr} {fd : FuncData} {ps ks : List Str} {x : Str} {p pos : Pos} {e : Expr} {es : List Expr} {kws : List Keyword} {t tk : TA} {fl : List V → List (Str × V)} {B nw ini : String} {tl : List Value}
theorem run_err {pins : List (Addr × Obj)} {σ : L2.St} {H : Hp} {s : Shared} {Q : VK} {us ws : List Value} {vs zs : List V} (BS : Bas B nw ini tl) (T : OexB X.K nw tl C) (iC : findIn X.K (.ref C) "__init__" = some (some (.ref fI))) (tI : typeIn X.K (.ref fI) = some (.type "function"))
    (F1 : FnOk X.prog X.w X.K X.mg X.base CX k fI fd ps (spX C (n + ks.length) fl)) (hr : Room (k + 1) X.A) (hb : KBn X.K fd ps (n + 1) ks (fun us ws => us ++ ws) (fun vs zs => vs ++ zs)) (hx : Passes CX X (fun _ _ _ => False)) (hn : n ≤ 1000)
    (I : Inv X pins σ H s) (r : Vals vs us) (rz : Vals zs ws) (l1 : vs.length = n) (l2 : zs.length = ks.length)
    (h : ∀ a dx, H a = none → H dx = none → dx ≠ a → Q (.ref a) (upd (upd H dx (exd dx (fl (vs ++ zs)))) a (exo a C (some dx)))) :
    wpAny (model X.prog X.w) X.A (call (.ref C) us (ks.zip ws)) (EP X pins σ Q) X.xe s := by
  obtain ⟨nm, q, N, bs, bm, sn, sub, ab, col, dd, k0, k1, k2, k3, k5, hC, hbm⟩ := T.cls
  obtain ⟨hp, g, dr, tk, os⟩ := s
  have hsz : hp.objs.size ≤ hp.objs.size + 1 := Nat.le_succ _
  have hnn : H (hp.objs.size + 1) = none := I.hok.fresh hsz
  have kk : ∀ b o, hp.get? b = some o → ((hp.push (kdv_tup us)).push (HandSPX.excO C hp.objs.size)).get? b = some o := fun b o e => Heap.get?_push_of_some _ (Heap.get?_push_of_some _ e)
  have hget : ((hp.push (kdv_tup us)).push (HandSPX.excO C hp.objs.size)).get? (hp.objs.size + 1) = some (HandSPX.excO C hp.objs.size) := by heap_get
  have I2 : Inv X pins σ (upd H (hp.objs.size + 1) (exo (hp.objs.size + 1) C none)) ⟨(hp.push (kdv_tup us)).push (HandSPX.excO C hp.objs.size), g, dr, tk, os⟩ :=
    I.laid (t' := tk) (a := hp.objs.size + 1) (o := exo (hp.objs.size + 1) C none) (h' := (hp.push (kdv_tup us)).push (HandSPX.excO C hp.objs.size)) kk hsz (exo_ok hget)
  have hq : spX C (n + ks.length) fl (.ref (hp.objs.size + 1) :: (vs ++ zs)) (upd H (hp.objs.size + 1) (exo (hp.objs.size + 1) C none)) (fun v H2 => v = .non ∧ Q (.ref (hp.objs.size + 1)) H2) (fun _ _ _ => False) := by
    refine ⟨_, vs ++ zs, rfl, by rw [List.length_append, l1, l2], upd_same, fun dx h1 h2 => ⟨rfl, ?_⟩⟩
    rw [upd3]
    rw [upd_ne h2] at h1
    exact h _ dx hnn h1 h2
  have r1 : Vals (V.ref (hp.objs.size + 1) :: vs) (Value.ref (hp.objs.size + 1) :: us) := .cons rfl r
  have r2 := hb.rel r1 rz
  have n1 : (Value.ref (hp.objs.size + 1) :: us).length = n + 1 := by rw [List.length_cons, ← r.length, l1]
  have hus : us.length ≤ sizeLine := by
    rw [← Paired.length r, l1, sizeLine_eq]
    omega
  refine wpAny_call (callK BS.fx (fun Y => excTail_contains Y bm hbm) (I.kIn _ _ hC) (looks_findIn I.kIn iC) (fun self => bind_fn I.kIn self tI) hus
    (codeAny_mono (F1.run _ X.stack _ _ ⟨Value.ref (hp.objs.size + 1) :: us, ks.zip ws⟩ (Value.ref (hp.objs.size + 1) :: us ++ ws) _ _ (fun _ _ _ => False) (hr.make C us (ks.zip ws)) (I2.env0.make C us (ks.zip ws)) (hb.to _ (Value.ref (hp.objs.size + 1) :: us) ws I2.kIn n1 (rz.length.symm.trans l2)) r2 hq) fun r s' hq' => ?_))
  cases r with
  | error er => exact hx pins σ _ _ er s' I2 hq'
  | ok fl =>
    cases fl with
    | ret u =>
      obtain ⟨v, H', I3, rv, ev, q3⟩ := I2.after hq'
      subst ev
      exact ⟨rv, ⟨V.ref (hp.objs.size + 1), H', I3, rfl, q3⟩⟩
    | next => exact False.elim hq'
    | brk => exact False.elim hq'
    | cont => exact False.elim hq'
theorem pe_err0 (BS : Bas B nw ini tl) (T : OexB X.K nw tl C) (iC : findIn X.K (.ref C) "__init__" = some (some (.ref fI))) (tI : typeIn X.K (.ref fI) = some (.type "function"))
    (F1 : FnOk X.prog X.w X.K X.mg X.base CX k fI fd ps (spX C (0 + ks.length) fl)) (hr : Room (k + 1) X.A) (hb : KBn X.K fd ps (0 + 1) ks (fun us ws => us ++ ws) (fun vs zs => vs ++ zs)) (hx : Passes CX X (fun _ _ _ => False)) (hg : Gl X x) (hm : X.mg x = some (.ref C)) (hkw : PK X kws tk)
    (hall : (backToKw pos (keywordEach kws X.env)).all (·.1.isSome) = true := by rfl) (hks : (backToKw pos (keywordEach kws X.env)).filterMap (·.1) = ks := by rfl) (hdb : (x == ("__debug__" : Str)) = false := by decide)
    (hpl : ((backTo pos (starEach [] X.env)).any (·.1) || (backToKw pos (keywordEach kws X.env)).any (·.1.isNone)) = false := by rfl) :
    PE X (.Call (.Name x p) [] kws pos) (tErr C 0 ks.length fl tNil tk) := by
  refine ⟨fun pins s σ H Q I h => ?_⟩
  refine wpAny_Call_Name_kw (ld_glob I hg hm ?_ hdb)
  refine PySem.W.callWith_KW0 (h₀ := X.base) I.ok.mod.kin T.kC hall ?_ hpl
  refine thn (hkw.run pos pins s σ H _ I h) fun ws s2 ⟨zs, H2, I2, rz, l1, l2, q2⟩ => ⟨I2.kIn, ?_⟩
  rw [hks]
  exact run_err (us := []) (vs := []) BS T iC tI F1 hr hb hx (by decide) I2 .nil rz rfl l2 q2
theorem pe_err (BS : Bas B nw ini tl) (T : OexB X.K nw tl C) (iC : findIn X.K (.ref C) "__init__" = some (some (.ref fI))) (tI : typeIn X.K (.ref fI) = some (.type "function"))
    (F1 : FnOk X.prog X.w X.K X.mg X.base CX k fI fd ps (spX C (n + ks.length) fl)) (hr : Room (k + 1) X.A) (hb : KBn X.K fd ps (n + 1) ks (fun us ws => us ++ ws) (fun vs zs => vs ++ zs)) (hx : Passes CX X (fun _ _ _ => False)) (hn : n ≤ 1000) (hg : Gl X x) (hm : X.mg x = some (.ref C)) (ha : PA X (e :: es) t) (hkw : PK X kws tk)
    (hall : (backToKw pos (keywordEach kws X.env)).all (·.1.isSome) = true := by rfl) (hks : (backToKw pos (keywordEach kws X.env)).filterMap (·.1) = ks := by rfl) (hdb : (x == ("__debug__" : Str)) = false := by decide)
    (he : starEach (e :: es) X.env = (false, eval e X.env) :: starEach es X.env := by rfl) (hpl : ((backTo pos (starEach (e :: es) X.env)).any (·.1) || (backToKw pos (keywordEach kws X.env)).any (·.1.isNone)) = false := by rfl) :
    PE X (.Call (.Name x p) (e :: es) kws pos) (tErr C n ks.length fl t tk) := by
  refine ⟨fun pins s σ H Q I h => ?_⟩
  refine wpAny_Call_Name_kw (ld_glob I hg hm ?_ hdb)
  refine PySem.W.callWith_KW (h₀ := X.base) I.ok.mod.kin T.kC hall (thn (ha.run pos pins s σ H _ I h) fun us s1 ⟨vs, H1, I1, r, q⟩ => ?_) hpl he
  refine thn (hkw.run pos pins s1 σ H1 _ I1 q) fun ws s2 ⟨zs, H2, I2, rz, l1, l2, q2⟩ => ⟨I2.kIn, ?_⟩
  rw [hks]
  exact run_err BS T iC tI F1 hr hb hx hn I2 r rz l1 l2 q2
end
end XG
set_option Elab.async false
set_option linter.all false
set_option maxRecDepth 100000
set_option maxHeartbeats 2000000
/-! own errors as values: data -/
namespace DL
open PySem PySem.Spec PyProof.Rows L2
/-- what is known of an own error class that is made with n places and the keywords ks -/
structure ErrF (P : Program) (w : World) (K : PySem.W.Frag) (mg : Str → Option Value) (base : Heap) (x : Str) (C : Addr) (n : Nat) (ks : List Str) (fl : List V → List (Str × V)) : Prop where
  m : mg x = some (.ref C)
  ex : ∃ (B nw ini : String) (tl : List Value) (fI : Addr) (fd : FuncData) (ps : List Str), XG.Bas B nw ini tl ∧ XG.OexB K nw tl C ∧ PySem.W.findIn K (.ref C) "__init__" = some (some (.ref fI)) ∧ PySem.W.typeIn K (.ref fI) = some (.type "function") ∧
    KBn K fd ps (n + 1) ks (fun us ws => us ++ ws) (fun vs zs => vs ++ zs) ∧ FnOk P w K mg base (L2.CX P w) 1 fI fd ps (XI.spX C (n + ks.length) fl)
def dErr (C : Addr) (n m : Nat) (flD : List D → List (Str × D)) (α κ : DA) : DE := fun ρ M k x => α ρ M (fun ds M1 => κ ρ M1 (fun zs M2 => ds.length = n ∧ zs.length = m ∧ k (.err C (flD (ds ++ zs))) M2) x) x
section
variable {X : Cx} {E : XK} {e : Expr} {es : List Expr} {kws : List Keyword} {αa ακ : DA} {x : Str} {C : Addr} {n : Nat} {ks : List Str} {fl : List V → List (Str × V)} {flD : List D → List (Str × D)} {p pos : Pos}
theorem err_end {s0 s2 : Sta} {kk : DK} {Q : VK} {vs zs : List V} {ds zd : List D} (hfl : ∀ {G : Hp} {vs : List V} {ds : List D}, Reps X.K G vs ds → ds.length = n + ks.length → FRep X.K G (fl vs) (flD ds)) (pp : Post X.K s0 kk Q) (st : Step s0 s2) (ok2 : Ok X.K s2) (r1 : Reps X.K s2.G vs ds) (r2 : Reps X.K s2.G zs zd) (l1 : ds.length = n) (l2 : zd.length = ks.length) (q : kk (.err C (flD (ds ++ zd))) s2.M) :
    ∀ a dx, s2.H a = none → s2.H dx = none → dx ≠ a → Q (.ref a) (upd (upd s2.H dx (exd dx (fl (vs ++ zs)))) a (exo a C (some dx))) := by
  intro a dx ha hdx hne
  obtain ⟨o1, sA⟩ := ok2.new (o := exd dx (fl (vs ++ zs))) hdx
  obtain ⟨o2, sB⟩ := o1.new (p := a) (o := exo a C (some dx)) (by show upd s2.H dx _ a = none; rw [upd_ne (Ne.symm hne)]; exact ha)
  have fr := hfl (r1.append r2) (by rw [List.length_append, l1, l2])
  exact pp (.err C (flD (ds ++ zd))) ⟨upd (upd s2.H dx (exd dx (fl (vs ++ zs)))) a (exo a C (some dx)), upd (upd s2.G dx (exd dx (fl (vs ++ zs)))) a (exo a C (some dx)), s2.M⟩ q ((st.trans sA).trans sB) o2 _ (.err upd_same (by show upd (upd s2.G dx _) a _ dx = _; rw [upd_ne hne]; exact upd_same) ((fr.same sA.same).same sB.same))
theorem d_err0 (R : ErrF X.prog X.w X.K X.mg X.base x C 0 ks fl) (hfl : ∀ {G : Hp} {vs : List V} {ds : List D}, Reps X.K G vs ds → ds.length = 0 + ks.length → FRep X.K G (fl vs) (flD ds)) (hr : Room 2 X.A) (hg : Gl X x) (hkw : DPK X E kws ακ)
    (hall : (backToKw pos (keywordEach kws X.env)).all (·.1.isSome) = true := by rfl) (hks : (backToKw pos (keywordEach kws X.env)).filterMap (·.1) = ks := by rfl) (hdb : (x == ("__debug__" : Str)) = false := by decide)
    (hpl : ((backTo pos (starEach [] X.env)).any (·.1) || (backToKw pos (keywordEach kws X.env)).any (·.1.isNone)) = false := by rfl) :
    DP X E (.Call (.Name x p) [] kws pos) (dErr C 0 ks.length flD dNil ακ) := by
  obtain ⟨B, nw, ini, tl, fI, fd, ps, BS, T, iC, tI, hb, F1⟩ := R.ex
  refine pe_mono (XG.pe_err0 BS T iC tI F1 hr hb passes_no hg R.m hkw hall hks hdb hpl) fun σ H Q h => ?_
  obtain ⟨ρ, s0, kk, xx, rfl, er, q, pp, px⟩ := h
  refine ⟨ρ, s0, _, xx, rfl, er, q, fun zd s2 q2 st2 ok2 zs r2 => ?_, px⟩
  obtain ⟨l1, l2, q3⟩ := q2
  exact ⟨rfl, r2.length.trans l2, err_end (n := 0) hfl pp st2 ok2 .nil r2 rfl l2 q3⟩
theorem d_err (R : ErrF X.prog X.w X.K X.mg X.base x C n ks fl) (hfl : ∀ {G : Hp} {vs : List V} {ds : List D}, Reps X.K G vs ds → ds.length = n + ks.length → FRep X.K G (fl vs) (flD ds)) (hr : Room 2 X.A) (hn : n ≤ 1000) (hg : Gl X x) (ha : DPA X E (e :: es) αa) (hkw : DPK X E kws ακ)
    (hall : (backToKw pos (keywordEach kws X.env)).all (·.1.isSome) = true := by rfl) (hks : (backToKw pos (keywordEach kws X.env)).filterMap (·.1) = ks := by rfl) (hdb : (x == ("__debug__" : Str)) = false := by decide)
    (he : starEach (e :: es) X.env = (false, eval e X.env) :: starEach es X.env := by rfl) (hpl : ((backTo pos (starEach (e :: es) X.env)).any (·.1) || (backToKw pos (keywordEach kws X.env)).any (·.1.isNone)) = false := by rfl) :
    DP X E (.Call (.Name x p) (e :: es) kws pos) (dErr C n ks.length flD αa ακ) := by
  obtain ⟨B, nw, ini, tl, fI, fd, ps, BS, T, iC, tI, hb, F1⟩ := R.ex
  refine pe_mono (XG.pe_err BS T iC tI F1 hr hb passes_no hn hg R.m ha hkw hall hks hdb he hpl) fun σ H Q h => ?_
  obtain ⟨ρ, s0, kk, xx, rfl, er, q, pp, px⟩ := h
  refine ⟨ρ, s0, _, xx, rfl, er, q, fun ds s1 q1 st1 ok1 vs r1 => ?_, px⟩
  refine ⟨ρ, s1, _, xx, rfl, er.step st1 ok1, q1, fun zd s2 q2 st2 ok2 zs r2 => ?_, px.step st1⟩
  obtain ⟨l1, l2, q3⟩ := q2
  exact ⟨r1.length.trans l1, r2.length.trans l2, err_end hfl pp (st1.trans st2) ok2 (r1.same st2.same) r2 l1 l2 q3⟩
end
/-- what an error's class says -/
structure ErrI (K : PySem.W.Frag) (C : Addr) : Prop where
  xf : XfC K C
  cl : (PySem.W.clsIn K C).isSome = true
  ha : PySem.W.findIn K (.ref C) "__class__" = some (some (.builtin "object.__class__"))
  hn : PySem.W.specialIn K (.builtin "object.__class__") "__get__" = some (some (.builtin "getset_descriptor.__get__"))
  ht : PySem.W.takesIn K (.builtin "object.__class__") = some true
  hm : PySem.W.mroIn K C (.type "object") = some true
/-- an error's attribute -/
def dEf (er : Nat → Addr) (N : Nat) (n : Str) (τ : DE) : DE := fun ρ M k x => τ ρ M (fun u M1 => ∃ i fs v, u = .err (er i) fs ∧ i < N ∧ fs.lookup n = some v ∧ k v M1) x
def dIsE (er : Nat → Addr) (N : Nat) (T : Nat → Bool) : D1 := fun u M k _ => ∃ i fs, u = .err (er i) fs ∧ i < N ∧ k (.bl (T i)) M
section
variable {X : Cx} {E : XK} {e : Expr} {τo : DE} {pos p : Pos} {er : Nat → Addr} {N : Nat} {n : Str}
/-- the error's object, its dict -/
theorem err_at {pins : List (Addr × Obj)} {σ : L2.St} {s : Shared} {s0 : Sta} {v : V} {u : Value} {C : Addr} {fs : List (Str × D)} (I : Inv X pins σ s0.H s) (ok : Ok X.K s0) (r : Rep X.K s0.G v (.err C fs)) (ru : RelV v u) :
    ∃ (a : Addr) (ox od : Obj) (mA : Str → Option Value) (fvs : List (Str × V)), v = .ref a ∧ u = .ref a ∧ PySem.W.InstAt s.heap a ox C (some od) ∧ (∀ n, PySem.W.lookIn n od = some (mA n)) ∧ (∀ f, RelO (fvs.lookup f) (mA f)) ∧ FRep X.K s0.G fvs fs := by
  cases r with
  | @err a dd _ fvs _ h hd r =>
    obtain rfl : u = Value.ref a := ru
    obtain ⟨t1, ho⟩ := exo_at I.hok (ok.sub _ _ h)
    obtain ⟨mA, hns, hrel⟩ := exd_at I.hok (ok.sub _ _ hd)
    obtain ⟨od, hod, hlk⟩ := lookIn_ns hns
    exact ⟨a, _, od, mA, fvs, rfl, rfl, ⟨ho, rfl, rfl, hod⟩, hlk, hrel, r⟩
theorem d_ef (T : ∀ i, i < N → ErrI X.K (er i) ∧ PySem.W.findIn X.K (.ref (er i)) n = some none) (he : DP X E e τo) (hb : attributeBase e n X.env (eval e X.env) = eval e X.env := by rfl) : DP X E (.Attribute e n pos) (dEf er N n τo) := by
  refine ⟨fun pins s σ H Q I h => ?_⟩
  obtain ⟨ρ, s0, kk, xx, rfl, erv, q, pp, px⟩ := h
  refine attr_of hb (thn (he.run pins s σ s0.H (fun v H1 => ∃ s1 d, s1.H = H1 ∧ Ok X.K s1 ∧ Step s0 s1 ∧ Rep X.K s1.G v d ∧ ∃ i fs w, d = .err (er i) fs ∧ i < N ∧ fs.lookup n = some w ∧ kk w s1.M) I
    ⟨ρ, s0, _, xx, rfl, erv, q, fun d s1 q1 st1 ok1 v1 r1 => ⟨s1, d, rfl, ok1, st1, r1, q1⟩, px⟩) fun u s1 ⟨v, H1, I1, rv, sa, d, e1, oka, sta, ra, i, fs, w, ed, hi, hl, q1⟩ => ?_)
  subst e1
  subst ed
  obtain ⟨TI, hno⟩ := T i hi
  obtain ⟨a, ox, od, mA, fvs, rfl, rfl, IA, hlk, hrel, r⟩ := err_at I1 oka ra rv
  obtain ⟨wv, hl2, rw2⟩ := r.get hl
  obtain ⟨uv, hu, ru⟩ := RelO.some_of (v := wv) (o := mA n) (by have := hrel n; rw [hl2] at this; exact this)
  exact HandSPX.exc_get I1.kIn IA TI.xf.ga TI.xf.gg TI.xf.exC (PySem.W.findObj_own TI.xf.hdC hno rfl (by rw [hlk, hu])) (handed_of ru) ⟨wv, sa.H, I1.tok _, ru, (pp.step sta).now q1 oka rw2⟩
/-- isinstance(e, c) -/
def rIsE (K : PySem.W.Frag) : List V → Hp → VK → Prop := fun xs H Q => ∃ (a dd C : Addr) (fvs : List (Str × V)) (c : V) (cv : Value) (b : Bool), xs = [.ref a, c] ∧ (∀ u, RelV c u → u = cv) ∧ H a = some (exo a C (some dd)) ∧ H dd = some (exd dd fvs) ∧ ErrI K C ∧ PySem.W.kitOne K (.ref C) cv = some b ∧ Q (.bl b) H
theorem call_isE : CallR X (.builtin "isinstance") (rIsE X.K) := by
  intro pins s σ H xs us Q I r h
  obtain ⟨a, dd, C, fvs, c, cv, b, rfl, hcv, ea, ed, TI, e, q⟩ := h
  cases r with
  | cons rx rr =>
    cases rr with
    | cons rt rr =>
      cases rr
      cases rx
      have ec := hcv _ rt
      subst ec
      obtain ⟨t1, ho⟩ := exo_at I.hok ea
      obtain ⟨mA, hns, hrel⟩ := exd_at I.hok ed
      obtain ⟨od, hod, hlk⟩ := lookIn_ns hns
      have J : PySem.W.InstAt s.heap a ({ cls := .ref C, dict := some dd, data := .fields #[.ref t1, .none, .none, .none, .bool false, .none] } : Obj) C (some od) := ⟨ho, rfl, rfl, hod⟩
      exact PySem.W.kia_one (PySem.W.kitx_exc TI.cl TI.xf.ga TI.xf.gg TI.xf.exC TI.ha TI.hn TI.ht TI.hm) I.kIn J e (fun z => nomatch z) fun tk => ⟨.bl b, H, I.kept (t' := tk) fun _ _ z => z, rfl, q⟩
/-- c an own class -/
theorem d_isE {q : Pos} {x : Str} {C0 : Addr} (Tb : Nat → Bool) (T : ∀ i, i < N → ErrI X.K (er i) ∧ PySem.W.kitOne X.K (.ref (er i)) (.ref C0) = some (Tb i)) (hg : Gl X "isinstance") (hm : X.mg "isinstance" = none) (hgT : Gl X x) (hmT : X.mg x = some (.ref C0)) (he : DP X E e τo)
    (hd : (x == ("__debug__" : Str)) = false := by decide) (hs : starEach [e, .Name x q] X.env = (false, eval e X.env) :: starEach [.Name x q] X.env := by rfl) (hs2 : starEach [.Name x q] X.env = (false, eval (.Name x q) X.env) :: starEach [] X.env := by rfl) (hpl : (backTo pos (starEach [.Name x q] X.env)).any (·.1) = false := by rfl) :
    DP X E (.Call (.Name "isinstance" p) [e, .Name x q] [] pos) (dUn (dIsE er N Tb) τo) :=
  pe_mono (pe_callB call_isE hg hm (by decide +kernel) (pa_cons he (pa_cons (pe_glob (v := .ref C0) hgT hmT rfl hd) pa_nil hs2) hs) (by decide) (by decide) hs hpl) fun σ H Q h => by
    obtain ⟨ρ, s, k, xx, rfl, er', q, pp, px⟩ := h
    refine ⟨ρ, s, _, xx, rfl, er', q, fun u s1 q1 st1 ok1 v1 r1 => ?_, px⟩
    obtain ⟨i, fs, rfl, hi, q1⟩ := q1
    cases r1 with
    | @err a dd _ fvs _ h hd r =>
      exact ⟨a, dd, _, fvs, _, .ref C0, _, rfl, fun u h => h, ok1.sub _ _ h, ok1.sub _ _ hd, (T i hi).1, (T i hi).2, (pp.step st1).now q1 ok1 .bl⟩
/-- c a built-in class -/
theorem d_isEB {q : Pos} {x : Str} {B : String} (Tb : Nat → Bool) (T : ∀ i, i < N → ErrI X.K (er i) ∧ PySem.W.kitOne X.K (.ref (er i)) (.type B) = some (Tb i)) (hg : Gl X "isinstance") (hm : X.mg "isinstance" = none) (hgT : Gl X x) (hmT : X.mg x = none) (hvT : bootBuiltins x = some (.type B)) (he : DP X E e τo)
    (hn : x ≠ "__name__" := by decide) (hd : (x == ("__debug__" : Str)) = false := by decide) (hs : starEach [e, .Name x q] X.env = (false, eval e X.env) :: starEach [.Name x q] X.env := by rfl) (hs2 : starEach [.Name x q] X.env = (false, eval (.Name x q) X.env) :: starEach [] X.env := by rfl) (hpl : (backTo pos (starEach [.Name x q] X.env)).any (·.1) = false := by rfl) :
    DP X E (.Call (.Name "isinstance" p) [e, .Name x q] [] pos) (dUn (dIsE er N Tb) τo) :=
  pe_mono (pe_callB call_isE hg hm (by decide +kernel) (pa_cons he (pa_cons (pe_bltn (v := .ty B) hgT hmT hvT rfl hn hd) pa_nil hs2) hs) (by decide) (by decide) hs hpl) fun σ H Q h => by
    obtain ⟨ρ, s, k, xx, rfl, er', q, pp, px⟩ := h
    refine ⟨ρ, s, _, xx, rfl, er', q, fun u s1 q1 st1 ok1 v1 r1 => ?_, px⟩
    obtain ⟨i, fs, rfl, hi, q1⟩ := q1
    cases r1 with
    | @err a dd _ fvs _ h hd r =>
      exact ⟨a, dd, _, fvs, _, .type B, _, rfl, fun u h => h, ok1.sub _ _ h, ok1.sub _ _ hd, (T i hi).1, (T i hi).2, (pp.step st1).now q1 ok1 .bl⟩
end
end DL
set_option Elab.async false
set_option linter.all false
set_option maxRecDepth 100000
set_option maxHeartbeats 2000000
namespace DL
open PySem PySem.Spec PyProof.Rows L2
section
variable {X : Cx}
/-- a comprehension whose element may use that the def around it holds, too (its cells) -/
theorem lc_in {pins : List (Addr × Obj)} {s : Shared} {σ : L2.St} {H : Hp} {Q : VK} {elt tg iter : Expr} {ifs : List Expr} {scope : Scope} {own : List (Str × Nat)} {pos pos' : Pos} {wi : TI} {g : TG} {tt : TT} {te : TE} {use : Option (Value → Sem Unit)} {Qf : Value → Shared → Prop}
    (hc : X.calm = true) (hN : X.N.Nodup) (I : Inv X pins σ H s) (hi : PI X tg iter wi) (ok : BlkOk X.N X.env.scope scope own)
    (hg : ∀ (s : Shared) (H : Hp) (C : Addr) (cl : List (Str × Addr)) (fp : List Addr), PG (X.blk s H scope (compEnvC scope cl C X.env) fp) tg g) (ht : ∀ (s : Shared) (H : Hp) (C : Addr) (cl : List (Str × Addr)) (fp : List Addr), PTs (X.blk s H scope (compEnvC scope cl C X.env) fp) ifs tt)
    (he : ∀ (s : Shared) (H : Hp) (C : Addr) (cl : List (Str × Addr)) (fp : List Addr), (∀ (pins' : List (Addr × Obj)) (σ' : L2.St) (H' : Hp) (s' : Shared), Inv (X.blk s H scope (compEnvC scope cl C X.env) fp) pins' σ' H' s' → Inv X pins σ H' s') → PE (X.blk s H scope (compEnvC scope cl C X.env) fp) elt te) (hs : ∀ x, foldedSetIterable iter X.env x = pure x)
    (h : tLc wi g tt te (own.map (·.2)) σ H Q)
    (hRR : ∀ D C s' m H', Inv X pins σ H' s' → Q (.ref D) H' → s'.heap.Ns C m → FpOk X pins H' C → compPost (model X.prog X.w) X.A X.xe use Qf (.ref D) C (.ok .next) s') :
    wpAny (model X.prog X.w) X.A (comprehension (.ListComp elt [⟨tg, iter, ifs, 0⟩] scope pos) scope X.env pos' (newList []) false (eval iter X.env) use) Qf X.xe s := by
  have cells : ∀ y ∈ scope.names, y.2 = .free → ∃ c, X.env.cells.lookup y.1 = some c := by
    intro y hy e
    exact (ok.free y hy e).elim (fun z => I.ok.has _ (.inl z)) (fun z => I.ok.has _ (.inr z))
  refine wpAny_comprehension_free (use := use) rfl hs (closure_ok cells) ok.kind (fun y hy e => by rw [ok.uniq y hy, e]) (thn (hi.run pins s σ H _ I h) fun xv sa ha => thn ha fun itv sb hb => ?_)
  obtain ⟨it, fp, tn, J, Hb, rfl, Ib, T, stb, fb, q⟩ := hb
  refine wpAny_newObj_type (newEnv_comp ?_) (by show 0 ≤ sizeLine; decide)
  have freshD : Hb sb.heap.objs.size = none := Ib.hok.fresh (Nat.le_refl _)
  obtain ⟨W, ⟨n0, w0⟩, turn⟩ := q sb.heap.objs.size freshD
  generalize eD : sb.heap.objs.size = D at *
  obtain ⟨sc, esc, esh⟩ : ∃ sc : Shared, sc = ({ sb with heap := sb.heap.push { cls := .type "list", data := .seq ([] : List Value).toArray } } : Shared) ∧ sc.heap = sb.heap.push { cls := .type "list", data := .seq ([] : List Value).toArray } := ⟨_, rfl, rfl⟩
  rw [← esc]
  have kept : ∀ b o, sb.heap.get? b = some o → sc.heap.get? b = some o := fun b o e => by rw [esh]; exact Heap.get?_push_of_some _ e
  have Ic : Inv X pins σ (upd Hb D (.lst [])) sc := by
    have atD : sc.heap.get? D = some { cls := .type "list", data := .seq ([] : List Value).toArray } := by
      rw [esh, ← eD]
      exact Heap.get?_push_size _ rfl
    have K1 := Ib.laid (t' := sb.toks) (a := D) (o := .lst []) (h' := sc.heap) kept (Nat.le_of_eq eD) ⟨Nat.zero_le _, [], 0, .nil, atD⟩
    rw [esc] at K1 ⊢
    exact K1
  have small : ∀ b ∈ fp, b < sb.heap.objs.size := by
    intro b hb
    obtain ⟨o, e, _⟩ := T.obj _ _ stb b hb
    exact Heap.lt_size e
  have notD : ∀ b ∈ fp, b ≠ D := fun b hb => by rw [← eD]; exact Nat.ne_of_lt (small b hb)
  have fc : ∀ b ∈ fp, FpOk X pins (upd Hb D (.lst [])) b ∧ b < sc.heap.objs.size := by
    intro b hb
    obtain ⟨z1, z2⟩ := fb b hb
    refine ⟨⟨by rw [upd_ne (notD b hb)]; exact z1, z2⟩, ?_⟩
    rw [esh, Heap.size_push]
    exact Nat.lt_succ_of_lt (small b hb)
  have stc : tn 0 sc.heap := T.keep _ _ _ stb fun b _ o e => kept b o e
  have Id := block_start Ic ok hN fc
  have rg := hg sc (upd Hb D (.lst [])) sc.heap.objs.size (cellsFrom (sc.heap.objs.size + 1) scope.names (cloFrom X.env.cells scope.names [])) fp
  have rt := ht sc (upd Hb D (.lst [])) sc.heap.objs.size (cellsFrom (sc.heap.objs.size + 1) scope.names (cloFrom X.env.cells scope.names [])) fp
  have re := he sc (upd Hb D (.lst [])) sc.heap.objs.size (cellsFrom (sc.heap.objs.size + 1) scope.names (cloFrom X.env.cells scope.names [])) fp fun pins' σ' H' s' I' => Ic.call' (ch := fp) I'.os I'.base I'.hok I'.bare fun b hb => ⟨(fc b hb).1.2.2.2.1, (fc b hb).1.2.1, (fc b hb).1.2.2.2.2.1, (fc b hb).1.2.2.2.2.2⟩
  show codeAny _ _ (.compStart (.ListComp elt [⟨tg, iter, ifs, 0⟩] scope pos) 0 (.ref it) (.ref D) (compEnvC scope (cellsFrom (sc.heap.objs.size + 1) scope.names (cloFrom X.env.cells scope.names [])) sc.heap.objs.size X.env)) (compPost (model X.prog X.w) X.A X.xe use Qf (.ref D) sc.heap.objs.size) { sc with heap := pushCells (sc.heap.push { cls := .type "dict", data := .dict #[] }) scope.names }
  have none_fp : ∀ b ∈ fp, (upd Hb D (.lst [])) b = none := fun b hb => (fc b hb).1.1
  generalize ece : compEnvC scope (cellsFrom (sc.heap.objs.size + 1) scope.names (cloFrom X.env.cells scope.names [])) sc.heap.objs.size X.env = ce at Id rg rt re ⊢
  have locals_ce : ce.locals = sc.heap.objs.size := by rw [← ece]; rfl
  generalize eHc : upd Hb D (.lst []) = Hc at Ic Id rg rt re w0 none_fp fc
  generalize esd : ({ sc with heap := pushCells (sc.heap.push { cls := .type "dict", data := .dict #[] }) scope.names } : Shared) = sd at Id ⊢
  have std : tn 0 sd.heap := T.keep _ _ _ stc fun b _ o e => by rw [← esd]; exact pushCells_keeps _ _ _ _ (Heap.get?_push_of_some _ e)
  have still : ∀ {σ' : L2.St} {H' : Hp} {s' : Shared}, Inv (X.blk sc Hc scope ce fp) [] σ' H' s' → (∀ b ∈ fp, H' b = none) → ∀ b ∈ fp, FpOk (X.blk sc Hc scope ce fp) [] H' b := by
    intro σ' H' s' I' hn b hb
    refine ⟨hn b hb, (I'.ok.exf b hb).1, I'.ok.exfs b hb, .inl hb, fun x c e => (I'.ok.exf b hb).2 x c e, fun p hp => ?_⟩
    exact absurd (show p ∈ ([] : List (Addr × Obj)) ++ [] from hp) (by simp)
  have loop : codeAny (model X.prog X.w) X.A (.compLoop (.ListComp elt [⟨tg, iter, ifs, 0⟩] scope pos) 0 (.ref it) (.ref D) ce) (compPost (model X.prog X.w) X.A X.xe use Qf (.ref D) sc.heap.objs.size) sd := by
    refine compLoop_any (fun n s' => ∃ i H', Inv (X.blk sc Hc scope ce fp) [] (wipe σ (own.map (·.2))) H' s' ∧ tn i s'.heap ∧ (∀ b ∈ fp, H' b = none) ∧ W i n H') ?_ n0 ⟨0, Hc, Id, std, none_fp, w0⟩
    rintro n s5 ⟨i, H5, I5, st5, n5, w5⟩
    rcases turn i n H5 w5 with ⟨stop, last⟩ | ⟨go, Nx, hNx, step⟩
    · refine thnF (T.done (X.blk sc Hc scope ce fp) rfl rfl rfl hc i [] s5 _ H5 (fun _ _ => False) I5 (still I5 n5) st5 stop) fun r s6 ⟨hr, I6⟩ => ?_
      subst hr
      have back : Inv X pins σ H5 s6 := Ic.call' (ch := fp) I6.os I6.base I6.hok I6.bare fun b hb => ⟨(fc b hb).1.2.2.2.1, (fc b hb).1.2.1, (fc b hb).1.2.2.2.2.1, (fc b hb).1.2.2.2.2.2⟩
      have free5 : H5 sc.heap.objs.size = none := by
        rw [← locals_ce]
        exact I6.free
      obtain ⟨m, hm, _⟩ := I6.loc
      have hm : s6.heap.Ns ce.locals m := hm
      rw [locals_ce] at hm
      exact hRR D sc.heap.objs.size s6 m H5 back last hm (Ic.fpOk (Nat.le_refl _) free5)
    · refine thnF (T.item (X.blk sc Hc scope ce fp) rfl rfl rfl hc i [] s5 _ H5 (fun _ _ => False) I5 (still I5 n5) st5 go) fun r s6 ⟨u, hr, h6⟩ => ?_
      subst hr
      refine thnF h6 fun _ s7 ⟨x, H7, I7, r7, y7, st7, n7⟩ => ?_
      refine thnF (rg.run _ s7 _ H7 x u _ (I7.pinned (still I7 n7) (T.obj _ _ st7)) r7 (step x H7 y7)) fun _ s8 ⟨σ8, H8, I8, hw8, q8⟩ => ?_
      refine thnF (rt.run _ s8 σ8 H8 _ I8 q8) fun b s9 ⟨H9, I9, q9⟩ => ?_
      have over : ∀ {s' : Shared} {H' : Hp}, Inv (X.blk sc Hc scope ce fp) ([] ++ pinsAt fp s7.heap) σ8 H' s' → Nx H' → ∃ m, m < n ∧ ∃ i H', Inv (X.blk sc Hc scope ce fp) [] (wipe σ (own.map (·.2))) H' s' ∧ tn i s'.heap ∧ (∀ b ∈ fp, H' b = none) ∧ W i m H' := by
        intro s' H' I' nx
        obtain ⟨m', hm, w'⟩ := hNx H' nx
        have pinned : ∀ b ∈ fp, ∀ o, s7.heap.get? b = some o → s'.heap.get? b = some o ∧ H' b = none := by
          intro b hb o e
          have z := I'.pin (b, o) (List.mem_append_right _ (List.mem_append_right _ (mem_pinsAt hb e)))
          exact ⟨z.1, z.2.1⟩
        refine ⟨m', hm, i + 1, H', (I'.unpinned (pins := [])).weak (by rw [← hw8, wipe_length]) (fun j v e => ?_), T.keep _ _ _ st7 fun b hb o e => (pinned b hb o e).1, fun b hb => ?_, w'⟩
        · rw [← hw8] at e
          exact (wipe_some e).1
        · obtain ⟨o, e, _⟩ := T.obj _ _ st7 b hb
          exact (pinned b hb o e).2
      match b, q9 with
      | false, q9 =>
        simp only [Bool.false_eq_true, if_false] at q9 ⊢
        exact over I9 q9
      | true, q9 =>
        simp only [if_true] at q9 ⊢
        refine thnF (re.run _ s9 σ8 H9 _ I9 q9) fun z s10 ⟨yv, H10, I10, r10, acc, hD10, hz10, nx⟩ => ?_
        exact app_ok (X := X.blk sc Hc scope ce fp) I10 hD10 hz10 r10 fun s11 I11 => over I11 nx
  exact codeAny_compStart_list loop (T.self X.A 0 _ _ _ std loop)
theorem pe_lcI {elt tg iter : Expr} {ifs : List Expr} {scope : Scope} {own : List (Str × Nat)} {pos : Pos} {wi : TI} {g : TG} {tt : TT} {te : L2.St → TE} (hc : X.calm = true) (hN : X.N.Nodup) (hi : PI X tg iter wi) (ok : BlkOk X.N X.env.scope scope own)
    (hg : ∀ (s : Shared) (H : Hp) (C : Addr) (cl : List (Str × Addr)) (fp : List Addr), PG (X.blk s H scope (compEnvC scope cl C X.env) fp) tg g) (ht : ∀ (s : Shared) (H : Hp) (C : Addr) (cl : List (Str × Addr)) (fp : List Addr), PTs (X.blk s H scope (compEnvC scope cl C X.env) fp) ifs tt)
    (he : ∀ (pins : List (Addr × Obj)) (σ : L2.St) (s : Shared) (H : Hp) (C : Addr) (cl : List (Str × Addr)) (fp : List Addr), (∀ (pins' : List (Addr × Obj)) (σ' : L2.St) (H' : Hp) (s' : Shared), Inv (X.blk s H scope (compEnvC scope cl C X.env) fp) pins' σ' H' s' → Inv X pins σ H' s') → PE (X.blk s H scope (compEnvC scope cl C X.env) fp) elt (te σ))
    (hs : ∀ x, foldedSetIterable iter X.env x = pure x := by intro _; rfl) :
    PE X (.ListComp elt [⟨tg, iter, ifs, 0⟩] scope pos) (fun σ H Q => tLc wi g tt (te σ) (own.map (·.2)) σ H Q) := by
  refine ⟨fun pins s σ H Q I h => ?_⟩
  rw [eval_ListComp]
  refine lc_in hc hN I hi ok hg ht (fun s H C cl fp back => he pins σ s H C cl fp back) hs h fun D C s' m H' I' q hn f => ⟨m, hn, fun h'' sb => ?_⟩
  obtain ⟨f0, f1, f2, f3, f4, f5⟩ := f
  exact ⟨.ref D, H', I'.turned (t' := s'.toks) (fun b o hb e => (sb.2 b hb).trans e) f0 f1 f3 f4 f5, rfl, q⟩
end
end DL
set_option Elab.async false
set_option linter.all false
set_option maxRecDepth 100000
set_option maxHeartbeats 2000000
namespace DL
open PySem PySem.Spec PyProof.Rows L2
/-- where a function's defaults stand: nowhere, or in the tuple at b -/
def dfV : Option Addr → Value
  | none => .none
  | some b => .ref b
/-- at f stands a lambda of this def: its text, its cells, its code object at c, its default in the tuple at t -/
def lamP (X : Cx) (params : Arguments) (body : Expr) (scope : Scope) (f c : Addr) (t : Option Addr) : Heap → Prop := fun h => ∃ doc pm ctv : Value, h.get? f = some (PySem.W.kdv_obj "<lambda>" (X.env.qual ++ "<lambda>") params (.expr body) scope (cloFrom X.env.cells scope.names []) (dfV t) doc pm c ctv)
theorem lamP_ok {X : Cx} {params : Arguments} {body : Expr} {scope : Scope} {f c : Addr} {t : Option Addr} {P : Program} {w : World} {H : Hp} {h : Heap} {doc pm ctv : Value} (e : h.get? f = some (PySem.W.kdv_obj "<lambda>" (X.env.qual ++ "<lambda>") params (.expr body) scope (cloFrom X.env.cells scope.names []) (dfV t) doc pm c ctv)) :
    ObjOk P w H h f (.ext (lamP X params body scope f c t)) := ⟨⟨doc, pm, ctv, e⟩, ⟨_, e⟩, fun h1 h2 z k => by
  obtain ⟨doc', pm', ctv', e'⟩ := z
  exact ⟨doc', pm', ctv', k _ e'⟩⟩
/-- what is new behind the making of a lambda -/
def LamNew (q : Str) (P : Addr) (ps : Array Value) (H H1 : Hp) (c' : Addr) : Prop := (H1 = H ∧ ∃ p : Pos, codeAmong p ps.toList = some (.ref c')) ∨ ∃ ps' : Array Value, H c' = none ∧ H1 = upd (upd H P (.tbl ps')) c' (LamX.CodeO c' q) ∧ TriplesOk ps'.toList ∧
        ∀ (p : Pos) (cv : Value), codeAmong p ps'.toList = some cv → cv = .ref c' ∨ codeAmong p ps.toList = some cv
section
variable {X : Cx} {pins : List (Addr × Obj)} {σ : L2.St} {H : Hp} {s : Shared}
/-- the last step of the making, the defaults being there -/
theorem lam_tail {c P : Addr} {ps : Array Value} {params : Arguments} {body : Expr} {scope : Scope} {pos : Pos} {ln : Nat} {t : Option Addr} {dV : Value} {E : Value → Shared → Prop} {Q : Value → Shared → Prop} (ed : dV = dfV t) (I : Inv X pins σ H s) (TB : LamX.TabB X.base X.mg c P) (hcode : X.env.code = .ref c)
    (hP : H P = some (.tbl ps)) (ht : TriplesOk ps.toList) (ha : ∀ (pos : Pos) (cv : Value), codeAmong pos ps.toList = some cv → ∃ c, cv = .ref c ∧ H c = some (LamX.CodeO c (X.env.qual ++ "<lambda>")))
    (hfree : ∀ y ∈ scope.names, y.2 = .free → ∃ c, X.env.cells.lookup y.1 = some c)
    (h : ∀ (f c' : Addr) (H1 : Hp) (s' : Shared), H1 f = none → Inv X pins σ (upd H1 f (.ext (lamP X params body scope f c' t))) s' → LamNew (X.env.qual ++ "<lambda>") P ps H H1 c' → Q (.ref f) s') :
    wpAny (model X.prog X.w) X.A (makeTail "<lambda>" (X.env.qual ++ "<lambda>") params (.expr body) scope X.env dV .none none pos ln) Q E s := by
  subst ed
  have atP : s.heap.get? P = some { cls := .none, data := .fields ps } := I.hok P _ hP
  match hc : codeAmong pos ps.toList with
  | some cv =>
    obtain ⟨c', rfl, hco⟩ := ha pos cv hc
    refine PySem.W.kdv_makeTailHit (mg := X.mg) (c := c) (P := P) (ps := ps) (closure_ok hfree) I.ok.glob (I.mod.glob.keeps I.bk) hcode (TB.code.keeps I.bk) atP ht hc (TB.bm.keeps I.bk) fun ctv doc h' tk hx hsz => ?_
    have J := I.laid (t' := tk) (a := h'.objs.size) (o := .ext (lamP X params body scope h'.objs.size c' t)) (h' := h'.push (PySem.W.kdv_obj "<lambda>" (X.env.qual ++ "<lambda>") params (.expr body) scope (cloFrom X.env.cells scope.names []) (dfV t) doc ((X.mg "__name__").getD .none) c' ctv))
      (fun b o e => Heap.get?_push_of_some _ (hx b o e)) hsz (lamP_ok (Heap.get?_push_size _ rfl))
    exact h h'.objs.size c' H _ (I.hok.fresh hsz) J (.inl ⟨rfl, pos, hc⟩)
  | none =>
    refine PySem.W.kdv_makeTail (mg := X.mg) (c := c) (P := P) (ps := ps) (closure_ok hfree) I.ok.glob (I.mod.glob.keeps I.bk) hcode (TB.code.keeps I.bk) atP ht hc TB.gP (TB.bm.keeps I.bk) fun c' ctv doc h' tk hx hge hlt hrec htb => ?_
    obtain ⟨c2, oc, vs, t2, e2, hoc, hd, hv⟩ := hrec
    cases e2
    have nC : H c' = none := I.hok.fresh hge
    have big : s.heap.objs.size ≤ h'.objs.size := Nat.le_trans hge (Nat.le_of_lt hlt)
    have eL : (ps ++ #[rawInt pos.line, rawInt pos.col, .ref c']).toList = ps.toList ++ [rawInt pos.line, rawInt pos.col, .ref c'] := by simp
    have J := LamX.inv_table (t' := tk) (more := #[rawInt pos.line, rawInt pos.col, .ref c']) (h' := h') I hP (fun b o hb e => hx b o hb e) htb hge ⟨oc, vs, t2, hoc, hd, hv⟩
    have J2 := J.laid (t' := tk) (a := h'.objs.size) (o := .ext (lamP X params body scope h'.objs.size c' t)) (h' := h'.push (PySem.W.kdv_obj "<lambda>" (X.env.qual ++ "<lambda>") params (.expr body) scope (cloFrom X.env.cells scope.names []) (dfV t) doc ((X.mg "__name__").getD .none) c' ctv))
      (fun b o e => Heap.get?_push_of_some _ e) (Nat.le_refl _) (lamP_ok (Heap.get?_push_size _ rfl))
    refine h h'.objs.size c' _ _ (J.hok.fresh (Nat.le_refl _)) J2 (.inr ⟨_, nC, rfl, by rw [eL]; exact PySem.TriplesOk_snoc _ _ _ _ ht, fun p cv z => ?_⟩)
    rw [eL] at z
    exact (LamX.among_app _ ht z).elim .inr .inl
end
/-- lambda: .. as a value; d: whether it has a parameter with the default 0 -/
def dLam (X : Cx) (P : Addr) (d : Bool) (params : Arguments) (body : Expr) (scope : Scope) : DE := fun _ M k _ => M P = some (.tbl (X.env.qual ++ "<lambda>")) ∧ ∀ f c t, t.isSome = d → k (.lam f c (X.env.qual ++ "<lambda>") (lamP X params body scope f c t) t) M
theorem lam_data2 {X : Cx} {c' P : Addr} {s0 : Sta} {q : Str} {H1 : Hp} {ps : Array Value} (ok : Ok X.K s0) (hM : s0.M P = some (.tbl q)) (hps : s0.H P = some (.tbl ps)) (ha : ∀ (pos : Pos) (cv : Value), codeAmong pos ps.toList = some cv → ∃ c, cv = .ref c ∧ s0.G c = some (LamX.CodeO c q)) (hH : LamNew q P ps s0.H H1 c') :
    ∃ s1 : Sta, s1.H = H1 ∧ Step s0 s1 ∧ Ok X.K s1 ∧ s1.M = s0.M ∧ s1.G c' = some (LamX.CodeO c' q) := lam_data ok hM hps ha hH
section
variable {X : Cx} {E : XK} {c P : Addr} {params : Arguments} {body : Expr} {scope : Scope} {pos : Pos}
theorem d_lam (TB : LamX.TabB X.base X.mg c P) (hcode : X.env.code = .ref c) (hfree : X.Ok → ∀ y ∈ scope.names, y.2 = .free → ∃ c, X.env.cells.lookup y.1 = some c) (hdef : defaultsOf params X.env = ([], [])) :
    DP X E (.Lambda params body scope pos) (dLam X P false params body scope) := by
  refine ⟨fun pins s σ H Q I h => ?_⟩
  obtain ⟨ρ, s0, kk, xx, rfl, er, ⟨hM, q⟩, pp, px⟩ := h
  obtain ⟨ps, eP, ht, ha⟩ := er.ok.cells P _ hM
  refine PySem.W.kla_eval hdef ?_
  rw [makeFunction_eq]
  simp only [List.zip_nil_right, List.filterMap_nil, List.isEmpty_nil, if_true, pure_bind]
  refine lam_tail (t := none) rfl I TB hcode eP ht (fun p cv z => let ⟨c, e1, e2⟩ := ha p cv z; ⟨c, e1, er.ok.sub _ _ e2⟩) (hfree I.ok) fun f c' H1 s' hn J hH => ?_
  obtain ⟨s1, rfl, st1, ok1, eM, hc1⟩ := lam_data2 (X := X) er.ok hM eP ha hH
  obtain ⟨o2, st2⟩ := ok1.new (o := .ext (lamP X params body scope f c' none)) hn
  refine ⟨.ref f, _, J, rfl, pp _ ⟨_, _, _⟩ (by rw [show (⟨upd s1.H f (.ext (lamP X params body scope f c' none)), upd s1.G f (.ext (lamP X params body scope f c' none)), s1.M⟩ : Sta).M = s0.M from eM]; exact q f c' none rfl) (st1.trans st2) o2 _ (.lam upd_same (st2.same _ _ hc1) (fun b e => by cases e))⟩
theorem d_lam1 {j : Nat} {pj : Pos} (TB : LamX.TabB X.base X.mg c P) (hcode : X.env.code = .ref c) (hfree : X.Ok → ∀ y ∈ scope.names, y.2 = .free → ∃ c, X.env.cells.lookup y.1 = some c) (hdf : params.defaults = [.Constant (.int 0) j pj]) (hk0 : params.kw_defaults = []) :
    DP X E (.Lambda params body scope pos) (dLam X P true params body scope) := by
  refine ⟨fun pins s σ H Q I h => ?_⟩
  obtain ⟨ρ, s0, kk, xx, rfl, er, ⟨hM, q⟩, pp, px⟩ := h
  refine PySem.W.kdv_lam (by rw [hdf]; rfl) hk0 ?_
  rw [hdf]
  refine PySem.W.kdv_all1 (thn ((pe_int (X := X) (i := 0) (j := j) (pos := pj)).run pins s σ s0.H (fun v H1 => v = .int 0 ∧ H1 = s0.H) I ⟨rfl, rfl⟩) fun u s1 ⟨v, H1, I1, r1, e1, e2⟩ => ?_)
  subst e1
  rw [e2] at I1
  refine PySem.W.kdv_all0 ?_
  rw [makeFunction_eq]
  simp only [List.zip_nil_right, List.filterMap_nil, List.isEmpty_nil, List.isEmpty_cons, Bool.false_eq_true, if_true, if_false, pure_bind]
  refine wpAny_bind (wpAny_newTextTuple ?_)
  have hnT : s0.H s1.heap.objs.size = none := I1.hok.fresh (Nat.le_refl _)
  generalize eT : s1.heap.objs.size = T at *
  obtain ⟨oT, stT⟩ := er.ok.new (o := .tup [.int 0]) hnT
  have IT : Inv X pins σ (upd s0.H T (.tup [.int 0])) { s1 with heap := s1.heap.push { cls := .type "tuple", data := .seq [u].toArray }, toks := s1.toks } :=
    I1.laid (t' := s1.toks) (a := T) (o := .tup [.int 0]) (fun b o e => Heap.get?_push_of_some _ e) (Nat.le_of_eq eT) ⟨by show 1 ≤ sizeLine; decide, [u], .cons r1 .nil, ⟨_, by rw [← eT]; exact Heap.get?_push_size _ rfl, rfl, _, rfl⟩⟩
  obtain ⟨ps, eP, ht, ha⟩ := oT.cells P _ hM
  refine lam_tail (t := some T) rfl IT TB hcode eP ht (fun p cv z => let ⟨c, e1, e2⟩ := ha p cv z; ⟨c, e1, oT.sub _ _ e2⟩) (hfree I.ok) fun f c' H1 s' hn J hH => ?_
  obtain ⟨s2, rfl, st1, ok1, eM, hc1⟩ := lam_data2 (X := X) oT hM eP ha hH
  obtain ⟨o2, st2⟩ := ok1.new (o := .ext (lamP X params body scope f c' (some T))) hn
  have stp := (stT.trans st1).trans st2
  have gT : s2.G T = some (.tup [.int 0]) := st1.same _ _ upd_same
  refine ⟨.ref f, _, J, rfl, pp _ ⟨_, _, _⟩ (by rw [show (⟨upd s2.H f (.ext (lamP X params body scope f c' (some T))), upd s2.G f (.ext (lamP X params body scope f c' (some T))), s2.M⟩ : Sta).M = s0.M from eM]; exact q f c' (some T) rfl) stp o2 _ (.lam upd_same (st2.same _ _ hc1) (fun b e => by cases e; exact st2.same _ _ gT))⟩
end
end DL
set_option Elab.async false
set_option linter.all false
set_option maxRecDepth 100000
set_option maxHeartbeats 2000000
namespace DL
open PySem PySem.Spec PyProof.Rows L2
/-- the names of a lambda: captured ones, globals, and own ones that are none of the def's -/
structure LamN (N : List Str) (sc scope : Scope) : Prop where
  kind : scope.kind = .function
  co : scope.isCoroutine = false
  gen : scope.isGenerator = false
  noc : ∀ y ∈ scope.names, y.2 ≠ .cell
  own : ∀ y ∈ scope.names, y.2 = .local → y.1 ∉ N
  free : ∀ y ∈ scope.names, y.2 = .free → sc.names.lookup y.1 = some .cell ∨ sc.names.lookup y.1 = some .free
def lamNB (N : List Str) (sc scope : Scope) : Bool :=
  decide (scope.kind = .function) && !scope.isCoroutine && !scope.isGenerator && scope.names.all fun y => !decide (y.2 = .cell) && (!decide (y.2 = .local) || !N.contains y.1) && (!decide (y.2 = .free) || decide (sc.names.lookup y.1 = some .cell) || decide (sc.names.lookup y.1 = some .free))
theorem lamN_by {N : List Str} {sc scope : Scope} (h : lamNB N sc scope = true) : LamN N sc scope := by
  unfold lamNB at h
  simp only [Bool.and_eq_true, Bool.or_eq_true, Bool.not_eq_true', decide_eq_true_eq, decide_eq_false_iff_not, List.all_eq_true] at h
  obtain ⟨⟨⟨k1, k2⟩, k3⟩, k4⟩ := h
  refine ⟨k1, k2, k3, fun y hy => (k4 y hy).1.1, fun y hy e z => ?_, fun y hy e => ?_⟩
  · rcases (k4 y hy).1.2 with q | q
    · exact q e
    · rw [List.contains_iff_mem.mpr z] at q
      cases q
  · rcases (k4 y hy).2 with (q | q) | q
    · exact absurd e q
    · exact .inl q
    · exact .inr q
theorem LamN.has {X : Cx} {N : List Str} {scope : Scope} (L : LamN N X.env.scope scope) (ok : X.Ok) : ∀ y ∈ scope.names, y.2 = .free → ∃ c, X.env.cells.lookup y.1 = some c := fun y hy e => by
  rcases L.free y hy e with z | z
  · exact ok.has _ (.inl z)
  · exact ok.has _ (.inr z)
section
variable {X : Cx} {pins : List (Addr × Obj)} {σ : L2.St} {H HZ : Hp} {s s1 : Shared}
/-- inside of the lambda, entered at s1; X held at s -/
theorem lam_in {A : Around} {outer : List Env} {E : XK} {scope : Scope} {f c' : Addr} {hp : Heap} {tk : Nat} {mm : Str → Option Value} (I : Inv X pins σ H s) (L : LamN X.N X.env.scope scope) (z0 : Env0 X.prog X.w X.K X.mg X.base A outer s1 HZ) (hh : A.handled = none)
    (since : Un (frs X.stack) [] H HZ s.heap s1.heap) (hns : hp.Ns s1.heap.objs.size mm) (grow : ∀ b o, s1.heap.get? b = some o → hp.get? b = some o) :
    Inv (LamX.lamCx X A outer s1 HZ E scope f c') [] σ HZ { s1 with heap := hp, toks := tk } := by
  have caught := L.has I.ok
  have known : ∀ {y c}, (cloFrom X.env.cells scope.names []).lookup y = some c → X.env.cells.lookup y = some c := by
    intro y c e
    rcases cloFrom_mem (PySem.mem_of_lookup e) with z | ⟨z1, z2⟩
    · cases z
    · obtain ⟨cc, hcc⟩ := caught _ z1 rfl
      have hcc : X.env.cells.lookup y = some cc := hcc
      rw [hcc] at z2
      rw [hcc, z2]
      rfl
  have found : ∀ {y}, scope.names.lookup y = some .free → ∃ c, (cloFrom X.env.cells scope.names []).lookup y = some c := by
    intro y hl
    exact mem_lookup (cloFrom_has (cells := X.env.cells) (acc := []) (show (y, NameKind.free) ∈ scope.names from PySem.mem_of_lookup hl))
  have stays : ∀ {c : Addr} {v : Option Value}, H c = none → s.heap.IsCell c v → hp.IsCell c v := by
    rintro c v n ⟨o, ho, hd⟩
    obtain ⟨sl, q⟩ := since.any ho n (by simp)
    exact ⟨_, grow _ _ q, hd⟩
  have empty : ∀ b : Addr, b ∉ (LamX.lamCx X A outer s1 HZ E scope f c').ex := fun b z => absurd (show b ∈ ([] : List Addr) from z) (by simp)
  refine
    { ok :=
        { mod := z0.mod, kind := L.kind, glob := rfl, blt := rfl, above := Nat.le_refl _
          inj := fun y z c e1 e2 => I.ok.inj y z c (known e1) (known e2)
          has := fun y hy => ?_
          cab := fun y c z _ => (Bool.false_ne_true (show false = true from z)).elim
          hd := fun _ => hh, frames := Around.frames_deeper z0.frames, stk := .inr ⟨rfl, rfl⟩
          exf := fun b z => absurd z (empty b), bs := z0.bs, bsz := z0.bsz, noex := fun b _ _ => empty b, exfs := fun b z => absurd z (empty b), funs := z0.funs, frf := z0.frf }
      os := rfl, bare := z0.bare, base := Un.kept grow
      loc := ⟨_, hns, fun i y v e1 e2 e3 => ?_⟩
      cell := fun y c e => ?_, free := z0.hok.fresh (Nat.le_refl _), freeC := fun y c e => ?_
      pin := fun q hq => absurd (show q ∈ ([] : List (Addr × Obj)) ++ [] from hq) (by simp), hok := z0.hok.kept grow, len := I.len }
  · rcases (show scope.names.lookup y = some .cell ∨ scope.names.lookup y = some .free from hy) with z | z
    · exact absurd rfl (L.noc _ (PySem.mem_of_lookup z))
    · exact found z
  · rcases (show Vis scope y from e3) with z | z | z
    · exact absurd (List.mem_of_getElem? e1) (L.own _ (PySem.mem_of_lookup z) rfl)
    · exact absurd rfl (L.noc _ (PySem.mem_of_lookup z))
    · obtain ⟨m, hn, hl⟩ := I.loc
      have seen : Vis X.env.scope y := (L.free _ (PySem.mem_of_lookup z) rfl).elim (fun z => .inr (.inl z)) (fun z => .inr (.inr z))
      obtain ⟨w', r, q⟩ := hl i y v e1 e2 seen
      obtain ⟨c2, h2⟩ := found z
      refine ⟨w', r, .inr ⟨.inr z, c2, h2, ?_⟩⟩
      have c1 := known h2
      rcases q with ⟨k', _⟩ | ⟨_, c3, e', zz⟩
      · have k' : X.env.scope.names.lookup y = some .local := k'
        exfalso
        rcases L.free _ (PySem.mem_of_lookup z) rfl with k2 | k2 <;> (have k2 : X.env.scope.names.lookup y = _ := k2; rw [k'] at k2; cases k2)
      · rw [c1] at e'
        cases e'
        exact stays (I.freeC y _ c1) zz
  · obtain ⟨w', z⟩ := I.cell y c (known e)
    exact ⟨w', stays (I.freeC y c (known e)) z⟩
  · obtain ⟨v, o, ho, hd⟩ := I.cell y c (known e)
    exact since.free c o ho (I.freeC y c (known e)) (by simp)
end
/-- how the lambda's parameters are bound if nothing is given -/
def LamB (d : Bool) (params : Arguments) (body : Expr) (scope : Scope) : Prop := ∀ (s : Shared) (t : Option Addr) (q : Str) (cl : List (Str × Addr)) (doc pm cv ctv : Value), t.isSome = d → (∀ b, t = some b → ∃ v, IsTup s.heap b #[v]) →
  ∃ bs, BindsTo s (PySem.W.kdv_fn "<lambda>" q params (.expr body) scope cl (dfV t) doc pm cv ctv) ⟨[], []⟩ bs ∧ ∀ b ∈ bs, scope.names.lookup b.1 = some .local
theorem lamB0 {params : Arguments} {body : Expr} {scope : Scope} (h : ∀ (q : Str) (cl : List (Str × Addr)) (doc pm cv ctv : Value), bindArgs (PySem.W.kdv_fn "<lambda>" q params (.expr body) scope cl .none doc pm cv ctv) ⟨[], []⟩ = pure []) : LamB false params body scope := by
  intro s t q cl doc pm cv ctv ht hb
  cases t with
  | some b => cases ht
  | none => exact ⟨[], .of_eq (h q cl doc pm cv ctv), fun b z => absurd z (by simp)⟩
theorem lamB1 {params : Arguments} {body : Expr} {scope : Scope} {y : Str} (hy : scope.names.lookup y = some .local) (h : ∀ (T : Addr) (q : Str) (cl : List (Str × Addr)) (doc pm cv ctv : Value), ∃ k : Option (Array Value) → Sem (List (Str × Value)), bindArgs (PySem.W.kdv_fn "<lambda>" q params (.expr body) scope cl (.ref T) doc pm cv ctv) ⟨[], []⟩ = seqItems? (.ref T) >>= k ∧ ∀ v, k (some #[v]) = pure [(y, v)]) : LamB true params body scope := by
  intro s t q cl doc pm cv ctv ht hb
  cases t with
  | none => cases ht
  | some b =>
    obtain ⟨v, o, ho, hc, n, hn⟩ := hb b rfl
    obtain ⟨k, h1, h2⟩ := h b q cl doc pm cv ctv
    exact ⟨[(y, v)], .of_defaults rfl ho hn h1 (h2 v), fun z hz => by rw [List.mem_singleton.mp hz]; exact hy⟩
section
variable {X : Cx} {pins : List (Addr × Obj)} {σ : L2.St} {H : Hp} {s : Shared}
/-- a(), in a def that got a tracked lambda of X; that def was entered at s, where X holds -/
theorem pe_actT {CXg : CXT} {Eg : XK} {Ng : List Str} {qg : Str} {sg : Scope} {g f c' : Addr} {t : Option Addr} {cdg : Value} {params : Arguments} {body : Expr} {scope : Scope} {k i : Nat} {a : Str} {pn : List (Addr × Obj)} {xe : Value → Shared → Prop} {W : WX} {E : XK} {tb : TE} {p1 p2 : Pos}
    (I : Inv X pins σ H s) (L : LamN X.N X.env.scope scope) (hbind : LamB t.isSome params body scope)
    (tk : Takes ((cxOf CXg X.prog X.w X.K X.mg X.base Ng qg sg g cdg X.A X.stack s H Eg).tr pn xe) W) (hW : ∀ cls d σ' H', E cls d H' → W cls d σ' H') (hr : Room (k + 1) (X.A.deeper (envOfC qg sg s.heap.objs.size g cdg)))
    (hbody : ∀ (A : Around) (outer : List Env) (s : Shared) (H : Hp), Room k (A.deeper (LamX.lamEnv X scope s.heap.objs.size f c')) → PE (LamX.lamCx X A outer s H E scope f c') body tb)
    (hN : Ng[i]? = some a) (hv : Vis sg a) (hd : (a == ("__debug__" : Str)) = false := by decide) (hcd : (a == ("__classdict__" : Str)) = false := by decide) :
    PE ((cxOf CXg X.prog X.w X.K X.mg X.base Ng qg sg g cdg X.A X.stack s H Eg).tr pn xe) (.Call (.Name a p1) [] [] p2)
      (fun σZ HZ Q => σZ[i]? = some (some (.ref f)) ∧ HZ f = some (.ext (lamP X params body scope f c' t)) ∧ (∀ b, t = some b → HZ b = some (.tup [.int 0])) ∧ HZ c' = some (LamX.CodeO c' (X.env.qual ++ "<lambda>")) ∧ tb σ HZ Q) := by
  refine ⟨fun pinsZ sZ σZ HZ Q IZ h => ?_⟩
  obtain ⟨hs, hF, hT, hco, hb⟩ := h
  refine wpAny_Call_Name_kw (thn ((pe_var (pos := p1) (i := i) hN hv hd hcd).run pinsZ sZ σZ HZ (fun v H1 => v = .ref f ∧ H1 = HZ) IZ ⟨.ref f, hs, rfl, rfl⟩) fun u s1 ⟨v, H1, J, rv, e1, e2⟩ => ?_)
  subst e1
  rw [e2] at J
  obtain rfl : u = Value.ref f := rv
  have stands : ObjOk X.prog X.w HZ s1.heap f (.ext (lamP X params body scope f c' t)) := J.hok f _ hF
  obtain ⟨⟨doc, pm, ctv, obj⟩, _, _⟩ := stands
  have coded : ObjOk X.prog X.w HZ s1.heap c' (LamX.CodeO c' (X.env.qual ++ "<lambda>")) := J.hok c' _ hco
  obtain ⟨⟨oc, vs, tq, c1, c2, c3⟩, _, _⟩ := coded
  have given : ∀ b, t = some b → ∃ v, IsTup s1.heap b #[v] := fun b e => by
    obtain ⟨_, its, rv, it⟩ : ObjOk X.prog X.w HZ s1.heap b (.tup [.int 0]) := J.hok b _ (hT b e)
    cases rv with
    | cons r1 r2 => cases r2; exact ⟨_, it⟩
  obtain ⟨bs, hbs, hloc⟩ := hbind s1 t (X.env.qual ++ "<lambda>") (cloFrom X.env.cells scope.names []) doc pm (.ref c') ctv rfl given
  refine PySem.W.callWith_F0 ⟨_, _, _, _, obj⟩ ?_
  have since : Un (frs X.stack) [] H HZ s.heap s1.heap := J.base
  have go : codeAny (model X.prog X.w) (X.A.deeper (envOfC qg sg s.heap.objs.size g cdg)) (.call (.ref f) ⟨[], []⟩) (CR (L2.CX X.prog X.w) (envOfC qg sg s.heap.objs.size g cdg :: X.stack) X.prog X.w HZ s1 Q E) s1 := by
    refine PySem.W.kla_callFunE hr.depth obj rfl L.co L.gen rfl ⟨c', oc, vs, tq, rfl, c1, c2, c3⟩ (hbs _ _ _ _ ?_)
    refine wpAny_newFunctionEnv L.noc hloc (fun h₁ hns hsb => ⟨J.nolimit.fresh _ hsb, ?_⟩) L.kind
    show codeAny _ _ (.expr body (LamX.lamEnv X scope s1.heap.objs.size f c')) _ _
    have grown : ∀ b o, s1.heap.get? b = some o → h₁.get? b = some o := fun b o e => hsb.extBut b o (Nat.ne_of_lt (Heap.lt_size e)) (Heap.get?_push_of_some _ e)
    have inside := lam_in (A := X.A.deeper (envOfC qg sg s.heap.objs.size g cdg)) (outer := envOfC qg sg s.heap.objs.size g cdg :: X.stack) (E := E) (f := f) (c' := c') (tk := s1.toks + bs.length) I L J.env0 hr.hd since hns grown
    refine PySem.W.kla_codeExpr (wpAny_mono ((hbody _ _ s1 HZ (hr.deeper _)).run [] _ _ HZ Q inside hb) (fun v s' hq => ?_) fun e s' hq => hq)
    obtain ⟨w', H', K1, r1, q1⟩ := hq
    exact ⟨w', H', K1.os, K1.bare, K1.base, K1.hok, r1, q1⟩
  have out : Passes (L2.CX X.prog X.w) ((cxOf CXg X.prog X.w X.K X.mg X.base Ng qg sg g cdg X.A X.stack s H Eg).tr pn xe) E := passes_call tk hW
  refine wpAny_call (codeAny_mono go fun r s' hq => ?_)
  match r, hq with
  | .error e, hq => exact out pinsZ σZ HZ s1 e s' J hq
  | .ok (.ret u), hq => exact J.after hq
  | .ok .next, hq => exact hq.elim
  | .ok .brk, hq => exact hq.elim
  | .ok .cont, hq => exact hq.elim
end
end DL
set_option Elab.async false
set_option linter.all false
set_option maxRecDepth 100000
set_option maxHeartbeats 2000000
namespace DL
open PySem PySem.Spec PyProof.Rows L2
/-- what _law_try makes of what the lambda gives -/
def noK (Good : Addr → Prop) (k : DK) : DX := fun C fs M1 => Good C ∧ ∃ code vals, List.lookup ("code" : Str) fs = some (.str code) ∧ fieldsOf code fs = some vals ∧ vals.length ≤ 2 ∧ k (.tup (.str "no" :: .str code :: vals)) M1
section
variable {X : Cx} {cs : List Value} {g fF f c' : Addr} {t0 : Option Addr} {fdF : FuncData} {k : Nat} {params : Arguments} {body : Expr} {scope : Scope} {τ : DE} {pins : List (Addr × Obj)} {σ : L2.St} {s : Shared} {s1 : Sta} {ρ : DEnv} {kk : DK} {Q : VK}
/-- _law_try(f), f a tracked lambda of X, called where X holds -/
theorem run_tryT (TF : TryF X.prog X.w X.K X.mg X.base cs g fF fdF) (I1 : Inv X pins σ s1.H s) (er1 : ER X.K s1 σ ρ) (hlam : s1.G f = some (.ext (lamP X params body scope f c' t0))) (hT : ∀ b, t0 = some b → s1.G b = some (.tup [.int 0])) (hc1 : s1.G c' = some (LamX.CodeO c' (X.env.qual ++ "<lambda>"))) (hr : Room (k + 2) X.A) (L : LamN X.N X.env.scope scope) (hbind : LamB t0.isSome params body scope)
    (hbody : ∀ (A : Around) (outer : List Env) (s : Shared) (H : Hp) (E : XK) (f c' : Addr), Room k (A.deeper (LamX.lamEnv X scope s.heap.objs.size f c')) → Passes (L2.CX X.prog X.w) (LamX.lamCx X A outer s H E scope f c') E → DP (LamX.lamCx X A outer s H E scope f c') E body τ)
    (q : τ ρ s1.M (fun d M1 => kk (.tup [.str "told", d]) M1) (noK (GoodX X.K cs) kk)) (pp : Post X.K s1 kk Q) :
    codeAny (model X.prog X.w) X.A (.call (.ref g) ⟨[.ref f], []⟩) (CR (L2.CX X.prog X.w) X.stack X.prog X.w s1.H s Q (fun _ _ _ => False)) s := by
  obtain ⟨pg, sg, dV, kV, doc, pm, cdv, ct, oc, an, od, osl, j1, j2, k1, k2, k3, p1, p2, p3, p4, p5, p6, p7, p8, p9, q1, q2, q3, q4, q5, q6, q7, q8, q9, r1, r2, lk, hcg, hb, Sg, n1, n2, n3, n4, n5, n6⟩ := TF.f
  obtain ⟨c1, c2, c3, rfl, m1, m2, m3⟩ := TF.cls
  have ok1 := er1.ok
  refine LamX.run_ofS (N := ["_law_ask", "_law_e"]) (ps := ["_law_ask"]) (us := [.ref f]) (vs := [.ref f]) (k := k + 1) lk hcg Sg hr I1.env0 (hb s [.ref f] I1.kIn rfl) (.cons rfl .nil) rfl fun hr' => ?_
  let Ech : XK := fun cls d H' => ∃ C dd, cls = .ref C ∧ d = some dd ∧ GoodX X.K [c1, c2, c3] C ∧ ∀ (σ' : L2.St), σ'.length = 2 → ∀ a, H' a = none → upS X.K (fun _ _ _ => False) (τSuite a dd) { nx := fun _ H' => Q .non H', rt := Q } (σ'.set 1 (some (.ref a))) H'
  let ts : Addr → Value → Option Addr → TS := fun a cls d D σ' H' => ∃ C dd, cls = .ref C ∧ d = some dd ∧ GoodX X.K [c1, c2, c3] C ∧ upS X.K (fun _ _ _ => False) (τSuite a dd) D σ' H'
  have hsu : ∀ (a : Addr) (oe : Obj) (cls : Value) (d : Option Addr) (pn : List (Addr × Obj)), Zc cls d oe → (∃ vs, oe.data = .fields vs) →
      PSs ((cxOf (L2.CX X.prog X.w) X.prog X.w X.K X.mg X.base ["_law_ask", "_law_e"] "_law_try" sg g cdv X.A X.stack s s1.H (fun _ _ _ => False)).suite a ((a, oe) :: pn))
        [.Return (some (.BinOp (.Tuple [.Constant (.str "no") j2 q2, .Attribute (.Name "_law_e" q3) "code" q4] k3 q5) .Add (.Call (.Name "_law_fields" q7) [.Name "_law_e" q6] [] q8) q9)) q1] (ts a cls d) := by
    intro a oe cls d pn hz hfl
    refine ⟨fun pins2 s2 σ2 H2 D2 I2 h2 => ?_⟩
    obtain ⟨C, dd, rfl, rfl, hG, hu⟩ := h2
    exact (suite_D (X := (cxOf (L2.CX X.prog X.w) X.prog X.w X.K X.mg X.base ["_law_ask", "_law_e"] "_law_try" sg g cdv X.A X.stack s s1.H (fun _ _ _ => False)).suite a ((a, oe) :: pn)) rfl (.inl n2) List.mem_cons_self hG hz hfl (roomH1 hr') TF.F n6 TF.mF TF.kF TF.bF rfl rfl rfl rfl rfl).run pins2 s2 σ2 H2 D2 I2 hu
  refine ⟨_, pss_one (ps_try3 (X := cxOf (L2.CX X.prog X.w) X.prog X.w X.K X.mg X.base ["_law_ask", "_law_e"] "_law_try" sg g cdv X.A X.stack s s1.H (fun _ _ _ => False)) (i := 1) (n := "_law_e")
    (tb := fun W D σ' H' => (∀ cls d σ'' H'', Ech cls d H'' → W cls d σ'' H'') ∧ σ'[0]? = some (some (.ref f)) ∧ H' f = some (.ext (lamP X params body scope f c' t0)) ∧ (∀ b, t0 = some b → H' b = some (.tup [.int 0])) ∧ H' c' = some (LamX.CodeO c' (X.env.qual ++ "<lambda>")) ∧ up X.K Ech τ σ H' fun v H'' => ∀ p, H'' p = none → D.rt (.ref p) (upd H'' p (.tup [.str "told", v]))) (ts := ts)
    rfl rfl Sg.nd rfl n2 n3 m1 n4 m2 n5 m3 (fun W pn xe tk => ?_) hsu), ?_⟩
  · refine ⟨fun pins2 s2 σ2 H2 D2 I2 h2 => ?_⟩
    obtain ⟨hW, e1, e0, eT, e2, e3⟩ := h2
    have act := pe_actT (CXg := L2.CX X.prog X.w) (Eg := fun _ _ _ => False) (Ng := ["_law_ask", "_law_e"]) (qg := "_law_try") (sg := sg) (g := g) (cdg := cdv) (k := k) (i := 0) (a := "_law_ask") (pn := pn) (xe := xe) (W := W) (E := Ech) (tb := up X.K Ech τ) (f := f) (c' := c') (t := t0) (p1 := p2) (p2 := p3)
      I1 L hbind tk hW hr' (fun A outer s H hr2 => hbody A outer s H Ech f c' hr2 (pass_own rfl rfl rfl rfl)) rfl (.inl n1)
    refine (pss_one (ps_ret (pos := p5) (pe_tup (x1 := k1) (pos := p4) (pa_cons (pe_str (x := "told") (j := j1) (pos := p1)) (pa_cons act pa_nil rfl) rfl)))).run pins2 s2 σ2 H2 D2 I2 ?_
    refine ⟨e1, e0, eT, e2, ?_⟩
    obtain ⟨ρ', t0, kk', xx', e4, er', q', pp', px'⟩ := e3
    exact ⟨ρ', t0, kk', xx', e4, er', q', fun d t hk st ok v r => ⟨by show 2 ≤ sizeLine; decide, fun p hp => pp' d t hk st ok v r p hp⟩, px'⟩
  · refine ⟨fun cls d σ'' H'' hE => ?_, rfl, ok1.sub _ _ hlam, fun b e => ok1.sub _ _ (hT b e), ok1.sub _ _ hc1, ?_⟩
    · obtain ⟨C, dd, rfl, rfl, hG, hs⟩ := hE
      exact ⟨hG.ex, fun hl a hn => ⟨C, dd, rfl, rfl, hG, hs σ'' hl a hn⟩⟩
    · refine ⟨ρ, s1, _, _, rfl, er1, q, fun d t hk st ok v r p hp => (pp.step st).tup hk ok (.cons .str (.cons r .nil)) hp, fun C fs t hx st ok dx fvs e1 e2 e3 e4 r => ?_⟩
      obtain ⟨hG, code, vals, l1, l2, l3, hk⟩ := hx
      refine ⟨C, dx, rfl, rfl, hG, fun σ' hl a hn => ?_⟩
      obtain ⟨oku, stu, sau⟩ := ok.shown2 st e4 e2 e3 e1
      obtain ⟨v0, v1, rfl⟩ : ∃ v0 v1, σ' = [v0, v1] := by
        match σ', hl with
        | [v0, v1], _ => exact ⟨v0, v1, rfl⟩
      refine ⟨[none, some (.exc a dx fs)], ⟨t.H, upd t.G dx (.xd fvs), t.M⟩, { nx := fun _ _ => False, rt := kk, m0 := t.M }, fun _ _ _ => False, rfl, ⟨oku, rfl, fun i d hd => ?_⟩, ?_, ⟨fun _ _ z => z.elim, ⟨_, Step.refl _, oku, rfl, pp.step stu⟩, fun _ _ z => z.elim, fun _ _ z => z.elim⟩, PostX.never⟩
      · match i, hd with
        | 1, hd =>
          cases hd
          exact ⟨.ref a, rfl, .exc upd_same (r.same sau)⟩
      · refine ⟨_, rfl, fs, .str code, rfl, l1, ⟨by show 2 ≤ sizeLine; decide, _, rfl, rfl, fs, code, vals, rfl, l1, l2, l3, ?_⟩⟩
        exact ⟨by have : (4 : Nat) ≤ sizeLine := by decide
                  show 2 + vals.length ≤ sizeLine; omega, hk⟩
end
end DL
set_option Elab.async false
set_option linter.all false
set_option maxRecDepth 100000
set_option maxHeartbeats 2000000
namespace DL
open PySem PySem.Spec PyProof.Rows L2
/-- an element's reading that also sees the outer def's data ρX -/
def upX (K : PySem.W.Frag) (E : XK) (ε : DEnv → DE) (σX : L2.St) : TE := fun σ H Q => ∃ ρX ρ s k x, s.H = H ∧ ER K s σX ρX ∧ ER K s σ ρ ∧ ε ρX ρ s.M k x ∧ Post K s k Q ∧ PostX K E s x
def dLcI (ι : DI) (γ : DG) (θ : DT) (ε : DEnv → DE) (vs : List Nat) : DE := fun ρ M k x => dLc ι γ θ (ε ρ) vs ρ M k x
theorem up_lcI {K : PySem.W.Frag} {E : XK} {ι : DI} {g : TG} {γ : DG} {θ : DT} {ε : DEnv → DE} {vs : List Nat} {σ : L2.St} {H : Hp} {Q : VK} (gp : GPair K g γ vs) (h : up K E (dLcI ι γ θ ε vs) σ H Q) : tLc (upI K E ι) g (upT K E0 θ) (upX K E0 ε σ) vs σ H Q := by
  obtain ⟨ρ, s, k, x, rfl, er, q, p, px⟩ := h
  refine ⟨ρ, s, _, x, rfl, er, q, px, fun ds s1 q1 st1 ok1 J it => ?_⟩
  rcases q1 with ⟨hlen, I, i0, turn, fin⟩ | z
  case no => exact z.elim
  intro L hL
  have inv0 : ∃ (acc : List D) (vs' : List V) (s' : Sta), s'.H = upd s1.H L (.lst []) ∧ Ok K s' ∧ Step s1 s' ∧ s'.G L = none ∧ s'.M L = none ∧ s'.H L = some (.lst vs') ∧ Reps K s'.G vs' acc ∧ acc.length ≤ 0 ∧ I 0 acc s'.M := by
    obtain ⟨k1, st⟩ := ok1.hide (o := .lst []) (Step.refl s1) hL (ok1.freeG hL) (ok1.freeM hL)
    exact ⟨[], [], ⟨_, _, _⟩, rfl, k1, st, ok1.freeG hL, ok1.freeM hL, upd_same, .nil, Nat.le_refl _, i0⟩
  refine ⟨fun j m H' => m = ds.length - j ∧ j ≤ ds.length ∧ ∃ (acc : List D) (vs' : List V) (s' : Sta), s'.H = H' ∧ Ok K s' ∧ Step s1 s' ∧ s'.G L = none ∧ s'.M L = none ∧ s'.H L = some (.lst vs') ∧ Reps K s'.G vs' acc ∧ acc.length ≤ j ∧ I j acc s'.M,
    ⟨ds.length, rfl, Nat.zero_le _, inv0⟩, ?_⟩
  rintro j m H' ⟨rfl, hj, acc, vs', s', rfl, ok', st', gL, mL, hL', rs, hal, ij⟩
  by_cases hlt : j < ds.length
  · refine .inr ⟨it.go j s' st' ok' hlt, fun H2 => ∃ (acc : List D) (vs' : List V) (s' : Sta), s'.H = H2 ∧ Ok K s' ∧ Step s1 s' ∧ s'.G L = none ∧ s'.M L = none ∧ s'.H L = some (.lst vs') ∧ Reps K s'.G vs' acc ∧ acc.length ≤ j + 1 ∧ I (j + 1) acc s'.M,
      fun H2 z => ⟨ds.length - (j + 1), by omega, rfl, hlt, z⟩, fun v H2 y => ?_⟩
    obtain ⟨d, hd⟩ : ∃ d, ds[j]? = some d := ⟨ds[j], by simp [hlt]⟩
    obtain ⟨u, rfl, eM, stu, oku, ru⟩ := it.yld j s' v H2 st' ok' y d hd
    have ij' : I j acc u.M := by rw [eM]; exact ij
    obtain ⟨hLu, gLu, mLu⟩ := stu.hid L _ hL' gL mL
    have erX : ER K u σ ρ := er.step ((st1.trans st').trans stu) oku
    have eru : ER K u (wipe σ vs) (wipeD ρ vs) := erX.wipe vs
    refine gp.run v d _ _ u _ _ eru ru (turn j d acc u.M hd ij') fun ρ3 σ3 q3 er3 w3 => ⟨w3.trans (wipe_wipe σ vs), ?_⟩
    refine ⟨ρ3, u, _, _, rfl, er3, q3, fun b s4 q4 st4 ok4 => ?_, PostX.never⟩
    obtain ⟨hL4, gL4, mL4⟩ := st4.hid L _ hLu gLu mLu
    cases b with
    | true =>
      rw [if_pos rfl] at q4 ⊢
      refine ⟨ρ, ρ3, s4, _, _, rfl, erX.step st4 ok4, er3.step st4 ok4, q4, fun yd s5 q5 st5 ok5 yv ry => ?_, PostX.never⟩
      obtain ⟨hL5, gL5, mL5⟩ := st5.hid L _ hL4 gL4 mL4
      have rs5 : Reps K s5.G vs' acc := rs.same ((stu.trans st4).trans st5).same
      refine ⟨vs', hL5, by rw [rs5.length]; omega, ?_⟩
      obtain ⟨k6, st6⟩ := ok5.hide (o := .lst (vs' ++ [yv])) (((st'.trans stu).trans st4).trans st5) hL gL5 mL5
      exact ⟨acc ++ [yd], vs' ++ [yv], ⟨_, _, _⟩, rfl, k6, st6, gL5, mL5, upd_same, rs5.append (.cons ry .nil), by simp; omega, q5⟩
    | false =>
      rw [if_neg Bool.false_ne_true] at q4 ⊢
      exact ⟨acc, vs', s4, rfl, ok4, (st'.trans stu).trans st4, gL4, mL4, hL4, rs.same (stu.trans st4).same, by omega, q4⟩
  · have ej : j = ds.length := by omega
    subst ej
    refine .inl ⟨it.stop s' st' ok', ?_⟩
    obtain ⟨k6, st6, sm⟩ := ok'.shown st' hL gL mL hL'
    exact p _ ⟨s'.H, upd s'.G L (.lst vs'), s'.M⟩ (fin acc s'.M ij) (st1.trans st6) k6 _ (.lst upd_same (rs.same sm))
section
variable {X : Cx} {E : XK} {elt tg iter : Expr} {ifs : List Expr} {scope : Scope} {own : List (Str × Nat)} {pos : Pos} {ι : DI} {g : TG} {γ : DG} {θ : DT} {ε : DEnv → DE}
theorem d_lcI (hc : X.calm = true) (hN : X.N.Nodup) (hi : DPI X E tg iter ι) (ok : BlkOk X.N X.env.scope scope own) (gp : GPair X.K g γ (own.map (·.2)))
    (hg : ∀ (s : Shared) (H : Hp) (C : Addr) (cl : List (Str × Addr)) (fp : List Addr), PG (X.blk s H scope (compEnvC scope cl C X.env) fp) tg g) (ht : ∀ (s : Shared) (H : Hp) (C : Addr) (cl : List (Str × Addr)) (fp : List Addr), DPTs (X.blk s H scope (compEnvC scope cl C X.env) fp) E0 ifs θ)
    (he : ∀ (pins : List (Addr × Obj)) (σ : L2.St) (s : Shared) (H : Hp) (C : Addr) (cl : List (Str × Addr)) (fp : List Addr), (∀ (pins' : List (Addr × Obj)) (σ' : L2.St) (H' : Hp) (s' : Shared), Inv (X.blk s H scope (compEnvC scope cl C X.env) fp) pins' σ' H' s' → Inv X pins σ H' s') → PE (X.blk s H scope (compEnvC scope cl C X.env) fp) elt (upX X.K E0 ε σ))
    (hs : ∀ x, foldedSetIterable iter X.env x = pure x := by intro _; rfl) :
    DP X E (.ListComp elt [⟨tg, iter, ifs, 0⟩] scope pos) (dLcI ι γ θ ε (own.map (·.2))) := pe_mono (pe_lcI (tt := upT X.K E0 θ) (te := upX X.K E0 ε) hc hN hi ok hg ht he hs) fun _ _ _ h => up_lcI gp h
end
end DL
set_option Elab.async false
set_option linter.all false
set_option maxRecDepth 100000
set_option maxHeartbeats 2000000
namespace DL
open PySem PySem.Spec PyProof.Rows L2
/-- a lambda's text, read -/
structure LamK (X : Cx) (k : Nat) (d : Bool) (params : Arguments) (body : Expr) (scope : Scope) (τ : DE) : Prop where
  L : LamN X.N X.env.scope scope
  bind : LamB d params body scope
  body : ∀ (A : Around) (outer : List Env) (s : Shared) (H : Hp) (E : XK) (f c' : Addr), Room k (A.deeper (LamX.lamEnv X scope s.heap.objs.size f c')) → Passes (L2.CX X.prog X.w) (LamX.lamCx X A outer s H E scope f c') E → DP (LamX.lamCx X A outer s H E scope f c') E body τ
/-- _law_try(y), y the slot i of the block: one of the lambdas LK -/
def dTryV (X : Cx) (Good : Addr → Prop) (LK : Bool → Arguments → Expr → Scope → DE → Prop) (i : Nat) : DEnv → DE := fun ρX ρ M k _ => ∃ f c t params body scope τ, ρ[i]? = some (some (.lam f c (X.env.qual ++ "<lambda>") (lamP X params body scope f c t) t)) ∧ LK t.isSome params body scope τ ∧ τ ρX M (fun d M1 => k (.tup [.str "told", d]) M1) (noK Good k)
section
variable {X : Cx} {cs : List Value} {g fF : Addr} {fdF : FuncData} {k i : Nat} {LK : Bool → Arguments → Expr → Scope → DE → Prop} {y : Str} {sB : Shared} {HB : Hp} {scopeB : Scope} {ce : Env} {fp : List Addr} {pins0 : List (Addr × Obj)} {σX : L2.St} {p py pos : Pos}
theorem p_tryIn (TF : TryF X.prog X.w X.K X.mg X.base cs g fF fdF) (hL : ∀ d params body scope τ, LK d params body scope τ → LamK X k d params body scope τ) (hr : Room (k + 2) X.A) (hg : Gl (X.blk sB HB scopeB ce fp) "_law_try") (hN : X.N[i]? = some y) (hv : Vis ce.scope y)
    (back : ∀ (pins' : List (Addr × Obj)) (σ' : L2.St) (H' : Hp) (s' : Shared), Inv (X.blk sB HB scopeB ce fp) pins' σ' H' s' → Inv X pins0 σX H' s') (hd : (y == ("__debug__" : Str)) = false := by decide) (hcd : (y == ("__classdict__" : Str)) = false := by decide) :
    PE (X.blk sB HB scopeB ce fp) (.Call (.Name "_law_try" p) [.Name y py] [] pos) (upX X.K E0 (dTryV X (GoodX X.K cs) LK i) σX) := by
  refine ⟨fun pins s σ H Q I h => ?_⟩
  obtain ⟨ρX, ρ, s0, kk, xx, rfl, erX, er, ⟨f, c, t, params, body, scope, τ, hi, hk, q⟩, pp, px⟩ := h
  obtain ⟨v, hv1, rv⟩ := er.at_ i _ hi
  cases rv with
  | lam hG hcG hT =>
  have LL := hL _ _ _ _ _ hk
  refine wpAny_Call_Name_kw (ld_glob I hg TF.m ?_ (by decide))
  refine PySem.W.callWith_K (h₀ := X.base) I.ok.mod.kin TF.k ?_ (by rfl) (by rfl)
  show wpAny _ _ (spliced ((false, eval (.Name y py) (X.blk sB HB scopeB ce fp).env) :: backTo pos (starEach [] (X.blk sB HB scopeB ce fp).env))) _ _ s
  refine Calls.spliced_cons (thn ((pe_var (X := X.blk sB HB scopeB ce fp) (pos := py) (i := i) hN hv hd hcd).run pins s σ s0.H (fun v H1 => v = .ref f ∧ H1 = s0.H) I ⟨.ref f, hv1, rfl, rfl⟩) fun u s1 ⟨v', H1, I1, r1, e1, e2⟩ => ?_)
  subst e1
  rw [e2] at I1
  obtain rfl : u = Value.ref f := r1
  refine Calls.spliced_nil ⟨I1.kIn, ?_⟩
  have rc := run_tryT TF (back _ _ _ _ I1) erX hG hT hcG hr LL.L LL.bind LL.body q pp
  refine wpAny_call (codeAny_mono rc fun r s2 hq => ?_)
  match r, hq with
  | .error e, hq =>
    obtain ⟨_, _, _, _, _, _, _, _, _, _, _, _, z⟩ := hq
    exact z.elim
  | .ok (.ret u), hq => exact I1.after hq
  | .ok .next, hq => exact hq.elim
  | .ok .brk, hq => exact hq.elim
  | .ok .cont, hq => exact hq.elim
end
end DL
set_option Elab.async false
set_option linter.all false
set_option maxRecDepth 100000
set_option maxHeartbeats 2000000
namespace DX
open PySem PySem.W PySem.Spec PySem.Calls PyProof.Rows Builtin
section
variable {prog : Program} {w : World} {A : Around} {E : Value → Shared → Prop} {s : Shared} {K : Frag} {x C L f : Addr} {h₀ : Heap} {m : Str → Option Value} {ox : Obj} {od : Option Obj} {b tb : Value}
/-- bool(x) by the class's own __bool__ -/
theorem bool_own {Q : Value → Shared → Prop} (F : Fr h₀ L s.heap m) (X₀ : K.In h₀) (I : InstAt s.heap x ox C od) (hs : findIn K (.ref C) "__bool__" = some (some (.ref f))) (hf : isFn K (.ref f) = true)
    (h : wpAny (model prog w) A.in1.in1 (call (.ref f) [.ref x]) (PySem.W.BoolBack fun b s' => Q (.bool b) s') E s) : wpAny (model prog w) A (call (.type "bool") [.ref x]) Q E s := by
  refine callType_codes (T := "bool") (Bi := Builtin.«object.__init__») (Q₁ := fun r s₁ => ∃ b, r = .bool b ∧ Q r s₁) PySem.F.called_bool (PySem.F.typeCall_bool_1 _) PySem.F.entry_object_init ?_ ?_
  · refine codeAny_of_tree ?_
    show wpAny _ A.in1.in1 (do checkBuiltinCall "bool.__new__" ⟨[.type "bool", .ref x], []⟩; again (.builtin "bool.__new__" ⟨[.type "bool", .ref x], []⟩)) _ _ s
    refine wpAny_bind (wpAny_of_eq (PySem.F.newCall_bool_1 _) (wpAny_pure ⟨plainId_quiet (by decide +kernel) _, codeAny_builtin PySem.F.entry_bool_new ?_⟩))
    rw [Around.under_plainId (by decide +kernel) _]
    have tr : ∀ {Q' : Bool → Shared → Prop}, (∀ b s', Q (.bool b) s' → Q' b s') → wpAny (model prog w) A.in1.in1 (truthy (.ref x)) Q' E s := fun hk => wpAny_mono (truthy_K F X₀ I hs hf h) hk fun _ _ y => y
    have f1 := PySem.F.conv_sub_bool
    refine wpAny_mono (Q := fun fin s' => ∃ b, fin = .done (.ret (.bool b)) ∧ Q (.bool b) s') (E := E) ?_ (fun fin s' hq => ?_) fun _ _ y => y
    · obtain ⟨hp, g, d, tk, os⟩ := s
      repeat (any_goals (first | assumption | with_reducible apply tr | wp_step))
      all_goals (first | (intro b s' hq; repeat (any_goals (first | exact ⟨_, rfl, hq⟩ | wp_step))) | skip)
    · obtain ⟨b, rfl, hq⟩ := hq
      exact ⟨b, rfl, hq⟩
  · rintro obj s₁ ⟨b, rfl, hq⟩
    exact ⟨rfl, PySem.F.args_object_init_2 _ _, object_init_meets PySem.F.called_bool.init.lookup PySem.F.called_bool.made (by decide) prog w A.in1 _ s₁ ⟨rfl, rfl, hq⟩⟩
/-- x != b, the class having an own __eq__ and object's __ne__ -/
theorem ne_own {Q : Value → Shared → Prop} (hu : A.units + 1 < cLine) (F : Fr h₀ L s.heap m) (X₀ : K.In h₀) (I : InstAt s.heap x ox C od) (hb : Looks (model prog w) s.heap (typeOf b) tb) (hn : notFirst K C tb = true)
    (hne : findIn K (.ref C) "__ne__" = some (some (.builtin "object.__ne__"))) (hm : mroIn K C (.type "object") = some true) (hs : findIn K (.ref C) "__eq__" = some (some (.ref f))) (hf : isFn K (.ref f) = true)
    (h : wpAny (model prog w) A.in1 (call (.ref f) [.ref x, b]) (PySem.W.BoolBack fun r s' => Q (.bool (!r)) s') E s) : wpAny (model prog w) A (richCompare .NotEq (.ref x) b) Q E s := by
  have X := X₀.keeps F.keep
  have inner : wpAny (model prog w) A (call (.builtin "object.__ne__") [.ref x, b]) (fun v s' => ∃ r, v = .bool r ∧ Q v s') E s := by
    refine wpAny_call (codeAny_call_builtin PySem.F.slot_object_ne.plain PySem.F.entry_object_ne (check_slot (i := "object.__ne__") (owner := "object") (n := "__ne__") (by decide +kernel) (by decide +kernel) (I.type.andThen (looks_mroIn X hm)) (PySem.F.args_object_ne_2 _ _) ?_))
    unfold Builtin.«object.__ne__»
    refine wpAny_bind (m := slotArgs "__ne__" 1 _) (wpAny_pure ?_)
    refine wpAny_bind (m := cRoomFor _ _) (wpAny_cRoomFor (by show A.units + 1 < cLine; exact hu) ?_)
    refine wpAny_bind (m := callSpecialIfBound? (.ref x) (Str.ofString "__eq__") _) (ifBound_K X I hs hf (wpAny_mono h (fun r s' hq => ?_) fun _ _ y => y))
    cases r <;> first | exact hq.elim | skip
    exact wpAny_bind (wpAny_truthy_bool (wpAny_pure ⟨_, rfl, hq⟩))
  have one : wpAny (model prog w) A (tryCompare (.ref x) (cmpInfo .NotEq).2.1 b) (fun r s' => ∃ v, r = some v ∧ Q v s') E s := by
    unfold tryCompare
    have step : wpAny (model prog w) A (callSpecialIfBound? (.ref x) (cmpInfo .NotEq).2.1 [b]) (fun r s' => ∃ t, r = some (.bool t) ∧ Q (.bool t) s') E s := by
      simp only [callSpecialIfBound?, bindSpecialIfBound?]
      refine wpAny_holding (wpAny_bind (wpAny_bind (wpAny_bind (I.type.here ((looks_findIn X hne).here ?_)))))
      refine wpAny_bind (wpAny_askSetting (wpAny_ite ?_))
      have fin : wpAny (model prog w) A (call (.builtin "object.__ne__") ([.ref x] ++ [b]) >>= fun v => pure (some v)) (fun r s' => ∃ t, r = some (.bool t) ∧ Q (.bool t) s') E s :=
        wpAny_bind (wpAny_mono inner (fun v s' h' => by obtain ⟨r, rfl, q⟩ := h'; exact wpAny_pure ⟨r, rfl, q⟩) fun _ _ h' => h')
      split
      · exact wpAny_bind ((Looks.of_pure (PySem.F.slot_object_ne.bind _)).here (wpAny_pure (by exact fin)))
      · exact wpAny_tryCatch (wpAny_bind ((Looks.of_pure (PySem.F.slot_object_ne.bind _)).here (wpAny_pure (by exact fin))))
    refine wpAny_bind (wpAny_mono step (fun v s' hv => ?_) fun _ _ e => e)
    obtain ⟨t, rfl, q⟩ := hv
    exact wpAny_pure ⟨_, rfl, q⟩
  unfold richCompare
  simp only [oneThing_ref]
  refine wpAny_holding (wpAny_bind (wpAny_cRoomFor (by omega) ?_))
  refine wpAny_bind (I.type.here (wpAny_bind (hb.here ?_)))
  split
  · rename_i q
    have e : subIn K tb (.ref C) = some false := by
      rcases Bool.or_eq_true_iff.mp hn with e | e
      · rw [beq_iff_eq.mp e] at q; simp at q
      · exact beq_iff_eq.mp e
    refine wpAny_bind ((looks_subIn X e).here ?_)
    simp only [Bool.false_eq_true, if_false]
    refine wpAny_bind (wpAny_mono one (fun r s' z => ?_) fun _ _ e => e)
    obtain ⟨v, rfl, hq⟩ := z
    exact wpAny_pure hq
  · refine wpAny_bind (wpAny_pure ?_)
    simp only [Bool.false_eq_true, if_false]
    refine wpAny_bind (wpAny_mono one (fun r s' z => ?_) fun _ _ e => e)
    obtain ⟨v, rfl, hq⟩ := z
    exact wpAny_pure hq
end
end DX
set_option Elab.async false
set_option linter.all false
set_option maxRecDepth 100000
set_option maxHeartbeats 2000000
namespace DL
open PySem PySem.Spec PyProof.Rows L2
section
variable {X : Cx} {E : XK} {C f : Addr} {fd : FuncData} {ps : List Str} {φ : Ct} {k n : Nat} {pins : List (Addr × Obj)} {σ : L2.St} {H : Hp} {s : Shared}
/-- a def that raises nothing is called from within a builtin -/
theorem run_At {A : Around} {E' : Value → Shared → Prop} {vs : List V} {us : List Value} {Q : VK} (F : FnOk X.prog X.w X.K X.mg X.base (L2.CX X.prog X.w) k f fd ps (spD X.K n φ)) (hr : Room k A) (e0 : Env0 X.prog X.w X.K X.mg X.base A X.stack s H) (hb : KBd X.K fd ps n [] (fun us _ => us)) (I : Inv X pins σ H s) (r : Vals vs us)
    (h : ∃ s ds kk, s.H = H ∧ Ok X.K s ∧ Reps X.K s.G vs ds ∧ ds.length = n ∧ φ ds s.M kk (fun _ _ _ => False) ∧ Post X.K s kk Q) :
    wpAny (model X.prog X.w) A (call (.ref f) us) (EP X pins σ Q) E' s := by
  obtain ⟨s0, ds, kk, rfl, o, r1, l1, q, p⟩ := h
  obtain ⟨g, gV, hb, hrep⟩ := hb.ex
  have rr := hb.rel (ws := []) (zs := []) r .nil
  have e1 : us.length = n := r.length.symm.trans (r1.length.trans l1)
  have hs : spD X.K n φ (gV vs []) s0.H Q (fun _ _ _ => False) := ⟨s0, ds, kk, _, rfl, o, hrep r1 .nil l1 rfl, l1, q, p, PostX.never⟩
  refine wpAny_call (codeAny_mono (F.run A X.stack s s0.H ⟨us, []⟩ (g us []) (gV vs []) Q _ hr e0 (hb.to s us [] I.kIn e1 rfl) rr hs) fun r s' hq => ?_)
  cases r with
  | error e =>
    obtain ⟨_, _, _, _, _, _, _, _, _, _, _, _, z⟩ := hq
    exact z.elim
  | ok fl =>
    cases fl with
    | ret u => exact I.after hq
    | next => exact False.elim hq
    | brk => exact False.elim hq
    | cont => exact False.elim hq
/-- a text that the class's own def tells -/
def dTxtO (C : Addr) (φ : Ct) : D1 := fun u M k _ => (∃ fs, insOf u M = some (C, fs)) ∧ φ [u] M (fun r M2 => ∃ y, r = .str y ∧ k (.str y) M2) (fun _ _ _ => False)
def dOneN (g : D1) : DN := fun ds M k x => ∃ u, ds = [u] ∧ g u M k x
theorem txt_run {A : Around} {E' : Value → Shared → Prop} {u : D} {s0 : Sta} {kk : DK} {Q : VK} {a : Addr} (F : FnOk X.prog X.w X.K X.mg X.base (L2.CX X.prog X.w) k f fd ps (spD X.K 1 φ)) (hr : Room k A) (e0 : Env0 X.prog X.w X.K X.mg X.base A X.stack s s0.H) (hb : KBd X.K fd ps 1 [] (fun us _ => us)) (I : Inv X pins σ s0.H s)
    (ok : Ok X.K s0) (rv : Rep X.K s0.G (.ref a) u) (q : φ [u] s0.M (fun r M2 => ∃ y, r = .str y ∧ kk (.str y) M2) (fun _ _ _ => False)) (p : Post X.K s0 kk Q) :
    wpAny (model X.prog X.w) A (call (.ref f) [.ref a]) (PySem.W.StrBack (EP X pins σ Q)) E' s := by
  refine wpAny_mono (run_At (Q := fun v H' => ∃ y, v = .str y ∧ Q (.str y) H') F hr e0 hb I (vs := [.ref a]) (.cons rfl .nil) ⟨s0, [u], _, rfl, ok, .cons rv .nil, rfl, q, ?_⟩) (fun w s' z => ?_) fun _ _ x => x
  · rintro r t ⟨y, rfl, qy⟩ st okt v hv
    cases hv
    exact ⟨y, rfl, p _ t qy st okt _ .str⟩
  · obtain ⟨z', H', I', rz, y, rfl, qz⟩ := z
    obtain ⟨tk, rfl⟩ := rz
    exact ⟨.str y, H', I', ⟨tk, rfl⟩, qz⟩
theorem units2 {A : Around} {k : Nat} (hr : Room (k + 2) A) : A.in1.in1.units < cLine := by have := hr.un; show A.units + 1 + 1 < _; omega
theorem c_strO (hs : PySem.W.findIn X.K (.ref C) "__str__" = some (some (.ref f))) (hf : PySem.W.isFn X.K (.ref f) = true) (F : FnOk X.prog X.w X.K X.mg X.base (L2.CX X.prog X.w) k f fd ps (spD X.K 1 φ)) (hb : KBd X.K fd ps 1 [] (fun us _ => us)) (hr : Room (k + 2) X.A) :
    CallR X (.type "str") (rA X.K E (dOneN (dTxtO C φ))) := by
  intro pins s σ H xs us Q I r h
  obtain ⟨s0, ds, kk, xx, rfl, ok, hx, ⟨u, rfl, ⟨fs, hi⟩, q⟩, p, px⟩ := h
  obtain ⟨v, rfl, rv⟩ := hx.one
  obtain ⟨a, da, fvs, rfl, ha, rf⟩ := ins_of ok rv hi
  obtain ⟨u', rfl, ru⟩ := vals1 r
  obtain rfl : u' = Value.ref a := ru
  obtain ⟨_, O, _⟩ := ins_get I.hok ha
  obtain ⟨_, J, _⟩ := O.look
  exact PySem.W.kso_call (units2 hr) I.kIn J hs hf (txt_run F (Room.in1 (Room.in1 hr)) I.env0.in1.in1 hb I ok rv q p)
theorem c_reprO (hs : PySem.W.findIn X.K (.ref C) "__repr__" = some (some (.ref f))) (hf : PySem.W.isFn X.K (.ref f) = true) (F : FnOk X.prog X.w X.K X.mg X.base (L2.CX X.prog X.w) k f fd ps (spD X.K 1 φ)) (hb : KBd X.K fd ps 1 [] (fun us _ => us)) (hr : Room (k + 1) X.A) :
    CallR X (.builtin "repr") (rA X.K E (dOneN (dTxtO C φ))) := by
  intro pins s σ H xs us Q I r h
  obtain ⟨s0, ds, kk, xx, rfl, ok, hx, ⟨u, rfl, ⟨fs, hi⟩, q⟩, p, px⟩ := h
  obtain ⟨v, rfl, rv⟩ := hx.one
  obtain ⟨a, da, fvs, rfl, ha, rf⟩ := ins_of ok rv hi
  obtain ⟨u', rfl, ru⟩ := vals1 r
  obtain rfl : u' = Value.ref a := ru
  obtain ⟨_, O, _⟩ := ins_get I.hok ha
  obtain ⟨_, J, _⟩ := O.look
  obtain ⟨m, hF⟩ := I.fr
  exact PySem.W.repr_K (by have := hr.un; show X.A.units + 1 < _; omega) hF I.ok.mod.kin J hs hf (txt_run F (Room.in1 hr) I.env0.in1 hb I ok rv q p)
/-- bool(x) -/
def dBoolO (C : Addr) (φ : Ct) : D1 := fun u M k _ => (∃ fs, insOf u M = some (C, fs)) ∧ φ [u] M (fun r M2 => ∃ b, r = .bl b ∧ k (.bl b) M2) (fun _ _ _ => False)
theorem c_boolO (hs : PySem.W.findIn X.K (.ref C) "__bool__" = some (some (.ref f))) (hf : PySem.W.isFn X.K (.ref f) = true) (F : FnOk X.prog X.w X.K X.mg X.base (L2.CX X.prog X.w) k f fd ps (spD X.K 1 φ)) (hb : KBd X.K fd ps 1 [] (fun us _ => us)) (hr : Room (k + 2) X.A) :
    CallR X (.type "bool") (rA X.K E (dOneN (dBoolO C φ))) := by
  intro pins s σ H xs us Q I r h
  obtain ⟨s0, ds, kk, xx, rfl, ok, hx, ⟨u, rfl, ⟨fs, hi⟩, q⟩, p, px⟩ := h
  obtain ⟨v, rfl, rv⟩ := hx.one
  obtain ⟨a, da, fvs, rfl, ha, rf⟩ := ins_of ok rv hi
  obtain ⟨u', rfl, ru⟩ := vals1 r
  obtain rfl : u' = Value.ref a := ru
  obtain ⟨_, O, _⟩ := ins_get I.hok ha
  obtain ⟨_, J, _⟩ := O.look
  obtain ⟨m, hF⟩ := I.fr
  refine DX.bool_own hF I.ok.mod.kin J hs hf (wpAny_mono (run_At (Q := fun v H' => ∃ b, v = .bl b ∧ Q (.bl b) H') F (Room.in1 (Room.in1 hr)) I.env0.in1.in1 hb I (vs := [.ref a]) (.cons rfl .nil) ⟨s0, [u], _, rfl, ok, .cons rv .nil, rfl, q, ?_⟩) (fun w s' z => ?_) fun _ _ x => x)
  · rintro r t ⟨y, rfl, qy⟩ st okt v hv
    cases hv
    exact ⟨y, rfl, p _ t qy st okt _ .bl⟩
  · obtain ⟨z', H', I', rz, y, rfl, qz⟩ := z
    cases (show w = Value.bool y from rz)
    exact ⟨.bl y, H', I', rfl, qz⟩
/-- the class of the one argument decides -/
def dSelN (own g : DN) : DN := fun ds M k xx => match ds with
  | [u] => (match insOf u M with
    | some _ => own [u] M k xx
    | none => g [u] M k xx)
  | _ => False
theorem c_sel {fv : Value} {own g : DN} (h1 : CallR X fv (rA X.K E own)) (h2 : CallR X fv (rA X.K E g)) : CallR X fv (rA X.K E (dSelN own g)) := by
  intro pins s σ H xs us Q I r h
  obtain ⟨s0, ds, kk, xx, rfl, ok, hx, q, p, px⟩ := h
  unfold dSelN at q
  split at q
  · split at q
    · exact h1 pins s σ _ xs us Q I r ⟨s0, _, kk, xx, rfl, ok, hx, q, p, px⟩
    · exact h2 pins s σ _ xs us Q I r ⟨s0, _, kk, xx, rfl, ok, hx, q, p, px⟩
  · exact q.elim
end
theorem boot_repr' : bootBuiltins "repr" = some (.builtin "repr") := by decide +kernel
end DL
set_option Elab.async false
set_option linter.all false
set_option maxRecDepth 100000
set_option maxHeartbeats 2000000
namespace DL
open PySem PySem.Spec PyProof.Rows L2
/-! ### f-strings -/
/-- {x}: a text or an int -/
def dFmt (τ : DE) : DE := fun ρ M k x => τ ρ M (fun u M1 => (∃ y : Str, u = .str y ∧ y.length ≤ sizeLine ∧ k (.str y) M1) ∨ ∃ i : Int, u = .int i ∧ i.natAbs.log2 < 1920 ∧ k (.str (toString i)) M1) x
/-- {x}: an instance, by its own __str__ -/
def dFmtO (C : Addr) (φ : Ct) (τ : DE) : DE := fun ρ M k x => τ ρ M (fun u M1 => dTxtO C φ u M1 k x) x
def dJs : List DE → Str → DEnv → Mm → DK → DX → Prop
  | [], acc, _, M, k, _ => k (.str acc) M
  | τ :: τs, acc, ρ, M, k, x => τ ρ M (fun u M1 => ∃ y : Str, u = .str y ∧ (acc ++ y).length ≤ sizeLine ∧ dJs τs (acc ++ y) ρ M1 k x) x
def dJoin' (τs : List DE) : DE := fun ρ M k x => dJs τs Str.empty ρ M k x
section
variable {X : Cx} {E : XK} {e : Expr} {τ : DE} {pos : Pos} {C f : Addr} {fd : FuncData} {ps : List Str} {φ : Ct} {k : Nat}
theorem d_fmt (he : DP X E e τ) : DP X E (.FormattedValue e (-1) none pos) (dFmt τ) := pe_mono (pe_fmt he) fun σ H Q h => by
  obtain ⟨ρ, s, k, x, rfl, er, q, p, px⟩ := h
  refine ⟨ρ, s, _, x, rfl, er, q, fun u s1 q1 st1 ok1 v1 r1 => ?_, px⟩
  rcases q1 with ⟨y, rfl, hz, q1⟩ | ⟨i, rfl, hz, q1⟩
  · cases r1
    exact .inl ⟨y, rfl, hz, p _ s1 q1 st1 ok1 _ .str⟩
  · cases r1
    exact .inr ⟨i, rfl, hz, p _ s1 q1 st1 ok1 _ .str⟩
theorem d_fmtO (hfm : PySem.W.findIn X.K (.ref C) "__format__" = some (some (.builtin "object.__format__"))) (hm : PySem.W.mroIn X.K C (.type "object") = some true) (hs : PySem.W.findIn X.K (.ref C) "__str__" = some (some (.ref f))) (hf : PySem.W.isFn X.K (.ref f) = true) (F : FnOk X.prog X.w X.K X.mg X.base (L2.CX X.prog X.w) k f fd ps (spD X.K 1 φ)) (hb : KBd X.K fd ps 1 [] (fun us _ => us)) (hr : Room (k + 1) X.A)
    (he : DP X E e τ) : DP X E (.FormattedValue e (-1) none pos) (dFmtO C φ τ) := by
  refine ⟨fun pins s σ H Q I h => ?_⟩
  obtain ⟨ρ, s0, kk, xx, rfl, er, q, p, px⟩ := h
  refine wpAny_FormattedValue_plain (thn (he.run pins s σ s0.H (fun v H1 => ∃ s1 u, s1.H = H1 ∧ Ok X.K s1 ∧ Step s0 s1 ∧ Rep X.K s1.G v u ∧ dTxtO C φ u s1.M kk xx) I
    ⟨ρ, s0, _, xx, rfl, er, q, fun u s1 q1 st1 ok1 v1 r1 => ⟨s1, u, rfl, ok1, st1, r1, q1⟩, px⟩) fun v s1 ⟨x, H1, I1, rx, sa, u, e1, oka, sta, ra, ⟨fs, hi⟩, q1⟩ => ?_)
  subst e1
  obtain ⟨a, da, fvs, rfl, ha, rf⟩ := ins_of oka ra hi
  obtain rfl : v = Value.ref a := rx
  obtain ⟨_, O, _⟩ := ins_get I1.hok ha
  obtain ⟨_, J, _⟩ := O.look
  have I2 : Inv X pins σ sa.H { s1 with toks := s1.toks + 1 } := I1.tok _
  exact PySem.W.kfo_fieldS (by have := hr.un; show X.A.units + 1 < _; omega) I1.kIn J hfm hm hs hf (txt_run F (Room.in1 hr) I2.env0.in1 hb I2 oka ra q1 (p.step sta))
inductive DPJ (X : Cx) (E : XK) : List Expr → List DE → Prop where
  | nil : DPJ X E [] []
  | cons {e : Expr} {τ : DE} {es : List Expr} {τs : List DE} (h : DP X E e τ) (r : DPJ X E es τs) : DPJ X E (e :: es) (τ :: τs)
theorem j_nil : DPJ X E [] [] := .nil
theorem j_cons {es : List Expr} {τs : List DE} (h : DP X E e τ) (r : DPJ X E es τs) : DPJ X E (e :: es) (τ :: τs) := .cons h r
theorem dpj {es : List Expr} {τs : List DE} (h : DPJ X E es τs) : PJ X es (τs.map (up X.K E)) := by
  induction h with
  | nil => exact .nil
  | cons h r ih => exact .cons h ih
theorem js_up {K : PySem.W.Frag} : ∀ (τs : List DE) (acc : Str) (σ : L2.St) (ρ : DEnv) (s : Sta) (k : DK) (x : DX) (Q : VK), ER K s σ ρ → dJs τs acc ρ s.M k x → Post K s k Q → PostX K E s x → tJs (τs.map (up K E)) acc σ s.H fun out H1 => Q (.str out) H1
  | [], acc, σ, ρ, s, k, x, Q, er, q, p, px => p _ s q (Step.refl s) er.ok _ .str
  | τ :: τs, acc, σ, ρ, s, k, x, Q, er, q, p, px => by
    refine ⟨ρ, s, _, x, rfl, er, q, fun u s1 q1 st1 ok1 v1 r1 => ?_, px⟩
    obtain ⟨y, rfl, hz, q1⟩ := q1
    cases r1
    exact ⟨y, rfl, hz, js_up τs (acc ++ y) σ ρ s1 k x Q (er.step st1 ok1) q1 (p.step st1) (px.step st1)⟩
theorem d_joined {v1 v2 : Expr} {rest : List Expr} {τs : List DE} (h : DPJ X E (v1 :: v2 :: rest) τs) : DP X E (.JoinedStr (v1 :: v2 :: rest) pos) (dJoin' τs) := pe_mono (pe_joined (dpj h)) fun σ H Q h => by
  obtain ⟨ρ, s, k, x, rfl, er, q, p, px⟩ := h
  exact js_up τs Str.empty σ ρ s k x Q er q p px
end
end DL
set_option Elab.async false
set_option linter.all false
set_option maxRecDepth 100000
set_option maxHeartbeats 2000000
namespace DL
open PySem PySem.Spec PyProof.Rows L2
/-- a value of a known kind, or of one of the classes -/
def anyD (CS : List Addr) (y : D) (M : Mm) : Prop := match kdD y M with
  | some (.inl _) => True
  | some (.inr C') => C' ∈ CS
  | none => False
/-- x == y, x an instance with an own __eq__, y anything -/
def dEqA (C : Addr) (CS : List Addr) (φ : Ct) : D2 := fun x y M k xx => (∃ fs, insOf x M = some (C, fs)) ∧ anyD CS y M ∧ φ [x, y] M k xx
def dNeA (C : Addr) (CS : List Addr) (φ : Ct) : D2 := fun x y M k xx => (∃ fs, insOf x M = some (C, fs)) ∧ anyD CS y M ∧ φ [x, y] M (fun r M2 => ∃ b, r = .bl b ∧ k (.bl (!b)) M2) (fun _ _ _ => False)
section
variable {X : Cx} {E : XK} {CX : CXT} {C f : Addr} {CS : List Addr} {fd : FuncData} {ps : List Str} {φ : Ct} {k : Nat} {pins : List (Addr × Obj)} {σ : L2.St} {s : Shared}
theorem any_look {s0 : Sta} {y : D} {v : V} {u : Value} (hB : ∀ u : Kd, PySem.W.subIn X.K (.type u.nm) (.ref C) = some false) (hC : ∀ C' ∈ CS, ClsI X.K C' ∧ (C' = C ∨ PySem.W.subIn X.K (.ref C') (.ref C) = some false)) (I : Inv X pins σ s0.H s) (ok : Ok X.K s0) (r : Rep X.K s0.G v y) (ru : RelV v u) (h : anyD CS y s0.M) :
    ∃ tb, PySem.W.Looks (model X.prog X.w) s.heap (typeOf u) tb ∧ PySem.W.notFirst X.K C tb = true := by
  obtain ⟨t1, t2⟩ := tyX_of ok r
  unfold anyD at h
  split at h
  · rename_i k' hk
    obtain ⟨P, Z, hp, _⟩ := kit_of I ru (t1 _ hk)
    exact ⟨_, Z.ty _ _ I.kIn hp, by unfold PySem.W.notFirst; rw [hB]; simp⟩
  · rename_i C' hk
    obtain ⟨c1, c2⟩ := hC C' h
    obtain ⟨P, Z, hp, _⟩ := kit_of I ru (t2 _ hk c1)
    refine ⟨_, Z.ty _ _ I.kIn hp, ?_⟩
    unfold PySem.W.notFirst
    rcases c2 with rfl | c2
    · simp
    · rw [c2]; simp
  · exact h.elim
theorem o_eqAny (hs : PySem.W.findIn X.K (.ref C) "__eq__" = some (some (.ref f))) (hf : PySem.W.isFn X.K (.ref f) = true) (hB : ∀ u : Kd, PySem.W.subIn X.K (.type u.nm) (.ref C) = some false) (hC : ∀ C' ∈ CS, ClsI X.K C' ∧ (C' = C ∨ PySem.W.subIn X.K (.ref C') (.ref C) = some false))
    (F : FnOk X.prog X.w X.K X.mg X.base CX k f fd ps (spD X.K 2 φ)) (hb : KBd X.K fd ps 2 [] (fun us _ => us)) (hr : Room k X.A) (hx : Passes CX X E) : OpR X (compareOp .Eq) (r2 X.K E (dEqA C CS φ)) := by
  intro pins s σ H x y u v Q I rx ry h
  obtain ⟨s0, dx, dy, kk, xx, rfl, ok, hdx, hdy, ⟨⟨fs, hi⟩, ha', q⟩, p, px⟩ := h
  obtain ⟨a, da, fvs, rfl, ha, rf⟩ := ins_of ok hdx hi
  obtain rfl : u = Value.ref a := rx
  obtain ⟨_, O, _⟩ := ins_get I.hok ha
  obtain ⟨_, J, _⟩ := O.look
  obtain ⟨m, hF⟩ := I.fr
  obtain ⟨tb, lk, nf⟩ := any_look hB hC I ok hdy ry ha'
  show wpAny _ _ (richCompare .Eq _ _) _ _ _
  refine PySem.W.cmp_K (op := .Eq) (tb := tb) hr.units0 hF I.ok.mod.kin J lk nf hs hf ?_
  refine wpAny_mono (run_D (us := [.ref a, v]) (vs := [.ref a, y]) (ws := []) (zs := []) F hr hb hx I (.cons rfl (.cons ry .nil)) .nil ⟨s0, [dx, dy], [], kk, xx, rfl, ok, .cons hdx (.cons hdy .nil), .nil, rfl, rfl, rfl, q, p, px⟩) (fun w s' z => ?_) fun _ _ x => x
  obtain ⟨z', H', I', rz, qz⟩ := z
  exact SlX.cmpback rz ⟨z', H', I', rz, qz⟩
theorem o_neAny (hs : PySem.W.findIn X.K (.ref C) "__eq__" = some (some (.ref f))) (hf : PySem.W.isFn X.K (.ref f) = true) (hne : PySem.W.findIn X.K (.ref C) "__ne__" = some (some (.builtin "object.__ne__"))) (hm : PySem.W.mroIn X.K C (.type "object") = some true) (hB : ∀ u : Kd, PySem.W.subIn X.K (.type u.nm) (.ref C) = some false) (hC : ∀ C' ∈ CS, ClsI X.K C' ∧ (C' = C ∨ PySem.W.subIn X.K (.ref C') (.ref C) = some false))
    (F : FnOk X.prog X.w X.K X.mg X.base (L2.CX X.prog X.w) k f fd ps (spD X.K 2 φ)) (hb : KBd X.K fd ps 2 [] (fun us _ => us)) (hr : Room (k + 1) X.A) : OpR X (compareOp .NotEq) (r2 X.K E (dNeA C CS φ)) := by
  intro pins s σ H x y u v Q I rx ry h
  obtain ⟨s0, dx, dy, kk, xx, rfl, ok, hdx, hdy, ⟨⟨fs, hi⟩, ha', q⟩, p, px⟩ := h
  obtain ⟨a, da, fvs, rfl, ha, rf⟩ := ins_of ok hdx hi
  obtain rfl : u = Value.ref a := rx
  obtain ⟨_, O, _⟩ := ins_get I.hok ha
  obtain ⟨_, J, _⟩ := O.look
  obtain ⟨m, hF⟩ := I.fr
  obtain ⟨tb, lk, nf⟩ := any_look hB hC I ok hdy ry ha'
  show wpAny _ _ (richCompare .NotEq _ _) _ _ _
  refine DX.ne_own (by have := hr.un; omega) hF I.ok.mod.kin J lk nf hne hm hs hf ?_
  refine wpAny_mono (run_At (Q := fun v H' => ∃ b, v = .bl b ∧ Q (.bl (!b)) H') F (Room.in1 hr) I.env0.in1 hb I (vs := [.ref a, y]) (.cons rfl (.cons ry .nil)) ⟨s0, [dx, dy], _, rfl, ok, .cons hdx (.cons hdy .nil), rfl, q, ?_⟩) (fun w s' z => ?_) fun _ _ x => x
  · rintro r t ⟨b, rfl, qy⟩ st okt v hv
    cases hv
    exact ⟨b, rfl, p _ t qy st okt _ .bl⟩
  · obtain ⟨z', H', I', rz, b, rfl, qz⟩ := z
    cases (show w = Value.bool b from rz)
    exact ⟨.bl (!b), H', I', rfl, qz⟩
end
end DL
set_option Elab.async false
set_option linter.all false
set_option maxRecDepth 100000
set_option maxHeartbeats 2000000
namespace DL
open PySem PySem.Spec PyProof.Rows L2
/-- a comprehension over a written list, item by item -/
def lcL (γ : DG) (ε : DE) (vs : List Nat) (ρ : DEnv) : List D → List D → Mm → DK → Prop
  | [], acc, M, k => k (.lst acc) M
  | d :: ds, acc, M, k => γ d (wipeD ρ vs) M fun ρ1 M2 => ε ρ1 M2 (fun y M4 => lcL γ ε vs ρ ds (acc ++ [y]) M4 k) (fun _ _ _ => False)
theorem lc_unroll {γ : DG} {ε : DE} {vs : List Nat} {ρ : DEnv} {ds : List D} {M : Mm} {k : DK} (hl : ds.length < sizeLine) (gm : ∀ d M (K K' : DEnv → Mm → Prop), (∀ ρ M, K ρ M → K' ρ M) → γ d (wipeD ρ vs) M K → γ d (wipeD ρ vs) M K') (h : lcL γ ε vs ρ ds [] M k) : LcK γ dYes ε vs ρ ds M k := by
  refine .of hl (fun j acc M' => lcL γ ε vs ρ (ds.drop j) acc M' k) h (fun j d acc M' hd hI => ?_) (fun acc M' hI => ?_)
  · have e : ds.drop j = d :: ds.drop (j + 1) := by
      have hj : j < ds.length := by
        rcases Nat.lt_or_ge j ds.length with z | z
        · exact z
        · rw [List.getElem?_eq_none z] at hd; cases hd
      rw [List.getElem?_eq_getElem hj] at hd
      cases hd
      exact List.drop_eq_getElem_cons hj
    rw [e] at hI
    refine gm _ _ _ _ (fun ρ1 M2 hh => ?_) hI
    unfold dYes
    dsimp only
    rw [if_pos rfl]
    exact hh
  · rw [List.drop_length] at hI
    exact hI
theorem gN_mono' {i : Nat} {d : D} {ρ : DEnv} {M : Mm} (K K' : DEnv → Mm → Prop) (h : ∀ ρ M, K ρ M → K' ρ M) (q : gN i d ρ M K) : gN i d ρ M K' := h _ _ q
theorem lcN {i : Nat} {ε : DE} {vs : List Nat} {ρ : DEnv} {ds : List D} {M : Mm} {k : DK} (hl : ds.length < sizeLine) (h : lcL (gN i) ε vs ρ ds [] M k) : LcK (gN i) dYes ε vs ρ ds M k := lc_unroll hl (fun d M K K' => gN_mono' K K') h
/-- no instance: the plain operator -/
theorem selO {own f : D2} {x y : D} {M : Mm} {k : DK} {xx : DX} {v : Kd} (h : kd x = some v) (q : f x y M k xx) : dSel own f x y M k xx := by
  cases x <;> first | exact q | cases h
theorem isiBk {T : Kd} {CS : List Addr} {v : D} {kv : Kd} {M : Mm} {k : DK} {x : DX} (h : kd v = some kv) (q : k (.bl (isK T kv)) M) : dIsiB T CS v M k x := by
  unfold dIsiB
  rw [kdD_of h]
  exact q
end DL
set_option Elab.async false
set_option linter.all false
set_option maxRecDepth 100000
set_option maxHeartbeats 2000000
namespace DX
open PySem PySem.SeqAt
open AutoSeq1 (wpAny_loadPart')
open MeetsSeq MeetsSeq2 MeetsSeq3 SeqRoads2
section
variable {prog : Program} {w : World} {A : Around} {R : Result → Shared → Prop}
/-- items asked one behind the other -/
def EqRun (prog : Program) (w : World) (A : Around) (E : Value → Shared → Prop) (Q : Bool → Shared → Prop) : List (Value × Value) → Shared → Prop
  | [], s => Q true s
  | p :: r, s => wpAny (model prog w) A (eqBool p.1 p.2) (fun b s' => (b = false ∧ Q false s') ∨ (b = true ∧ EqRun prog w A E Q r s')) E s
theorem tup_eq {l b : Addr} {items items2 : Array Value} {n n2 : Nat} {dd dd2 : Option Addr} {sl sl2 : Array (Option Value)} {s : Shared}
    (hl : s.heap.get? l = some { cls := .type "tuple", dict := dd, data := .seq items n, slots := sl }) (hb : s.heap.get? b = some { cls := .type "tuple", dict := dd2, data := .seq items2 n2, slots := sl2 })
    (h : EqRun prog w A.in1 (fun e s' => R (.error e) s') (fun r s' => R (.ok (.ret (.bool (r && items.size == items2.size)))) s') (items.toList.zip items2.toList) s) :
    wpAny (model prog w) A.in1 (Builtin.«tuple.__eq__» ⟨[.ref l, .ref b], []⟩) (GQ.FinOf prog w A R) (fun e s' => R (.error e) s') s := by
  have f2 := AutoSeq1.sub_tuple_tuple
  have start := h
  obtain ⟨hp, gg, dr, tk, os⟩ := s
  wp_walk using wpAny_loadPart' hl, wpAny_loadPart' hb, wpAny_forIn_list _ (fun rest st s' => st.1 = none ∧ EqRun prog w A.in1 (fun e s' => R (.error e) s') (fun r s' => R (.ok (.ret (.bool (r && items.size == items2.size)))) s') rest s') _
  case turn =>
    rintro ⟨y, x⟩ rest st s' ⟨hst, hw⟩
    refine wpAny_bind (wpAny_mono hw (fun r s2 q => ?_) fun _ _ x => x)
    rcases q with ⟨rfl, q⟩ | ⟨rfl, q⟩
    · wp_walk
      simpa using q
    · wp_walk
      exact ⟨rfl, q⟩
  case fin =>
    rintro ⟨b1, b2⟩ s' ⟨hst, hw⟩
    simp only at hst
    subst hst
    have hw : R (.ok (.ret (.bool (true && items.size == items2.size)))) s' := hw
    wp_walk
    simpa [Builtin.Tuple.tupleCompareSizes] using hw
  case h => exact ⟨rfl, start⟩
theorem tup_ne {l b : Addr} {items items2 : Array Value} {n n2 : Nat} {dd dd2 : Option Addr} {sl sl2 : Array (Option Value)} {s : Shared}
    (hl : s.heap.get? l = some { cls := .type "tuple", dict := dd, data := .seq items n, slots := sl }) (hb : s.heap.get? b = some { cls := .type "tuple", dict := dd2, data := .seq items2 n2, slots := sl2 })
    (h : EqRun prog w A.in1 (fun e s' => R (.error e) s') (fun r s' => R (.ok (.ret (.bool (!(r && items.size == items2.size))))) s') (items.toList.zip items2.toList) s) :
    wpAny (model prog w) A.in1 (Builtin.«tuple.__ne__» ⟨[.ref l, .ref b], []⟩) (GQ.FinOf prog w A R) (fun e s' => R (.error e) s') s := by
  have f2 := AutoSeq1.sub_tuple_tuple
  have start := h
  obtain ⟨hp, gg, dr, tk, os⟩ := s
  wp_walk using wpAny_loadPart' hl, wpAny_loadPart' hb, wpAny_forIn_list _ (fun rest st s' => st.1 = none ∧ EqRun prog w A.in1 (fun e s' => R (.error e) s') (fun r s' => R (.ok (.ret (.bool (!(r && items.size == items2.size))))) s') rest s') _
  case turn =>
    rintro ⟨y, x⟩ rest st s' ⟨hst, hw⟩
    refine wpAny_bind (wpAny_mono hw (fun r s2 q => ?_) fun _ _ x => x)
    rcases q with ⟨rfl, q⟩ | ⟨rfl, q⟩
    · wp_walk
      simpa using q
    · wp_walk
      exact ⟨rfl, q⟩
  case fin =>
    rintro ⟨b1, b2⟩ s' ⟨hst, hw⟩
    simp only at hst
    subst hst
    have hw : R (.ok (.ret (.bool (!(true && items.size == items2.size))))) s' := hw
    wp_walk
    have e : (items.size != items2.size) = !(true && items.size == items2.size) := by simp [bne]
    show R (.ok (.ret (.bool (items.size != items2.size)))) _
    rw [e]
    exact hw
  case h => exact ⟨rfl, start⟩
theorem rc_tup {l b : Addr} {items items2 : Array Value} {E : Value → Shared → Prop} {s : Shared} {Q : Value → Shared → Prop} (hu : A.units < cLine) (hl : s.heap.IsTuple l items) (hb : s.heap.IsTuple b items2)
    (h : EqRun prog w A.in1 E (fun r s' => Q (.bool (r && items.size == items2.size)) s') (items.toList.zip items2.toList) s) :
    wpAny (model prog w) A (richCompare .Eq (.ref l) (.ref b)) Q E s := by
  obtain ⟨⟨c1, x1, y1, z1⟩, g1, e1, m1, d1⟩ := id hl
  obtain ⟨⟨c2, x2, y2, z2⟩, g2, e2, m2, d2⟩ := id hb
  simp only at e1 d1 e2 d2
  subst e1 d1 e2 d2
  refine wpAny_richCompare_same_room (op := .Eq) ⟨_, g1, rfl⟩ ⟨_, g2, rfl⟩ PySem.F.slot_tuple_eq (GQ.call_here PySem.F.slot_tuple_eq ⟨_, g1, rfl⟩ PySem.F.entry_tuple_eq (PySem.F.args_tuple_eq_2 _ _) ?_) hu
  refine tup_eq (R := wants (fun v s' => v ≠ .notImplemented ∧ Q v s') E) g1 g2 ?_
  have gen : ∀ (l : List (Value × Value)) (s : Shared), EqRun prog w A.in1 E (fun r s' => Q (.bool (r && items.size == items2.size)) s') l s →
      EqRun prog w A.in1 (fun e s' => wants (fun v s' => v ≠ .notImplemented ∧ Q v s') E (.error e) s') (fun r s' => wants (fun v s' => v ≠ .notImplemented ∧ Q v s') E (.ok (.ret (.bool (r && items.size == items2.size)))) s') l s := by
    intro l
    induction l with
    | nil => exact fun s q => ⟨nofun, q⟩
    | cons p r ih =>
      intro s q
      refine wpAny_mono q (fun b s' z => ?_) fun _ _ x => x
      rcases z with ⟨rfl, z⟩ | ⟨rfl, z⟩
      · exact .inl ⟨rfl, nofun, z⟩
      · exact .inr ⟨rfl, ih _ z⟩
  exact gen _ _ h
theorem rcn_tup {l b : Addr} {items items2 : Array Value} {E : Value → Shared → Prop} {s : Shared} {Q : Value → Shared → Prop} (hu : A.units < cLine) (hl : s.heap.IsTuple l items) (hb : s.heap.IsTuple b items2)
    (h : EqRun prog w A.in1 E (fun r s' => Q (.bool (!(r && items.size == items2.size))) s') (items.toList.zip items2.toList) s) :
    wpAny (model prog w) A (richCompare .NotEq (.ref l) (.ref b)) Q E s := by
  obtain ⟨⟨c1, x1, y1, z1⟩, g1, e1, m1, d1⟩ := id hl
  obtain ⟨⟨c2, x2, y2, z2⟩, g2, e2, m2, d2⟩ := id hb
  simp only at e1 d1 e2 d2
  subst e1 d1 e2 d2
  refine wpAny_richCompare_same_room (op := .NotEq) ⟨_, g1, rfl⟩ ⟨_, g2, rfl⟩ PySem.F.slot_tuple_ne (GQ.call_here PySem.F.slot_tuple_ne ⟨_, g1, rfl⟩ PySem.F.entry_tuple_ne (PySem.F.args_tuple_ne_2 _ _) ?_) hu
  refine tup_ne (R := wants (fun v s' => v ≠ .notImplemented ∧ Q v s') E) g1 g2 ?_
  have gen : ∀ (l : List (Value × Value)) (s : Shared), EqRun prog w A.in1 E (fun r s' => Q (.bool (!(r && items.size == items2.size))) s') l s →
      EqRun prog w A.in1 (fun e s' => wants (fun v s' => v ≠ .notImplemented ∧ Q v s') E (.error e) s') (fun r s' => wants (fun v s' => v ≠ .notImplemented ∧ Q v s') E (.ok (.ret (.bool (!(r && items.size == items2.size))))) s') l s := by
    intro l
    induction l with
    | nil => exact fun s q => ⟨nofun, q⟩
    | cons p r ih =>
      intro s q
      refine wpAny_mono q (fun b s' z => ?_) fun _ _ x => x
      rcases z with ⟨rfl, z⟩ | ⟨rfl, z⟩
      · exact .inl ⟨rfl, nofun, z⟩
      · exact .inr ⟨rfl, ih _ z⟩
  exact gen _ _ h
/-- lists are read anew at each turn -/
def IsL (h : Heap) (l : Addr) (items : Array Value) : Prop := ∃ (dd : Option Addr) (sl : Array (Option Value)) (n : Nat), h.get? l = some { cls := .type "list", dict := dd, data := .seq items n, slots := sl }
/-- both lists have N items -/
def Two (l b : Addr) (N : Nat) (s : Shared) : Prop := ∃ items items2, IsL s.heap l items ∧ IsL s.heap b items2 ∧ items.size = N ∧ items2.size = N
def LRun (prog : Program) (w : World) (A : Around) (E : Value → Shared → Prop) (Q : Bool → Shared → Prop) (l b : Addr) (N : Nat) : Nat → Nat → Shared → Prop
  | 0, _, s => Two l b N s ∧ Q true s
  | k + 1, i, s => ∃ items items2, IsL s.heap l items ∧ IsL s.heap b items2 ∧ items.size = N ∧ items2.size = N ∧ ∀ (h1 : i < items.size) (h2 : i < items2.size),
      wpAny (model prog w) A (eqBool items[i] items2[i]) (fun r s' => (r = false ∧ Two l b N s' ∧ Q false s') ∨ (r = true ∧ LRun prog w A E Q l b N k (i + 1) s')) E s
theorem lst_loop (neg : Bool) (l b : Addr) (N k : Nat) :
    ∀ i : Nat, i + k = N → ∀ s, LRun prog w A.in1 (fun e s' => R (.error e) s') (fun r s' => R (.ok (.ret (.bool (if neg then !r else r)))) s') l b N k i s →
      wpAny (model prog w) A.in1 (Builtin.«list.__eq__.loop» ⟨[.ref l, .ref b, rawInt i, rawInt (if neg then 3 else 2)], []⟩) (GQ.FinOf prog w A R) (fun e s' => R (.error e) s') s := by
  induction k with
  | zero =>
    intro i hk s h
    obtain ⟨⟨items, items2, ⟨dd, sl, n, hl1⟩, ⟨dd2, sl2, n2, hb1⟩, z1, z2⟩, hR⟩ := h
    obtain ⟨hp, g, d, tk, os⟩ := s
    have hi1 : items[((i : Nat) : Int).toNat]? = none := by simp; omega
    have hi2 : items2[((i : Nat) : Int).toNat]? = none := by simp; omega
    cases neg with
    | false =>
      wp_walk using wpAny_loadPart' hl1, wpAny_loadPart' hb1
      rw [hi1, hi2]
      wp_walk using wpAny_loadPart' hl1, wpAny_loadPart' hb1
      show R (.ok (.ret (.bool (items.size == items2.size)))) _
      rw [z1, z2]
      simpa using hR
    | true =>
      wp_walk using wpAny_loadPart' hl1, wpAny_loadPart' hb1
      rw [hi1, hi2]
      wp_walk using wpAny_loadPart' hl1, wpAny_loadPart' hb1
      show R (.ok (.ret (.bool (items.size != items2.size)))) _
      rw [z1, z2]
      simpa using hR
  | succ k ih =>
    intro i hk s h
    obtain ⟨items, items2, ⟨dd, sl, n, hl1⟩, ⟨dd2, sl2, n2, hb1⟩, z1, z2, hR⟩ := h
    have hlt : i < items.size := by omega
    have hlt2 : i < items2.size := by omega
    have hR := hR hlt hlt2
    obtain ⟨hp, g, d, tk, os⟩ := s
    have hi1 : items[((i : Nat) : Int).toNat]? = some items[i] := by simp [hlt]
    have hi2 : items2[((i : Nat) : Int).toNat]? = some items2[i] := by simp [hlt2]
    have hc : ((i : Int) + 1) = ((i + 1 : Nat) : Int) := by omega
    cases neg with
    | false =>
      wp_walk using wpAny_loadPart' hl1, wpAny_loadPart' hb1
      rw [hi1, hi2]
      refine wpAny_bind (wpAny_mono hR (fun r s2 h2 => ?_) fun _ _ x => x)
      rcases h2 with ⟨rfl, ⟨items, items2, ⟨dd, sl, n, hl1⟩, ⟨dd2, sl2, n2, hb1⟩, z1, z2⟩, q⟩ | ⟨rfl, q⟩
      · obtain ⟨hp, g, d, tk, os⟩ := s2
        have hi1 : items[((i : Nat) : Int).toNat]? = some (items[i]'(by omega)) := by simp
        have hi2 : items2[((i : Nat) : Int).toNat]? = some (items2[i]'(by omega)) := by simp
        wp_walk using wpAny_loadPart' hl1, wpAny_loadPart' hb1
        rw [hi1, hi2]
        wp_walk
        simpa using q
      · have hrec := ih (i + 1) (by omega) s2 q
        obtain ⟨hp2, g2, d2, tk2, os2⟩ := s2
        wp_walk
        rw [hc]
        exact ⟨plainId_quiet plain_eq_loop _, codeAny_builtin entry_eq_loop (by
          rw [Around.under_plainId plain_eq_loop _]
          exact hrec)⟩
    | true =>
      wp_walk using wpAny_loadPart' hl1, wpAny_loadPart' hb1
      rw [hi1, hi2]
      refine wpAny_bind (wpAny_mono hR (fun r s2 h2 => ?_) fun _ _ x => x)
      rcases h2 with ⟨rfl, ⟨items, items2, ⟨dd, sl, n, hl1⟩, ⟨dd2, sl2, n2, hb1⟩, z1, z2⟩, q⟩ | ⟨rfl, q⟩
      · obtain ⟨hp, g, d, tk, os⟩ := s2
        have hi1 : items[((i : Nat) : Int).toNat]? = some (items[i]'(by omega)) := by simp
        have hi2 : items2[((i : Nat) : Int).toNat]? = some (items2[i]'(by omega)) := by simp
        wp_walk using wpAny_loadPart' hl1, wpAny_loadPart' hb1
        rw [hi1, hi2]
        wp_walk
        simpa using q
      · have hrec := ih (i + 1) (by omega) s2 q
        obtain ⟨hp2, g2, d2, tk2, os2⟩ := s2
        wp_walk
        rw [hc]
        exact ⟨plainId_quiet plain_eq_loop _, codeAny_builtin entry_eq_loop (by
          rw [Around.under_plainId plain_eq_loop _]
          exact hrec)⟩
theorem lst_eq (neg : Bool) {l b : Addr} {items items2 : Array Value} {s : Shared} (h0 : IsL s.heap l items) (h1 : IsL s.heap b items2)
    (h : (items.size ≠ items2.size ∧ R (.ok (.ret (.bool neg))) s) ∨ (items.size = items2.size ∧ LRun prog w A.in1 (fun e s' => R (.error e) s') (fun r s' => R (.ok (.ret (.bool (if neg then !r else r)))) s') l b items.size items.size 0 s)) :
    wpAny (model prog w) A.in1 ((if neg then Builtin.«list.__ne__» else Builtin.«list.__eq__») ⟨[.ref l, .ref b], []⟩) (GQ.FinOf prog w A R) (fun e s' => R (.error e) s') s := by
  obtain ⟨dd, sl, n, hl1⟩ := h0
  obtain ⟨dd2, sl2, n2, hb1⟩ := h1
  have f3 := AutoSeq1.sub_list_list
  rcases h with ⟨hne, hR⟩ | ⟨hsz, hR⟩
  · have hne' : (items.size != items2.size) = true := by simp [hne]
    obtain ⟨hp, g, d, tk, os⟩ := s
    cases neg with
    | false =>
      show wpAny _ _ (Builtin.«list.__eq__» _) _ _ _
      wp_walk using wpAny_loadPart' hl1, wpAny_loadPart' hb1
      exact hR
    | true =>
      show wpAny _ _ (Builtin.«list.__ne__» _) _ _ _
      wp_walk using wpAny_loadPart' hl1, wpAny_loadPart' hb1
      exact hR
  · have hrec := lst_loop (prog := prog) (w := w) (A := A) (R := R) neg l b items.size items.size 0 (Nat.zero_add _) s hR
    have hne : ¬ (items.size != items2.size) = true := by simp [hsz]
    obtain ⟨hp, g, d, tk, os⟩ := s
    cases neg with
    | false =>
      show wpAny _ _ (Builtin.«list.__eq__» _) _ _ _
      wp_walk using wpAny_loadPart' hl1, wpAny_loadPart' hb1
      exact ⟨plainId_quiet plain_eq_loop _, codeAny_builtin entry_eq_loop (by
        rw [Around.under_plainId plain_eq_loop _]
        exact hrec)⟩
    | true =>
      show wpAny _ _ (Builtin.«list.__ne__» _) _ _ _
      wp_walk using wpAny_loadPart' hl1, wpAny_loadPart' hb1
      exact ⟨plainId_quiet plain_eq_loop _, codeAny_builtin entry_eq_loop (by
        rw [Around.under_plainId plain_eq_loop _]
        exact hrec)⟩
theorem LRun.imp {E E' : Value → Shared → Prop} {Q Q' : Bool → Shared → Prop} {l b : Addr} {N : Nat} (hq : ∀ b s, Q b s → Q' b s) (he : ∀ e s, E e s → E' e s) : ∀ {k i : Nat} {s : Shared}, LRun prog w A E Q l b N k i s → LRun prog w A E' Q' l b N k i s
  | 0, _, s, h => ⟨h.1, hq _ _ h.2⟩
  | k + 1, i, s, ⟨its, jts, a1, a2, a3, a4, h⟩ => ⟨its, jts, a1, a2, a3, a4, fun h1 h2 => wpAny_mono (h h1 h2) (fun b s' z => z.elim (fun z => .inl ⟨z.1, z.2.1, hq _ _ z.2.2⟩) (fun z => .inr ⟨z.1, LRun.imp hq he z.2⟩)) he⟩
theorem rc_lst {l b : Addr} {items items2 : Array Value} {E : Value → Shared → Prop} {s : Shared} {Q : Value → Shared → Prop} (hu : A.units < cLine) (h0 : IsL s.heap l items) (h1 : IsL s.heap b items2)
    (h : (items.size ≠ items2.size ∧ Q (.bool false) s) ∨ (items.size = items2.size ∧ LRun prog w A.in1 E (fun r s' => Q (.bool r) s') l b items.size items.size 0 s)) :
    wpAny (model prog w) A (richCompare .Eq (.ref l) (.ref b)) Q E s := by
  have k0 := h0
  have k1 := h1
  obtain ⟨dd, sl, n, g1⟩ := h0
  obtain ⟨dd2, sl2, n2, g2⟩ := h1
  refine wpAny_richCompare_same_room (op := .Eq) ⟨_, g1, rfl⟩ ⟨_, g2, rfl⟩ PySem.F.slot_list_eq (GQ.call_here PySem.F.slot_list_eq ⟨_, g1, rfl⟩ PySem.F.entry_list_eq (PySem.F.args_list_eq_2 _ _) ?_) hu
  refine lst_eq (R := wants (fun v s' => v ≠ .notImplemented ∧ Q v s') E) false k0 k1 ?_
  rcases h with ⟨a, q⟩ | ⟨a, q⟩
  · exact .inl ⟨a, nofun, q⟩
  · exact .inr ⟨a, LRun.imp (fun b s z => ⟨nofun, z⟩) (fun _ _ z => z) q⟩
theorem rcn_lst {l b : Addr} {items items2 : Array Value} {E : Value → Shared → Prop} {s : Shared} {Q : Value → Shared → Prop} (hu : A.units < cLine) (h0 : IsL s.heap l items) (h1 : IsL s.heap b items2)
    (h : (items.size ≠ items2.size ∧ Q (.bool true) s) ∨ (items.size = items2.size ∧ LRun prog w A.in1 E (fun r s' => Q (.bool (!r)) s') l b items.size items.size 0 s)) :
    wpAny (model prog w) A (richCompare .NotEq (.ref l) (.ref b)) Q E s := by
  have k0 := h0
  have k1 := h1
  obtain ⟨dd, sl, n, g1⟩ := h0
  obtain ⟨dd2, sl2, n2, g2⟩ := h1
  refine wpAny_richCompare_same_room (op := .NotEq) ⟨_, g1, rfl⟩ ⟨_, g2, rfl⟩ PySem.F.slot_list_ne (GQ.call_here PySem.F.slot_list_ne ⟨_, g1, rfl⟩ PySem.F.entry_list_ne (PySem.F.args_list_ne_2 _ _) ?_) hu
  refine lst_eq (R := wants (fun v s' => v ≠ .notImplemented ∧ Q v s') E) true k0 k1 ?_
  rcases h with ⟨a, q⟩ | ⟨a, q⟩
  · exact .inl ⟨a, nofun, q⟩
  · exact .inr ⟨a, LRun.imp (fun b s z => ⟨nofun, z⟩) (fun _ _ z => z) q⟩
end
end DX
set_option Elab.async false
set_option linter.all false
set_option maxRecDepth 100000
set_option maxHeartbeats 2000000
namespace DL
open PySem PySem.Spec PyProof.Rows L2
mutual
/-- data without changing parts -/
def solid : D → Bool
  | .non => true
  | .bl _ => true
  | .int _ => true
  | .str _ => true
  | .lst ds => solids ds
  | .tup ds => solids ds
  | .obj _ fs => solidF fs
  | _ => false
def solids : List D → Bool
  | [] => true
  | d :: ds => solid d && solids ds
def solidF : List (Str × D) → Bool
  | [] => true
  | (_, d) :: ds => solid d && solidF ds
end
section
variable {X : Cx} {pins : List (Addr × Obj)} {σ : L2.St} {s : Shared}
theorem not_lt {H : Hp} {a : Addr} {xs ys : List V} (I : Inv X pins σ H s) (h : SqL X.K H a xs) (h' : SqT X.K H a ys) : False := by
  obtain ⟨its, _, ⟨o, n, e, c, _⟩, _⟩ := I.list h
  obtain ⟨its', _, ⟨o', e', c', _⟩, _⟩ := I.tuple h'
  rw [e] at e'
  cases e'
  rw [c] at c'
  injection c' with z
  exact absurd z (by decide)
theorem not_ot {H : Hp} {a C dx : Addr} {fvs : List (Str × V)} {ys : List V} (I : Inv X pins σ H s) (h : H a = some (.ins C dx fvs)) (h' : SqT X.K H a ys) : False := by
  obtain ⟨its', _, ⟨o', e', c', _⟩, _⟩ := I.tuple h'
  obtain ⟨_, O, _⟩ := ins_get I.hok h
  obtain ⟨_, J, _⟩ := O.look
  obtain ⟨j1, j2, _⟩ := J
  rw [e'] at j1
  cases j1
  rw [c'] at j2
  cases j2
mutual
theorem Rep.inj {H G : Hp} (I : Inv X pins σ H s) (sub : Same G H) : ∀ {d d' : D} {v : V}, Rep X.K G v d → Rep X.K G v d' → solid d = true → solid d' = true → d = d'
  | .non, _, _, h, h', _, _ => by cases h; cases h'; rfl
  | .bl _, _, _, h, h', _, _ => by cases h; cases h'; rfl
  | .int _, _, _, h, h', _, _ => by cases h; cases h'; rfl
  | .str _, _, _, h, h', _, _ => by cases h; cases h'; rfl
  | .lst ds, d', _, h, h', z, z' => by
    cases h with
    | lst g r =>
      cases h' with
      | lst g' r' =>
        rw [g] at g'
        cases g'
        rw [Reps.inj I sub r r' z z']
      | tup g' r' => exact (not_lt I (.inl (.of (sub _ _ g))) (Same.seqT sub g')).elim
      | obj g' r' => rw [g] at g'; cases g'
      | cel => cases z'
      | scr => cases z'
      | exc => cases z'
      | lam => cases z'
      | err => cases z'
      | dic => cases z'
  | .tup ds, d', _, h, h', z, z' => by
    cases h with
    | tup g r =>
      cases h' with
      | tup g' r' =>
        cases I.tuple_inj (Same.seqT sub g) (Same.seqT sub g')
        rw [Reps.inj I sub r r' z z']
      | lst g' r' => exact (not_lt I (.inl (.of (sub _ _ g'))) (Same.seqT sub g)).elim
      | obj g' r' => exact (not_ot I (sub _ _ g') (Same.seqT sub g)).elim
      | cel => cases z'
      | scr => cases z'
      | exc => cases z'
      | lam => cases z'
      | err => cases z'
      | dic => cases z'
  | .obj C fs, d', _, h, h', z, z' => by
    cases h with
    | obj g r =>
      cases h' with
      | obj g' r' =>
        rw [g] at g'
        cases g'
        rw [FRep.inj I sub r r' z z']
      | lst g' r' => rw [g] at g'; cases g'
      | tup g' r' => exact (not_ot I (sub _ _ g) (Same.seqT sub g')).elim
      | cel => cases z'
      | scr => cases z'
      | exc => cases z'
      | lam => cases z'
      | err => cases z'
      | dic => cases z'
  | .cel _, _, _, _, _, z, _ => by cases z
  | .scr _, _, _, _, _, z, _ => by cases z
  | .exc _ _ _, _, _, _, _, z, _ => by cases z
  | .lam _ _ _ _ _, _, _, _, _, z, _ => by cases z
  | .err _ _, _, _, _, _, z, _ => by cases z
  | .dic _ _, _, _, _, _, z, _ => by cases z
theorem Reps.inj {H G : Hp} (I : Inv X pins σ H s) (sub : Same G H) : ∀ {ds es : List D} {vs : List V}, Reps X.K G vs ds → Reps X.K G vs es → solids ds = true → solids es = true → ds = es
  | [], _, _, .nil, .nil, _, _ => rfl
  | d :: ds, _, _, .cons h r, .cons h' r', z, z' => by
    simp only [solids, Bool.and_eq_true] at z z'
    rw [Rep.inj I sub h h' z.1 z'.1, Reps.inj I sub r r' z.2 z'.2]
theorem FRep.inj {H G : Hp} (I : Inv X pins σ H s) (sub : Same G H) : ∀ {ds es : List (Str × D)} {vs : List (Str × V)}, FRep X.K G vs ds → FRep X.K G vs es → solidF ds = true → solidF es = true → ds = es
  | [], _, _, .nil, .nil, _, _ => rfl
  | (f, d) :: ds, _, _, .cons h r, .cons h' r', z, z' => by
    simp only [solidF, Bool.and_eq_true] at z z'
    rw [Rep.inj I sub h h' z.1 z'.1, FRep.inj I sub r r' z.2 z'.2]
end
def inJ (A : Around) : Nat → Around
  | 0 => A
  | n + 1 => (inJ A n).in1
theorem room_inJ {A : Around} : ∀ {j k : Nat}, Room (k + j) A → Room k (inJ A j)
  | 0, k, r => r
  | j + 1, k, r => Room.in1 (room_inJ (j := j) (k := k + 1) (by rw [Nat.add_assoc, Nat.add_comm 1 j]; exact r))
theorem env_inJ {H : Hp} (I : Inv X pins σ H s) : ∀ j, Env0 X.prog X.w X.K X.mg X.base (inJ X.A j) X.stack s H
  | 0 => I.env0
  | j + 1 => (env_inJ I j).in1
/-- plain data or an instance of one of the classes -/
def anyS (CS : List Addr) : D → Bool
  | .non => true
  | .bl _ => true
  | .int _ => true
  | .str _ => true
  | .lst _ => true
  | .tup _ => true
  | .obj C _ => CS.contains C
  | _ => false
theorem anyS_D {CS : List Addr} {y : D} {M : Mm} (h : anyS CS y = true) : anyD CS y M := by
  cases y <;> first | exact True.intro | cases h | skip
  rename_i C fs
  show C ∈ CS
  simpa [anyS] using h
/-- what is known of the own __eq__ of a class -/
structure OwnEq (P : Program) (w : World) (K : PySem.W.Frag) (mg : Str → Option Value) (base : Heap) (k : Nat) (CS : List Addr) (C : Addr) (φ : Ct) : Prop where
  ex : ∃ f fd ps, PySem.W.findIn K (.ref C) "__eq__" = some (some (.ref f)) ∧ PySem.W.isFn K (.ref f) = true ∧ FnOk P w K mg base (L2.CX P w) k f fd ps (spD K 2 φ) ∧ KBd K fd ps 2 [] (fun us _ => us)
  hB : ∀ u : Kd, PySem.W.subIn K (.type u.nm) (.ref C) = some false
  hC : ∀ C' ∈ CS, ClsI K C' ∧ (C' = C ∨ PySem.W.subIn K (.ref C') (.ref C) = some false)
theorem OwnEq.mono {P : Program} {w : World} {K : PySem.W.Frag} {mg : Str → Option Value} {base : Heap} {k j : Nat} {CS : List Addr} {C : Addr} {φ : Ct} (h : OwnEq P w K mg base k CS C φ) (hk : k ≤ j) : OwnEq P w K mg base j CS C φ := by
  obtain ⟨⟨f, fd, ps, a, b, F, c⟩, d, e⟩ := h
  exact ⟨⟨f, fd, ps, a, b, ⟨F.len, fun A outer s H args us vs Q E hr => F.run A outer s H args us vs Q E (hr.mono hk)⟩, c⟩, d, e⟩
/-- an answer without looking into items -/
def Leaf (O : Addr → Ct → Prop) (CS : List Addr) (x y : D) (b : Bool) : Prop :=
  (∃ p q, toP x = some p ∧ toP y = some q ∧ SeqAt.shaped p = true ∧ SeqAt.shaped q = true ∧ b = PyData.eqv p q) ∨ (∃ i j, x = .str i ∧ y = .str j ∧ b = decide (i = j)) ∨
  ∃ C fs φ, x = .obj C fs ∧ O C φ ∧ anyS CS y = true ∧ (y = x → b = true) ∧ solid x = true ∧ solid y = true ∧ ∀ (M : Mm) (k : DK), k (.bl b) M → φ [x, y] M k (fun _ _ _ => False)
inductive EqS (R : D → D → Bool → Prop) : List D → List D → Bool → Prop where
  | nilL {ys : List D} : EqS R [] ys true
  | nilR {xs : List D} : EqS R xs [] true
  | stop {x y : D} {xs ys : List D} (h : R x y false) : EqS R (x :: xs) (y :: ys) false
  | go {x y : D} {xs ys : List D} {b : Bool} (h : R x y true) (r : EqS R xs ys b) : EqS R (x :: xs) (y :: ys) b
def EqTup (R : D → D → Bool → Prop) (x y : D) (b : Bool) : Prop := ∃ xs ys r, x = .tup xs ∧ y = .tup ys ∧ EqS R xs ys r ∧ b = (r && xs.length == ys.length)
def EqLst (R : D → D → Bool → Prop) (x y : D) (b : Bool) : Prop := ∃ xs ys, x = .lst xs ∧ y = .lst ys ∧ ((xs.length ≠ ys.length ∧ b = false) ∨ (xs.length = ys.length ∧ EqS R xs ys b))
/-- == of data at most n deep with instances in it -/
def EqX (O : Addr → Ct → Prop) (CS : List Addr) : Nat → D → D → Bool → Prop
  | 0, x, y, b => Leaf O CS x y b
  | n + 1, x, y, b => Leaf O CS x y b ∨ (solid x = true ∧ solid y = true ∧ (x = y → b = true) ∧ (EqTup (EqX O CS n) x y b ∨ EqLst (EqX O CS n) x y b))
variable {O : Addr → Ct → Prop} {CS : List Addr}
/-- the state behind a comparison -/
def After (X : Cx) (pins : List (Addr × Obj)) (σ : L2.St) (s0 : Sta) (s' : Shared) : Prop := ∃ t : Sta, Step s0 t ∧ Ok X.K t ∧ t.M = s0.M ∧ Inv X pins σ t.H s'
theorem After.refl {s0 : Sta} (ok : Ok X.K s0) (I : Inv X pins σ s0.H s) : After X pins σ s0 s := ⟨s0, .refl s0, ok, rfl, I⟩
/-- a leaf, asked by == -/
theorem leaf_rc {k j : Nat} {x y : D} {b : Bool} {v1 v2 : V} {u1 u2 : Value} {s0 : Sta} {E : Value → Shared → Prop} (hO : ∀ C φ, O C φ → OwnEq X.prog X.w X.K X.mg X.base k CS C φ) (hr : Room (k + j) X.A) (hx : ∃ C fs φ, x = .obj C fs ∧ O C φ ∧ anyS CS y = true ∧ ∀ (M : Mm) (k : DK), k (.bl b) M → φ [x, y] M k (fun _ _ _ => False)) (I : Inv X pins σ s0.H s) (ok : Ok X.K s0) (r1 : Rep X.K s0.G v1 x) (r2 : Rep X.K s0.G v2 y) (q1 : RelV v1 u1) (q2 : RelV v2 u2) :
    wpAny (model X.prog X.w) (inJ X.A j) (richCompare .Eq u1 u2) (fun r s' => r = .bool b ∧ After X pins σ s0 s') E s := by
  obtain ⟨C, fs, φ, rfl, o, ha, h⟩ := hx
  obtain ⟨⟨f, fd, ps, hs, hf, F, hb⟩, hB, hC⟩ := hO _ _ o
  obtain ⟨a, da, fvs, rfl, hga, rfa⟩ := r1.obj_of
  obtain rfl : u1 = Value.ref a := q1
  obtain ⟨_, Ob, _⟩ := ins_get I.hok (ok.sub _ _ hga)
  obtain ⟨_, J, _⟩ := Ob.look
  obtain ⟨m, hF⟩ := I.fr
  obtain ⟨tb, lk, nf⟩ := any_look hB hC I ok r2 q2 (anyS_D ha)
  have hr' : Room k (inJ X.A j) := room_inJ hr
  refine PySem.W.cmp_K (op := .Eq) (tb := tb) hr'.units0 hF I.ok.mod.kin J lk nf hs hf ?_
  refine wpAny_mono (run_At (Q := fun v H' => v = .bl b ∧ ∃ t : Sta, Step s0 t ∧ Ok X.K t ∧ t.M = s0.M ∧ t.H = H') F hr' (env_inJ I j) hb I (vs := [.ref a, v2]) (.cons rfl (.cons q2 .nil)) ⟨s0, [.obj C fs, y], fun d M => d = .bl b ∧ M = s0.M, rfl, ok, .cons r1 (.cons r2 .nil), rfl, h _ _ ⟨rfl, rfl⟩, ?_⟩) (fun w s' z => ?_) fun _ _ x => x
  · rintro r t ⟨rfl, hM⟩ st okt v hv
    cases hv
    exact ⟨rfl, t, st, okt, hM, rfl⟩
  · obtain ⟨z', H', I', rz, rfl, t, st, okt, hM, rfl⟩ := z
    cases (show w = Value.bool b from rz)
    exact SlX.cmpback (show RelV (.bl b) (.bool b) from rfl) ⟨rfl, t, st, okt, hM, I'⟩
theorem leaf_eq {k j : Nat} {x y : D} {b : Bool} {v1 v2 : V} {u1 u2 : Value} {s0 : Sta} {E : Value → Shared → Prop} (hO : ∀ C φ, O C φ → OwnEq X.prog X.w X.K X.mg X.base k CS C φ) (hr : Room (k + j) X.A) (hx : Leaf O CS x y b) (I : Inv X pins σ s0.H s) (ok : Ok X.K s0) (r1 : Rep X.K s0.G v1 x) (r2 : Rep X.K s0.G v2 y) (q1 : RelV v1 u1) (q2 : RelV v2 u2) :
    wpAny (model X.prog X.w) (inJ X.A j) (eqBool u1 u2) (fun r s' => r = b ∧ After X pins σ s0 s') E s := by
  rcases hx with ⟨p, q, h1, h2, h3, h4, rfl⟩ | ⟨i, j', rfl, rfl, rfl⟩ | ⟨C, fs, φ, rfl, o, ha, hsame, so1, so2, h⟩
  · obtain ⟨as, e1⟩ := Dp.reads I p v1 u1 (Dp.same ok.sub (dp_of r1 h1)) q1
    obtain ⟨bs, e2⟩ := Dp.reads I q v2 u2 (Dp.same ok.sub (dp_of r2 h2)) q2
    have hr' : Room k (inJ X.A j) := room_inJ hr
    exact SeqAt.eqAt_reads p q _ s u1 u2 as bs e1 e2 (SeqAt.canLay_of_shaped h3) (SeqAt.canLay_of_shaped h4) (SeqAt.room_of_shaped h3 (by have := hr'.un; omega)) _ _ _ _ ⟨rfl, After.refl ok I⟩
  · cases r1
    cases r2
    obtain ⟨t1, rfl⟩ := q1
    obtain ⟨t2, rfl⟩ := q2
    exact SeqAt.EqAt.str_str i t1 j' t2 _ _ _ _ ⟨by rfl, After.refl ok I⟩
  · have r1' := r1
    obtain ⟨a, da, fvs, rfl, hga, rfa⟩ := r1.obj_of
    obtain rfl : u1 = Value.ref a := q1
    by_cases e : u2 = Value.ref a
    · subst e
      have e2 : v2 = .ref a := by
        cases v2 <;> first | (obtain ⟨_, z⟩ := q2; cases z; done) | (cases q2; rfl) | (cases q2; done)
      subst e2
      have := Rep.inj I ok.sub r2 r1' so2 so1
      exact DX.eq_self ⟨(hsame this).symm, After.refl ok I⟩
    · unfold eqBool
      refine wpAny_holding ?_
      refine wpAny_ite_split (fun hab => absurd (eq_of_beq hab).symm e) (fun _ => ?_)
      refine wpAny_bind (wpAny_mono (leaf_rc hO hr ⟨C, fs, φ, rfl, o, ha, h⟩ I ok r1' r2 rfl q2) (fun v s' hv => ?_) fun _ _ x => x)
      obtain ⟨rfl, A⟩ := hv
      exact wpAny_truthy_bool ⟨rfl, A⟩

theorem After.step {s0 s1 : Sta} {s' : Shared} (st : Step s0 s1) (e : s1.M = s0.M) (h : After X pins σ s1 s') : After X pins σ s0 s' := by
  obtain ⟨t, st2, ok, hM, I⟩ := h
  exact ⟨t, st.trans st2, ok, hM.trans e, I⟩
theorem items_run {A : Around} {R : D → D → Bool → Prop} {E : Value → Shared → Prop} {s00 : Sta}
    (hR : ∀ (x y : D) (b : Bool) (v1 v2 : V) (u1 u2 : Value) (s0 : Sta) (s : Shared), R x y b → Inv X pins σ s0.H s → Ok X.K s0 → Rep X.K s0.G v1 x → Rep X.K s0.G v2 y → RelV v1 u1 → RelV v2 u2 → wpAny (model X.prog X.w) A (eqBool u1 u2) (fun r s' => r = b ∧ After X pins σ s0 s') E s) :
    ∀ {xs ys : List D} {r : Bool}, EqS R xs ys r → ∀ {vs ws : List V} {us zs : List Value} {s0 : Sta} {s : Shared}, Step s00 s0 → s0.M = s00.M → Inv X pins σ s0.H s → Ok X.K s0 → Reps X.K s0.G vs xs → Reps X.K s0.G ws ys → Vals vs us → Vals ws zs →
      DX.EqRun X.prog X.w A E (fun r' s' => r' = r ∧ After X pins σ s00 s') (us.zip zs) s := by
  intro xs ys r h
  induction h with
  | nilL =>
    intro vs ws us zs s0 s st e I ok r1 r2 q1 q2
    cases r1
    cases q1
    exact ⟨rfl, s0, st, ok, e, I⟩
  | nilR =>
    intro vs ws us zs s0 s st e I ok r1 r2 q1 q2
    cases r2
    cases q2
    rw [List.zip_nil_right]
    exact ⟨rfl, s0, st, ok, e, I⟩
  | stop h =>
    intro vs ws us zs s0 s st e I ok r1 r2 q1 q2
    cases r1 with
    | cons a1 b1 =>
      cases r2 with
      | cons a2 b2 =>
        cases q1 with
        | cons c1 d1 =>
          cases q2 with
          | cons c2 d2 =>
            refine wpAny_mono (hR _ _ _ _ _ _ _ _ _ h I ok a1 a2 c1 c2) (fun b s' z => ?_) fun _ _ x => x
            obtain ⟨rfl, z⟩ := z
            exact .inl ⟨rfl, rfl, z.step st e⟩
  | go h _ ih =>
    intro vs ws us zs s0 s st e I ok r1 r2 q1 q2
    cases r1 with
    | cons a1 b1 =>
      cases r2 with
      | cons a2 b2 =>
        cases q1 with
        | cons c1 d1 =>
          cases q2 with
          | cons c2 d2 =>
            refine wpAny_mono (hR _ _ _ _ _ _ _ _ _ h I ok a1 a2 c1 c2) (fun b s' z => ?_) fun _ _ x => x
            obtain ⟨rfl, t, st2, ok2, hM, I2⟩ := z
            exact .inr ⟨rfl, ih (st.trans st2) (hM.trans e) I2 ok2 (Reps.same st2.same b1) (Reps.same st2.same b2) d1 d2⟩
theorem plain_isL {h : Heap} {a : Addr} {its : Array Value} (p : PlainL h a its) : DX.IsL h a its := by
  obtain ⟨⟨c, d, dt, sl⟩, n, e, e1, e2, e3⟩ := p
  simp only at e1 e2 e3
  subst e1 e2 e3
  exact ⟨none, sl, n, e⟩
theorem lrun {A : Around} {R : D → D → Bool → Prop} {E : Value → Shared → Prop} {s00 : Sta} {l b : Addr} {vs ws : List V} {xs ys : List D} {r : Bool}
    (hR : ∀ (x y : D) (b : Bool) (v1 v2 : V) (u1 u2 : Value) (s0 : Sta) (s : Shared), R x y b → Inv X pins σ s0.H s → Ok X.K s0 → Rep X.K s0.G v1 x → Rep X.K s0.G v2 y → RelV v1 u1 → RelV v2 u2 → wpAny (model X.prog X.w) A (eqBool u1 u2) (fun r s' => r = b ∧ After X pins σ s0 s') E s)
    (hlen : xs.length = ys.length) : ∀ (k i : Nat), i + k = xs.length → EqS R (xs.drop i) (ys.drop i) r → ∀ {s0 : Sta} {s : Shared}, Step s00 s0 → s0.M = s00.M → Inv X pins σ s0.H s → Ok X.K s0 → s0.G l = some (.lst vs) → s0.G b = some (.lst ws) → Reps X.K s0.G vs xs → Reps X.K s0.G ws ys →
      DX.LRun X.prog X.w A E (fun r' s' => r' = r ∧ After X pins σ s00 s') l b xs.length k i s := by
  have two : ∀ {s0 : Sta} {s : Shared}, Inv X pins σ s0.H s → Ok X.K s0 → s0.G l = some (.lst vs) → s0.G b = some (.lst ws) → Reps X.K s0.G vs xs → Reps X.K s0.G ws ys →
      ∃ its jts : List Value, Vals vs its ∧ Vals ws jts ∧ DX.IsL s.heap l its.toArray ∧ DX.IsL s.heap b jts.toArray ∧ its.toArray.size = xs.length ∧ jts.toArray.size = xs.length := by
    intro s0 s I ok hl hb r1 r2
    obtain ⟨its, q1, p1, _⟩ := I.list (.inl (.of (ok.sub _ _ hl)))
    obtain ⟨jts, q2, p2, _⟩ := I.list (.inl (.of (ok.sub _ _ hb)))
    exact ⟨its, jts, q1, q2, plain_isL p1, plain_isL p2, by rw [List.size_toArray, ← q1.length, r1.length], by rw [List.size_toArray, ← q2.length, r2.length, hlen]⟩
  intro k
  induction k with
  | zero =>
    intro i hi h s0 s st e I ok hl hb r1 r2
    have e1 : xs.drop i = [] := List.drop_of_length_le (by omega)
    have e2 : ys.drop i = [] := List.drop_of_length_le (by omega)
    rw [e1, e2] at h
    have : r = true := by cases h <;> rfl
    obtain ⟨its, jts, _, _, a1, a2, a3, a4⟩ := two I ok hl hb r1 r2
    exact ⟨⟨_, _, a1, a2, a3, a4⟩, this.symm, s0, st, ok, e, I⟩
  | succ k ih =>
    intro i hi h s0 s st e I ok hl hb r1 r2
    obtain ⟨its, jts, q1, q2, a1, a2, a3, a4⟩ := two I ok hl hb r1 r2
    refine ⟨_, _, a1, a2, a3, a4, fun h1 h2 => ?_⟩
    have i1 : i < xs.length := by omega
    have i2 : i < ys.length := by omega
    rw [List.drop_eq_getElem_cons i1, List.drop_eq_getElem_cons i2] at h
    obtain ⟨v, ev, rv⟩ := r1.get (i := i) (d := xs[i]) (by simp [i1])
    obtain ⟨v', ev', rv'⟩ := r2.get (i := i) (d := ys[i]) (by simp [i2])
    obtain ⟨u, eu, ru⟩ := q1.get ev
    obtain ⟨u', eu', ru'⟩ := q2.get ev'
    have z1 : its.toArray[i] = u := by
      have e0 : its[i]? = some u := eu
      rw [List.getElem?_eq_some_iff] at e0
      obtain ⟨_, e0⟩ := e0
      simpa using e0
    have z2 : jts.toArray[i] = u' := by
      have e0 : jts[i]? = some u' := eu'
      rw [List.getElem?_eq_some_iff] at e0
      obtain ⟨_, e0⟩ := e0
      simpa using e0
    rw [z1, z2]
    cases h with
    | stop h =>
      refine wpAny_mono (hR _ _ _ _ _ _ _ _ _ h I ok rv rv' ru ru') (fun b s' z => ?_) fun _ _ x => x
      obtain ⟨rfl, z⟩ := z
      have z' := z
      obtain ⟨t, st2, ok2, hM, I2⟩ := z
      obtain ⟨its', jts', _, _, b1, b2, b3, b4⟩ := two I2 ok2 (st2.same _ _ hl) (st2.same _ _ hb) (Reps.same st2.same r1) (Reps.same st2.same r2)
      exact .inl ⟨rfl, ⟨_, _, b1, b2, b3, b4⟩, rfl, z'.step st e⟩
    | go h hh =>
      refine wpAny_mono (hR _ _ _ _ _ _ _ _ _ h I ok rv rv' ru ru') (fun b s' z => ?_) fun _ _ x => x
      obtain ⟨rfl, t, st2, ok2, hM, I2⟩ := z
      exact .inr ⟨rfl, ih (i + 1) (by omega) hh (st.trans st2) (hM.trans e) I2 ok2 (st2.same _ _ hl) (st2.same _ _ hb) (Reps.same st2.same r1) (Reps.same st2.same r2)⟩
theorem EqRun.imp {prog : Program} {w : World} {A : Around} {E : Value → Shared → Prop} {Q Q' : Bool → Shared → Prop} (hq : ∀ b s, Q b s → Q' b s) : ∀ {l : List (Value × Value)} {s : Shared}, DX.EqRun prog w A E Q l s → DX.EqRun prog w A E Q' l s
  | [], s, h => hq _ _ h
  | p :: r, s, h => wpAny_mono h (fun b s' z => z.elim (fun z => .inl ⟨z.1, hq _ _ z.2⟩) (fun z => .inr ⟨z.1, EqRun.imp hq z.2⟩)) fun _ _ x => x
/-- tuples and lists, asked by == or != -/
theorem seq_rc (neg : Bool) {j : Nat} {R : D → D → Bool → Prop} {E : Value → Shared → Prop} {x y : D} {b : Bool} {v1 v2 : V} {u1 u2 : Value} {s0 : Sta} (hu : (inJ X.A j).units < cLine)
    (hR : ∀ (x y : D) (b : Bool) (v1 v2 : V) (u1 u2 : Value) (s0 : Sta) (s : Shared), R x y b → Inv X pins σ s0.H s → Ok X.K s0 → Rep X.K s0.G v1 x → Rep X.K s0.G v2 y → RelV v1 u1 → RelV v2 u2 → wpAny (model X.prog X.w) (inJ X.A (j + 1)) (eqBool u1 u2) (fun r s' => r = b ∧ After X pins σ s0 s') E s)
    (h : EqTup R x y b ∨ EqLst R x y b) (I : Inv X pins σ s0.H s) (ok : Ok X.K s0) (r1 : Rep X.K s0.G v1 x) (r2 : Rep X.K s0.G v2 y) (q1 : RelV v1 u1) (q2 : RelV v2 u2) :
    wpAny (model X.prog X.w) (inJ X.A j) (richCompare (if neg then .NotEq else .Eq) u1 u2) (fun r s' => r = .bool (if neg then !b else b) ∧ After X pins σ s0 s') E s := by
  rcases h with ⟨xs, ys, r, rfl, rfl, hs, rfl⟩ | ⟨xs, ys, rfl, rfl, hs⟩
  · obtain ⟨l, vs, rfl, hl, rl⟩ := r1.tup_of
    obtain ⟨c, ws, rfl, hc, rc⟩ := r2.tup_of
    obtain rfl : u1 = Value.ref l := q1
    obtain rfl : u2 = Value.ref c := q2
    obtain ⟨its, w1, p1, _⟩ := I.tuple (Same.seqT ok.sub hl)
    obtain ⟨jts, w2, p2, _⟩ := I.tuple (Same.seqT ok.sub hc)
    have e1 : its.toArray.size = xs.length := by rw [List.size_toArray, ← w1.length, rl.length]
    have e2 : jts.toArray.size = ys.length := by rw [List.size_toArray, ← w2.length, rc.length]
    have run := items_run (E := E) (s00 := s0) hR hs (Step.refl s0) rfl I ok rl rc w1 w2
    cases neg with
    | false =>
      refine DX.rc_tup hu p1 p2 ?_
      refine EqRun.imp (fun b s' z => ?_) run
      obtain ⟨rfl, z⟩ := z
      rw [e1, e2]
      exact ⟨rfl, z⟩
    | true =>
      refine DX.rcn_tup hu p1 p2 ?_
      refine EqRun.imp (fun b s' z => ?_) run
      obtain ⟨rfl, z⟩ := z
      rw [e1, e2]
      exact ⟨rfl, z⟩
  · obtain ⟨l, vs, rfl, hl, rl⟩ := r1.lst_of
    obtain ⟨c, ws, rfl, hc, rc⟩ := r2.lst_of
    obtain rfl : u1 = Value.ref l := q1
    obtain rfl : u2 = Value.ref c := q2
    obtain ⟨its, w1, p1, _⟩ := I.list (.inl (.of (ok.sub _ _ hl)))
    obtain ⟨jts, w2, p2, _⟩ := I.list (.inl (.of (ok.sub _ _ hc)))
    have e1 : its.toArray.size = xs.length := by rw [List.size_toArray, ← w1.length, rl.length]
    have e2 : jts.toArray.size = ys.length := by rw [List.size_toArray, ← w2.length, rc.length]
    rcases hs with ⟨hne, rfl⟩ | ⟨hlen, hs⟩
    · cases neg with
      | false => exact DX.rc_lst hu (plain_isL p1) (plain_isL p2) (.inl ⟨by rw [e1, e2]; exact hne, rfl, After.refl ok I⟩)
      | true => exact DX.rcn_lst hu (plain_isL p1) (plain_isL p2) (.inl ⟨by rw [e1, e2]; exact hne, rfl, After.refl ok I⟩)
    · have run := lrun (E := E) (s00 := s0) (l := l) (b := c) hR hlen xs.length 0 (Nat.zero_add _) hs (Step.refl s0) rfl I ok hl hc rl rc
      cases neg with
      | false =>
        refine DX.rc_lst hu (plain_isL p1) (plain_isL p2) (.inr ⟨by rw [e1, e2]; exact hlen, ?_⟩)
        rw [e1]
        exact DX.LRun.imp (fun b s' z => ⟨by rw [z.1]; rfl, z.2⟩) (fun _ _ z => z) run
      | true =>
        refine DX.rcn_lst hu (plain_isL p1) (plain_isL p2) (.inr ⟨by rw [e1, e2]; exact hlen, ?_⟩)
        rw [e1]
        exact DX.LRun.imp (fun b s' z => ⟨by rw [z.1]; rfl, z.2⟩) (fun _ _ z => z) run
theorem eqx_run {k : Nat} {E : Value → Shared → Prop} (hO : ∀ C φ, O C φ → OwnEq X.prog X.w X.K X.mg X.base k CS C φ) : ∀ (n j : Nat), Room (k + (j + n)) X.A → ∀ (x y : D) (b : Bool) (v1 v2 : V) (u1 u2 : Value) (s0 : Sta) (s : Shared), EqX O CS n x y b → Inv X pins σ s0.H s → Ok X.K s0 → Rep X.K s0.G v1 x → Rep X.K s0.G v2 y → RelV v1 u1 → RelV v2 u2 →
    wpAny (model X.prog X.w) (inJ X.A j) (eqBool u1 u2) (fun r s' => r = b ∧ After X pins σ s0 s') E s := by
  intro n
  induction n with
  | zero => exact fun j hr x y b v1 v2 u1 u2 s0 s h I ok r1 r2 q1 q2 => leaf_eq hO hr h I ok r1 r2 q1 q2
  | succ n ih =>
    intro j hr x y b v1 v2 u1 u2 s0 s h I ok r1 r2 q1 q2
    rcases h with h | ⟨so1, so2, hsame, h⟩
    · exact leaf_eq hO (hr.mono (by omega)) h I ok r1 r2 q1 q2
    · have hr' : Room k (inJ X.A j) := room_inJ (hr.mono (by omega))
      obtain ⟨l, hl⟩ : ∃ l, v1 = .ref l := by
        rcases h with ⟨xs, ys, r, rfl, rfl, _⟩ | ⟨xs, ys, rfl, rfl, _⟩
        · obtain ⟨l, vs, rfl, _⟩ := r1.tup_of; exact ⟨l, rfl⟩
        · obtain ⟨l, vs, rfl, _⟩ := r1.lst_of; exact ⟨l, rfl⟩
      obtain ⟨c, hc⟩ : ∃ l, v2 = .ref l := by
        rcases h with ⟨xs, ys, r, rfl, rfl, _⟩ | ⟨xs, ys, rfl, rfl, _⟩
        · obtain ⟨l, vs, rfl, _⟩ := r2.tup_of; exact ⟨l, rfl⟩
        · obtain ⟨l, vs, rfl, _⟩ := r2.lst_of; exact ⟨l, rfl⟩
      subst hl hc
      obtain rfl : u1 = Value.ref l := q1
      obtain rfl : u2 = Value.ref c := q2
      by_cases e : l = c
      · subst e
        exact DX.eq_self ⟨(hsame (Rep.inj I ok.sub r1 r2 so1 so2)).symm, After.refl ok I⟩
      · refine GQ.eqBool_refG e (wpAny_mono (seq_rc false hr'.units0 (ih (j + 1) (hr.mono (by omega))) h I ok r1 r2 rfl rfl) (fun v s' z => ?_) fun _ _ x => x)
        exact ⟨_, z.1, rfl, z.2⟩
end
section
variable {X : Cx} {E : XK} {O : Addr → Ct → Prop} {CS : List Addr} {k : Nat}
/-- == and != of tuples and lists with instances in them -/
inductive EqXK (O : Addr → Ct → Prop) (CS : List Addr) (n : Nat) (neg : Bool) (x y : D) (M : Mm) (k : DK) : Prop where
  | of {r : Bool} (h : EqTup (EqX O CS n) x y r ∨ EqLst (EqX O CS n) x y r) (q : k (.bl (if neg then !r else r)) M)
  | no (h : False)
def dEqX (O : Addr → Ct → Prop) (CS : List Addr) (n : Nat) (neg : Bool) : D2 := fun x y M k _ => EqXK O CS n neg x y M k
theorem o_eqX (n : Nat) (hO : ∀ C φ, O C φ → OwnEq X.prog X.w X.K X.mg X.base k CS C φ) (hr : Room (k + (1 + n)) X.A) : OpR X (compareOp .Eq) (r2 X.K E (dEqX O CS n false)) := by
  intro pins s σ H x y u v Q I rx ry h
  obtain ⟨s0, dx, dy, kk, xx, rfl, ok, hdx, hdy, h, p, px⟩ := h
  rcases h with ⟨h, q⟩ | z
  case no => exact z.elim
  have hr' : Room k (inJ X.A 0) := room_inJ (hr.mono (by omega))
  refine wpAny_mono (seq_rc (j := 0) false hr'.units0 (eqx_run hO n 1 hr) h I ok hdx hdy rx ry) (fun r s' z => ?_) fun _ _ x => x
  obtain ⟨rfl, t, st, okt, hM, I'⟩ := z
  exact ⟨.bl _, t.H, I', rfl, p _ t (by rw [hM]; exact q) st okt _ .bl⟩
theorem o_neX (n : Nat) (hO : ∀ C φ, O C φ → OwnEq X.prog X.w X.K X.mg X.base k CS C φ) (hr : Room (k + (1 + n)) X.A) : OpR X (compareOp .NotEq) (r2 X.K E (dEqX O CS n true)) := by
  intro pins s σ H x y u v Q I rx ry h
  obtain ⟨s0, dx, dy, kk, xx, rfl, ok, hdx, hdy, h, p, px⟩ := h
  rcases h with ⟨h, q⟩ | z
  case no => exact z.elim
  have hr' : Room k (inJ X.A 0) := room_inJ (hr.mono (by omega))
  refine wpAny_mono (seq_rc (j := 0) true hr'.units0 (eqx_run hO n 1 hr) h I ok hdx hdy rx ry) (fun r s' z => ?_) fun _ _ x => x
  obtain ⟨rfl, t, st, okt, hM, I'⟩ := z
  exact ⟨.bl _, t.H, I', rfl, p _ t (by rw [hM]; exact q) st okt _ .bl⟩
/-- the two rules in one: what the data are decides -/
inductive SelX (own f : Prop) : Prop where
  | own (h : own)
  | f (h : f)
def dOr2 (f g : D2) : D2 := fun x y M k xx => SelX (f x y M k xx) (g x y M k xx)
theorem o_or2 {op : Value → Value → Sem Value} {f g : D2} (h1 : OpR X op (r2 X.K E f)) (h2 : OpR X op (r2 X.K E g)) : OpR X op (r2 X.K E (dOr2 f g)) := by
  intro pins s σ H x y u v Q I rx ry h
  obtain ⟨s0, dx, dy, kk, xx, rfl, ok, hdx, hdy, h, p, px⟩ := h
  rcases h with h | h
  · exact h1 pins s σ _ x y u v Q I rx ry ⟨s0, dx, dy, kk, xx, rfl, ok, hdx, hdy, h, p, px⟩
  · exact h2 pins s σ _ x y u v Q I rx ry ⟨s0, dx, dy, kk, xx, rfl, ok, hdx, hdy, h, p, px⟩
end
end DL
set_option Elab.async false
set_option linter.all false
set_option maxRecDepth 100000
set_option maxHeartbeats 2000000
namespace DL
open PySem PySem.Spec PyProof.Rows L2
/-- a comprehension over a changing list whose element sees the outer def's data -/
def dLcIC (τ : DE) (γ : DG) (θ : DT) (ε : DEnv → DE) (vs : List Nat) : DE := fun ρ M k x => dLcC τ γ θ (ε ρ) vs ρ M k x
theorem up_lcIC {K : PySem.W.Frag} {E : XK} {τ : DE} {g : TG} {γ : DG} {θ : DT} {ε : DEnv → DE} {vs : List Nat} {σ : L2.St} {H : Hp} {Q : VK} (gp : GPair K g γ vs) (h : up K E (dLcIC τ γ θ ε vs) σ H Q) : tLc (iList K (up K E τ)) g (upT K E0 θ) (upX K E0 ε σ) vs σ H Q := by
  obtain ⟨ρ, s, k, x, rfl, er, q, p, px⟩ := h
  refine ⟨ρ, s, _, x, rfl, er, q, fun u s1 q1 st1 ok1 v1 r1 => ?_, px⟩
  obtain ⟨a, ds, rfl, hm, q1⟩ := q1
  have hv := r1.cel_of
  subst hv
  rcases q1 with ⟨hlen, I, i0, keep, turn, fin⟩ | z
  case no => exact z.elim
  have at_ : ∀ t : Sta, Ok K t → t.M a = some (.lst ds) → ∃ us, SqL K t.H a us ∧ Reps K t.G us ds := fun t ok hm => by
    obtain ⟨us, e, r⟩ := ok.cells _ _ hm
    exact ⟨us, SqL.of e, r⟩
  obtain ⟨us0, hq0, _⟩ := at_ s1 ok1 hm
  refine ⟨a, rfl, ⟨us0, hq0⟩, ?_⟩
  intro L hL
  have inv0 : ∃ (acc : List D) (vs' : List V) (s' : Sta), s'.H = upd s1.H L (.lst []) ∧ Ok K s' ∧ Step s1 s' ∧ s'.G L = none ∧ s'.M L = none ∧ s'.H L = some (.lst vs') ∧ Reps K s'.G vs' acc ∧ acc.length ≤ 0 ∧ I 0 acc s'.M := by
    obtain ⟨k1, st⟩ := ok1.hide (o := .lst []) (Step.refl s1) hL (ok1.freeG hL) (ok1.freeM hL)
    exact ⟨[], [], ⟨_, _, _⟩, rfl, k1, st, ok1.freeG hL, ok1.freeM hL, upd_same, .nil, Nat.le_refl _, i0⟩
  refine ⟨fun j m H' => m = ds.length - j ∧ j ≤ ds.length ∧ ∃ (acc : List D) (vs' : List V) (s' : Sta), s'.H = H' ∧ Ok K s' ∧ Step s1 s' ∧ s'.G L = none ∧ s'.M L = none ∧ s'.H L = some (.lst vs') ∧ Reps K s'.G vs' acc ∧ acc.length ≤ j ∧ I j acc s'.M,
    ⟨ds.length, rfl, Nat.zero_le _, inv0⟩, ?_⟩
  rintro j m H' ⟨rfl, hj, acc, vs', s', rfl, ok', st', gL, mL, hL', rs, hal, ij⟩
  obtain ⟨us, hq, ru⟩ := at_ s' ok' (keep j acc s'.M ij)
  have hul := ru.length
  by_cases hlt : j < ds.length
  · refine .inr ⟨⟨us, us[j]'(by omega), hq, by simp [hul ▸ hlt]⟩, fun H2 => ∃ (acc : List D) (vs' : List V) (s' : Sta), s'.H = H2 ∧ Ok K s' ∧ Step s1 s' ∧ s'.G L = none ∧ s'.M L = none ∧ s'.H L = some (.lst vs') ∧ Reps K s'.G vs' acc ∧ acc.length ≤ j + 1 ∧ I (j + 1) acc s'.M,
      fun H2 z => ⟨ds.length - (j + 1), by omega, rfl, hlt, z⟩, fun v H2 y => ?_⟩
    obtain ⟨d, hd⟩ : ∃ d, ds[j]? = some d := ⟨ds[j], by simp [hlt]⟩
    obtain ⟨eH, y⟩ := y
    subst eH
    obtain ⟨v', hv', rv⟩ := ru.get hd
    have y := y us hq
    rw [hv'] at y
    cases y
    have erX : ER K s' σ ρ := er.step (st1.trans st') ok'
    have eru : ER K s' (wipe σ vs) (wipeD ρ vs) := erX.wipe vs
    refine gp.run _ d _ _ s' _ _ eru rv (turn j d acc s'.M hd ij) fun ρ3 σ3 q3 er3 w3 => ⟨w3.trans (wipe_wipe σ vs), ?_⟩
    refine ⟨ρ3, s', _, _, rfl, er3, q3, fun b s4 q4 st4 ok4 => ?_, PostX.never⟩
    obtain ⟨hL4, gL4, mL4⟩ := st4.hid L _ hL' gL mL
    cases b with
    | true =>
      rw [if_pos rfl] at q4 ⊢
      refine ⟨ρ, ρ3, s4, _, _, rfl, erX.step st4 ok4, er3.step st4 ok4, q4, fun yd s5 q5 st5 ok5 yv ry => ?_, PostX.never⟩
      obtain ⟨hL5, gL5, mL5⟩ := st5.hid L _ hL4 gL4 mL4
      have rs5 : Reps K s5.G vs' acc := rs.same (st4.trans st5).same
      refine ⟨vs', hL5, by rw [rs5.length]; omega, ?_⟩
      obtain ⟨k6, st6⟩ := ok5.hide (o := .lst (vs' ++ [yv])) ((st'.trans st4).trans st5) hL gL5 mL5
      exact ⟨acc ++ [yd], vs' ++ [yv], ⟨_, _, _⟩, rfl, k6, st6, gL5, mL5, upd_same, rs5.append (.cons ry .nil), by simp; omega, q5⟩
    | false =>
      rw [if_neg Bool.false_ne_true] at q4 ⊢
      exact ⟨acc, vs', s4, rfl, ok4, st'.trans st4, gL4, mL4, hL4, rs.same st4.same, by omega, q4⟩
  · have ej : j = ds.length := by omega
    subst ej
    refine .inl ⟨⟨us, hq, by omega⟩, ?_⟩
    obtain ⟨k6, st6, sm⟩ := ok'.shown st' hL gL mL hL'
    exact p _ ⟨s'.H, upd s'.G L (.lst vs'), s'.M⟩ (fin acc s'.M ij) (st1.trans st6) k6 _ (.lst upd_same (rs.same sm))
section
variable {X : Cx} {E : XK} {elt tg e : Expr} {ifs : List Expr} {scope : Scope} {own : List (Str × Nat)} {pos : Pos} {τ : DE} {g : TG} {γ : DG} {θ : DT} {ε : DEnv → DE}
theorem d_lcIC (hc : X.calm = true) (hN : X.N.Nodup) (hi : DP X E e τ) (ok : BlkOk X.N X.env.scope scope own) (gp : GPair X.K g γ (own.map (·.2)))
    (hg : ∀ (s : Shared) (H : Hp) (C : Addr) (cl : List (Str × Addr)) (fp : List Addr), PG (X.blk s H scope (compEnvC scope cl C X.env) fp) tg g) (ht : ∀ (s : Shared) (H : Hp) (C : Addr) (cl : List (Str × Addr)) (fp : List Addr), DPTs (X.blk s H scope (compEnvC scope cl C X.env) fp) E0 ifs θ)
    (he : ∀ (pins : List (Addr × Obj)) (σ : L2.St) (s : Shared) (H : Hp) (C : Addr) (cl : List (Str × Addr)) (fp : List Addr), (∀ (pins' : List (Addr × Obj)) (σ' : L2.St) (H' : Hp) (s' : Shared), Inv (X.blk s H scope (compEnvC scope cl C X.env) fp) pins' σ' H' s' → Inv X pins σ H' s') → PE (X.blk s H scope (compEnvC scope cl C X.env) fp) elt (upX X.K E0 ε σ))
    (hs : ∀ x, foldedSetIterable e X.env x = pure x := by intro _; rfl) :
    DP X E (.ListComp elt [⟨tg, e, ifs, 0⟩] scope pos) (dLcIC τ γ θ ε (own.map (·.2))) := pe_mono (pe_lcI (tt := upT X.K E0 θ) (te := upX X.K E0 ε) hc hN (pi_list hi) ok hg ht he hs) fun _ _ _ h => up_lcIC gp h
end
/-- a comprehension over a changing list, item by item -/
def lcC (γ : DG) (ε : DE) (vs : List Nat) (ρ : DEnv) (a : Addr) (ds0 : List D) : List D → List D → Mm → DK → Prop
  | [], acc, M, k => k (.lst acc) M
  | d :: ds, acc, M, k => γ d (wipeD ρ vs) M fun ρ1 M2 => ε ρ1 M2 (fun y M4 => M4 a = some (.lst ds0) ∧ lcC γ ε vs ρ a ds0 ds (acc ++ [y]) M4 k) (fun _ _ _ => False)
theorem lcC_unroll {γ : DG} {ε : DE} {vs : List Nat} {ρ : DEnv} {a : Addr} {ds : List D} {M : Mm} {k : DK} (hl : ds.length < sizeLine) (hm : M a = some (.lst ds)) (gm : ∀ d M (K K' : DEnv → Mm → Prop), (∀ ρ M, K ρ M → K' ρ M) → γ d (wipeD ρ vs) M K → γ d (wipeD ρ vs) M K') (h : lcC γ ε vs ρ a ds ds [] M k) : LcKC γ dYes ε vs ρ a ds M k := by
  refine .of hl (fun j acc M => M a = some (.lst ds) ∧ lcC γ ε vs ρ a ds (ds.drop j) acc M k) ⟨hm, h⟩ (fun _ _ _ h => h.1) (fun j d acc M hd h => ?_) (fun acc M h => ?_)
  · have e : ds.drop j = d :: ds.drop (j + 1) := by
      obtain ⟨hj, e⟩ := List.getElem?_eq_some_iff.mp hd
      rw [List.drop_eq_getElem_cons hj, e]
    rw [e] at h
    refine gm _ _ _ _ (fun ρ1 M1 q => ?_) h.2
    unfold dYes
    dsimp only
    rw [if_pos rfl]
    exact q
  · rw [List.drop_of_length_le (Nat.le_refl _)] at h
    exact h.2
theorem lcCN {i : Nat} {ε : DE} {vs : List Nat} {ρ : DEnv} {a : Addr} {ds : List D} {M : Mm} {k : DK} (hl : ds.length < sizeLine) (hm : M a = some (.lst ds)) (h : lcC (gN i) ε vs ρ a ds ds [] M k) : LcKC (gN i) dYes ε vs ρ a ds M k := lcC_unroll hl hm (fun d M K K' => gN_mono' K K') h
/-! ### the end with several tables of code objects -/
theorem walk_DTs {l : PySem.W.OpenLaw} {k : Nat} {q : Program} {loose : List Str} {XP : (Str → Option Value) → Heap → Prop} {YP : World → Heap → Prop} {d : DefRec} {K : Params → PySem.W.Frag} {φ : List Addr → Ct} {x : Str} (qs : List Str)
    (hn : l.most = some 63) (hdf : d.params.defaults = []) (hr : Room k callerA)
    (hφ : ∀ (Ps : List Addr) (ns : List Int) (M : Mm) (kk : DK) (xx : DX), ns.length ≤ 63 → (∀ z ∈ ns, Builtin.Int.intBits z ≤ 1048576) → Ps.Nodup → Ps.length = qs.length → (∀ (i : Nat) (P : Addr) (q0 : Str), Ps[i]? = some P → qs[i]? = some q0 → M P = some (.tbl q0)) → (∀ a, a ∉ Ps → M a = none) → (∀ M', kk (.bl true) M') → φ Ps [.scr ns] M kk xx)
    (hY : ∀ (w : World) (h : Heap), YP w h → (K w.params).In h)
    (F : ∀ (w : World) (mg : Str → Option Value) (fa : Addr) (h : Heap), (K w.params).In h → h.Ns mainGlobals mg → mg d.name = some (.ref fa) →
      ∃ (fd : FuncData) (cs : List (Addr × Addr)), (cs.map (·.2)).Nodup ∧ cs.length = qs.length ∧
        (∀ p ∈ cs, (K w.params).lookup p.2 = none ∧ PySem.W.codeHdIn (K w.params) p.1 p.2 = true ∧ ∃ (nm : Str) (f : Addr) (o : Obj) (fd : FuncData) (e : Value) (dd : Option Addr) (vs : Array Value) (sl : Array (Option Value)), ((recsOf q).any fun e => e.name == nm) = true ∧ mg nm = some (.ref f) ∧ (K w.params).lookup f = some o ∧ o.data = .func fd ∧ fd.code = .ref p.1 ∧ (K w.params).lookup p.1 = some ⟨e, dd, .fields vs, sl⟩ ∧ vs[11]? = some (.ref p.2)) ∧
        (∀ (s : Shared) (u : Value), BindsTo s fd ⟨[u], []⟩ [(x, u)]) ∧
        ∀ base : Heap, (K w.params).In base → base.Ns mainGlobals mg → (∀ p ∈ cs, LamX.TabB base mg p.1 p.2) → FnOk l.prog w (K w.params) mg base (L2.CX l.prog w) k fa fd [x] (spD (K w.params) 1 (φ (cs.map (·.2))))) :
    PySem.W.WalkO q loose XP YP l.row.toRowW d [] (fun f vs => PySem.call f vs) := by
  refine Att.attach_callB hn hdf fun w s₀ s₁ mg mb fa o pm cd doc a vs ns G Y ho hd hcd hmg hobj hints hlen hbits hg => ?_
  have KX := hY w _ Y
  obtain ⟨fd, cs, hnd, hcl, hcs, hb, hF⟩ := F w mg fa s₁.heap KX G.T.g hmg
  have hP : ∀ p ∈ cs, s₁.heap.get? p.2 = some { cls := .none, data := .fields #[] } := fun p hp => by
    obtain ⟨_, _, nm, f, o1, fd1, e, dd, vs1, sl, hrec, hm, k1, k2, k3, k4, k5⟩ := hcs p hp
    obtain ⟨dL, hm', hn1⟩ := List.any_eq_true.mp hrec
    have hn2 : dL.name = nm := beq_iff_eq.mp hn1
    obtain ⟨a', o', fd', c', P', h1, h2, h3, h4, h5, h6⟩ := G.T.tab dL hm'
    rw [hn2, hm] at h1
    cases h1
    have g1 := KX _ _ k1
    rw [g1] at h2
    cases h2
    rw [k2] at h3
    cases h3
    rw [k3] at h4
    cases h4
    obtain ⟨⟨oc, vc, e1, _, e3, e4⟩, hP⟩ := h6
    have g2 := KX _ _ k4
    rw [g2] at e1
    cases e1
    cases e3
    rw [k5] at e4
    cases e4
    exact hP
  refine LamX.law_callTs (sp := spD (K w.params) 1 (φ (cs.map (·.2)))) (x := x) (cs := cs) KX G.T.g G.T.b G.T.builtins G.T.nolimit hg hP (fun p hp => (hcs p hp).1) (fun p hp => PySem.W.codeHd_of_K KX (hcs p hp).2.1) G.T.bmain hobj hints (Nat.le_trans hlen (by decide)) hr hF hb (fun H hT hS => ?_) fun H e s' h => by
    obtain ⟨_, _, _, _, _, _, _, _, _, _, _, _, z⟩ := h
    exact z
  -- the state: the tables change, the rest stays
  let tb : Addr → Option MO := fun b => ((cs.map (·.2)).zip qs).lookup b |>.map MO.tbl
  have tb_none : ∀ b, b ∉ cs.map (·.2) → tb b = none := fun b hb => by
    have : ((cs.map (·.2)).zip qs).lookup b = none := by
      rw [List.lookup_eq_none_iff]
      intro p hp
      have : p.1 ∈ cs.map (·.2) := (List.of_mem_zip hp).1
      simp only [bne_iff_ne, ne_eq, beq_eq_false_iff_ne]
      intro e
      exact hb (e ▸ this)
    show (List.lookup b _).map MO.tbl = none
    rw [this]; rfl
  have look : ∀ (Ps : List Addr) (qs : List Str), Ps.Nodup → ∀ (i : Nat) (P : Addr) (q0 : Str), Ps[i]? = some P → qs[i]? = some q0 → (Ps.zip qs).lookup P = some q0 := by
    intro Ps
    induction Ps with
    | nil => intro qs _ i P q0 h; simp at h
    | cons A Ps ih =>
      intro qs hnd i P q0 h1 h2
      cases qs with
      | nil => simp at h2
      | cons B qs =>
        cases i with
        | zero =>
          simp at h1 h2
          subst h1 h2
          simp [List.lookup_cons]
        | succ i =>
          simp only [List.getElem?_cons_succ] at h1 h2
          have hne : P ≠ A := fun e => by
            rw [e] at h1
            exact (List.nodup_cons.mp hnd).1 (List.mem_of_getElem? h1)
          rw [List.zip_cons_cons, List.lookup_cons, beq_false_of_ne hne]
          exact ih qs (List.nodup_cons.mp hnd).2 i P q0 h1 h2
  have eT : ∀ b mo, tb b = some mo → ∃ q0, mo = .tbl q0 ∧ H b = some (.tbl #[]) ∧ b ∈ cs.map (·.2) := fun b mo z => by
    by_cases hb : b ∈ cs.map (·.2)
    · obtain ⟨p, hp, rfl⟩ := List.mem_map.mp hb
      have z' : (List.lookup p.2 ((cs.map (·.2)).zip qs)).map MO.tbl = some mo := z
      cases hq : List.lookup p.2 ((cs.map (·.2)).zip qs) with
      | none => rw [hq] at z'; cases z'
      | some q0 =>
        rw [hq] at z'
        cases z'
        exact ⟨q0, rfl, hT p hp, hb⟩
    · rw [tb_none b hb] at z; cases z
  have ne : ∀ u, H a = some u → (∀ ps, u ≠ .tbl ps) → a ∉ cs.map (·.2) := fun u e1 e2 z => by
    obtain ⟨p, hp, z2⟩ := List.mem_map.mp z
    rw [← z2, hT p hp] at e1
    exact e2 _ (Option.some.inj e1).symm
  have hG : ∀ u, H a = some u → (∀ ps, u ≠ .tbl ps) → (fun b => if b ∈ cs.map (·.2) then none else H b : Hp) a = some u := fun u e1 e2 => by
    show (if a ∈ cs.map (·.2) then none else H a) = some u
    rw [if_neg (ne u e1 e2)]
    exact e1
  have hS2 : SqL (K w.params) (fun b => if b ∈ cs.map (·.2) then none else H b) a (ns.map V.int) := by
    rcases hS with (z | ⟨o2, z⟩) | z
    · exact .inl (.inl (hG _ z fun ps y => by cases y))
    · exact .inl (.inr ⟨o2, hG _ z fun ps y => by cases y⟩)
    · exact .inr z
  refine ⟨⟨H, fun b => if b ∈ cs.map (·.2) then none else H b, tb⟩, [.scr ns], fun d _ => d = .bl true, fun _ _ _ => False, rfl, ⟨fun b u z => ?_, fun b mo z => ?_, fun b mo z => ?_⟩, .cons (.scr hS2) .nil, rfl,
    hφ (cs.map (·.2)) ns _ _ _ hlen hbits hnd (by rw [List.length_map]; exact hcl) (fun i P q0 h1 h2 => ?_) (fun b hb => tb_none b hb) (fun _ => rfl), fun d t e _ _ v r => by subst e; cases r; rfl, fun C fs t h => h.elim⟩
  · have z' : (if b ∈ cs.map (·.2) then none else H b) = some u := z
    split at z'
    · cases z'
    · exact z'
  · obtain ⟨_, _, _, hb⟩ := eT b mo z
    show (if b ∈ cs.map (·.2) then none else H b) = none
    rw [if_pos hb]
  · obtain ⟨q0, rfl, eP, _⟩ := eT b mo z
    show MRep _ _ (H b) _
    rw [eP]
    exact ⟨#[], rfl, True.intro, fun pos cv hc => by simp [codeAmong] at hc⟩
  · show (List.lookup P _).map MO.tbl = some _
    rw [look _ _ hnd i P q0 h1 h2]
    rfl
end DL
set_option Elab.async false
set_option linter.all false
set_option maxRecDepth 100000
set_option maxHeartbeats 2000000
namespace DL
open PySem PySem.Spec PyProof.Rows L2
section
variable {X : Cx} {CX : CXT} {E : XK} {k nn : Nat} {f C : Addr} {mc : Value} {fd : FuncData} {ps ks : List Str} {φ : Ct} {x m : Str} {pos apos : Pos} {kws : List Keyword} {ακ : DA} {gD : List D → List D → List D}
/-- C.m(y=..), a static method, keywords alone -/
theorem d_smeth0 {pl : Sem Bool} {p1 : Pos} (r : ClX.CRead X.K C mc) (c : ∃ pp, CSta X.K C mc m pp f) (F : FnOk X.prog X.w X.K X.mg X.base CX k f fd ps (spD X.K nn φ)) (hr : Room k X.A) (hg : Gl X x) (hm : X.mg x = some (.ref C)) (hb : KBd X.K fd ps 0 ks gD) (hgl : ∀ us ws : List D, us.length = 0 → ws.length = ks.length → (gD us ws).length = nn) (hx : Passes CX X E)
    (hkw : DPK X E kws ακ) (hall : (backToKw pos (keywordEach kws X.env)).all (·.1.isSome) = true := by rfl) (hks : (backToKw pos (keywordEach kws X.env)).filterMap (·.1) = ks := by rfl)
    (hdb : (x == ("__debug__" : Str)) = false := by decide)
    (hpl : ((backTo pos (starEach [] X.env)).any (·.1) || (backToKw pos (keywordEach kws X.env)).any (·.1.isNone)) = false := by rfl)
    (ht : eval (.Call (.Attribute (.Name x p1) m apos) [] kws pos) X.env = (do
      let ov ← eval (.Name x p1) X.env
      standAt apos.atName
      let (f, first) ← holding [ov] (getMethod ov m pl)
      callWith pos f first (backTo pos (starEach [] X.env)) (backToKw pos (keywordEach kws X.env))) := by rfl) :
    DP X E (.Call (.Attribute (.Name x p1) m apos) [] kws pos) (dCallK 0 ks.length φ gD dNil ακ) := by
  refine ⟨fun pins s σ H Q I h => ?_⟩
  obtain ⟨ρ, s0, kk, xx, rfl, er, q, ppp, px⟩ := h
  obtain ⟨pp, c⟩ := c
  refine PySem.W.methodCall_KW (pl := pl) (ld_glob I hg hm ?_ hdb) ht
  obtain ⟨rest, hp⟩ := c.rc
  refine PySem.W.method_cls I.kIn r.ga ?_
  refine PySem.W.cls_bind I.kIn r.rd c.at_ ?_
  refine wpAny_call (PySem.W.sm_get (s := { s with toks := s.toks + 1 }) I.kIn hp (PySem.W.handed_on rfl ?_))
  have I0 : Inv X pins σ s0.H { s with toks := s.toks + 1 } := I.tok _
  refine PySem.W.callWith_KW0 (first := []) (h₀ := X.base) I.ok.mod.kin c.kp hall ?_ hpl
  refine thn (hkw.run pos pins _ σ s0.H (fun zs H2 => ∃ s3 zd, s3.H = H2 ∧ Ok X.K s3 ∧ Step s0 s3 ∧ Reps X.K s3.G zs zd ∧ zd.length = ks.length ∧ φ (gD [] zd) s3.M kk xx) I0 ⟨ρ, s0, _, xx, rfl, er, q, fun zd s3 q3 st3 ok3 zs r3 => ⟨s3, zd, rfl, ok3, st3, r3, q3.2⟩, px⟩) fun ws s3 ⟨zs, H2, I2, rz, s4, zd, e4, ok4, st4, r4, l5, q4⟩ => ⟨I2.kIn, ?_⟩
  subst e4
  rw [hks]
  exact run_D (us := []) (vs := []) F hr hb hx I2 .nil rz ⟨s4, [], zd, kk, xx, rfl, ok4, .nil, r4, rfl, l5, hgl _ _ rfl l5, q4, ppp.step st4, px.step st4⟩
end
/-- x, y, z = a, b, c -/
def dPar3 (i j l : Nat) (α : DA) : DS := fun k x ρ M => α ρ M (fun us M1 => ∃ u v w, us = [u, v, w] ∧ k.nx (((ρ.set i (some u)).set j (some v)).set l (some w)) M1) x
theorem s_par3 {X : Cx} {E : XK} {αa : DA} {i j l : Nat} {x y z : Str} {a b c : Expr} {px py pz pt pos : Pos} {kt k2 pt2} (hc : X.calm = true) (hN : X.N.Nodup) (hi : X.N[i]? = some x) (hj : X.N[j]? = some y) (hl : X.N[l]? = some z) (hij : i ≠ j) (hil : i ≠ l) (hjl : j ≠ l)
    (hx : X.env.scope.names.lookup x = some .local) (hy : X.env.scope.names.lookup y = some .local) (hz : X.env.scope.names.lookup z = some .local) (ha : DPA X E [a, b, c] αa)
    (hw : swappedStores [.Tuple [.Name x px, .Name y py, .Name z pz] kt pt] (.Tuple [a, b, c] k2 pt2) X.env = pure (some [x, y, z]))
    (hs : swapsWithSole [.Tuple [.Name x px, .Name y py, .Name z pz] kt pt] (.Tuple [a, b, c] k2 pt2) pos.line X.env = pure false := by rfl) :
    DPS X E (.Assign [.Tuple [.Name x px, .Name y py, .Name z pz] kt pt] (.Tuple [a, b, c] k2 pt2) pos) (dPar3 i j l αa) := ps_mono (ps_par3 hc hN hi hj hl hij hil hjl hx hy hz ha hw hs) fun D σ H h => by
  obtain ⟨ρ, s, k, x, rfl, er, q, p, px⟩ := h
  refine ⟨ρ, s, _, x, rfl, er, q, fun us s1 q1 st1 ok1 vs r1 => ?_, px⟩
  obtain ⟨u, v, w, rfl, q1⟩ := q1
  cases r1 with
  | cons ru r1 =>
    cases r1 with
    | cons rv r1 =>
      cases r1 with
      | cons rw' r1 =>
        cases r1
        exact ⟨_, _, _, rfl, p.nx _ s1 q1 st1 _ ((((er.step st1 ok1).set i ru).set j rv).set l rw')⟩
end DL
set_option Elab.async false
set_option linter.all false
set_option maxRecDepth 100000
set_option maxHeartbeats 2000000
namespace DL
open PySem PySem.Spec PyProof.Rows L2
section
variable {X : Cx} {E : XK} {elt tg iter e : Expr} {ifs : List Expr} {scope : Scope} {own : List (Str × Nat)} {pos spos py : Pos} {ι : DI} {τ : DE} {g : TG} {γ : DG} {θ : DT} {ε : DEnv → DE} {i : Nat} {y : Str}
/-- y = [..], the element sees the outer def's hold -/
theorem ps_setI {wi : TI} {tt : TT} {te : L2.St → TE} (hc : X.calm = true) (hN : X.N.Nodup) (hy : X.N[i]? = some y) (hyl : X.env.scope.names.lookup y = some .local) (sw : swapsWith (.ListComp elt [⟨tg, iter, ifs, 0⟩] scope pos) (some (.Name y py)) spos.line X.env = pure true) (hi : PI X tg iter wi) (ok : BlkOk X.N X.env.scope scope own)
    (hg : ∀ (s : Shared) (H : Hp) (C : Addr) (cl : List (Str × Addr)) (fp : List Addr), PG (X.blk s H scope (compEnvC scope cl C X.env) fp) tg g) (ht : ∀ (s : Shared) (H : Hp) (C : Addr) (cl : List (Str × Addr)) (fp : List Addr), PTs (X.blk s H scope (compEnvC scope cl C X.env) fp) ifs tt)
    (he : ∀ (pins : List (Addr × Obj)) (σ : L2.St) (s : Shared) (H : Hp) (C : Addr) (cl : List (Str × Addr)) (fp : List Addr), (∀ (pins' : List (Addr × Obj)) (σ' : L2.St) (H' : Hp) (s' : Shared), Inv (X.blk s H scope (compEnvC scope cl C X.env) fp) pins' σ' H' s' → Inv X pins σ H' s') → PE (X.blk s H scope (compEnvC scope cl C X.env) fp) elt (te σ))
    (hs : ∀ x, foldedSetIterable iter X.env x = pure x) : PS X (.Assign [.Name y py] (.ListComp elt [⟨tg, iter, ifs, 0⟩] scope pos) spos) (fun D σ H => tLc wi g tt (te σ) (own.map (·.2)) σ H fun x H1 => gName i x σ H1 D.nx) := by
  refine ⟨fun pins s σ H D I q0 => ?_⟩
  rw [exec_Assign_Name_used _ _ _ _ sw]
  refine wpAny_bind (wpAny_standAt (wpAny_bind (wpAny_bind (thn (Q := fun _ s' => SP X pins D .next s') (lc_in (Qf := fun _ s' => SP X pins D .next s') hc hN I hi ok hg ht (fun s H C cl fp back => he pins σ s H C cl fp back) hs q0 fun L C s' m H' I' q hn f => ?_) fun _ s' hq => wpAny_pure (wpAny_pure hq)))))
  have st : wpAny (model X.prog X.w) X.A (assign (.Name y py) X.env (.ref L)) (fun u s1 => ∃ m, s1.heap.Ns C m ∧ ∀ h3, Heap.SameBut C s1.heap h3 → SP X pins D .next { s1 with heap := h3 }) X.xe s' := by
    refine wpAny_assign_Name (store_ok2 (v := V.ref L) I' hN hy (.inl hyl) rfl (fun s2 I2 ha0 => ?_) (.inr hyl))
    obtain ⟨a, sb, ha⟩ := ha0
    obtain ⟨f0, f1, f2, f3, f4, f5⟩ := f
    have ne : C ≠ a := ha.elim (fun z => by rw [z]; exact f1) (fun z w => f4 y a z w.symm)
    exact ⟨m, hn.sameBut sb ne, fun h3 sb3 => ⟨_, H', I2.turned (t' := s2.toks) (fun b o hb e => (sb3.2 b hb).trans e) f0 f1 f3 f4 f5, q⟩⟩
  exact st
theorem s_setLcI (hc : X.calm = true) (hN : X.N.Nodup) (hy : X.N[i]? = some y) (hyl : X.env.scope.names.lookup y = some .local) (sw : swapsWith (.ListComp elt [⟨tg, iter, ifs, 0⟩] scope pos) (some (.Name y py)) spos.line X.env = pure true) (hi : DPI X E tg iter ι) (ok : BlkOk X.N X.env.scope scope own) (gp : GPair X.K g γ (own.map (·.2)))
    (hg : ∀ (s : Shared) (H : Hp) (C : Addr) (cl : List (Str × Addr)) (fp : List Addr), PG (X.blk s H scope (compEnvC scope cl C X.env) fp) tg g) (ht : ∀ (s : Shared) (H : Hp) (C : Addr) (cl : List (Str × Addr)) (fp : List Addr), DPTs (X.blk s H scope (compEnvC scope cl C X.env) fp) E0 ifs θ)
    (he : ∀ (pins : List (Addr × Obj)) (σ : L2.St) (s : Shared) (H : Hp) (C : Addr) (cl : List (Str × Addr)) (fp : List Addr), (∀ (pins' : List (Addr × Obj)) (σ' : L2.St) (H' : Hp) (s' : Shared), Inv (X.blk s H scope (compEnvC scope cl C X.env) fp) pins' σ' H' s' → Inv X pins σ H' s') → PE (X.blk s H scope (compEnvC scope cl C X.env) fp) elt (upX X.K E0 ε σ))
    (hs : ∀ x, foldedSetIterable iter X.env x = pure x := by intro _; rfl) :
    DPS X E (.Assign [.Name y py] (.ListComp elt [⟨tg, iter, ifs, 0⟩] scope pos) spos) (dSet i (dLcI ι γ θ ε (own.map (·.2)))) := ps_mono (ps_setI (tt := upT X.K E0 θ) (te := upX X.K E0 ε) hc hN hy hyl sw hi ok hg ht he hs) fun D σ H h => by
  obtain ⟨ρ, s, k, x, rfl, er, q, p, px⟩ := h
  exact up_lcI gp ⟨ρ, s, _, x, rfl, er, q, fun u s1 q1 st1 ok1 v1 r1 => p.nx _ s1 q1 st1 _ ((er.step st1 ok1).set i r1), px⟩
theorem s_setLcIC (hc : X.calm = true) (hN : X.N.Nodup) (hy : X.N[i]? = some y) (hyl : X.env.scope.names.lookup y = some .local) (sw : swapsWith (.ListComp elt [⟨tg, e, ifs, 0⟩] scope pos) (some (.Name y py)) spos.line X.env = pure true) (hi : DP X E e τ) (ok : BlkOk X.N X.env.scope scope own) (gp : GPair X.K g γ (own.map (·.2)))
    (hg : ∀ (s : Shared) (H : Hp) (C : Addr) (cl : List (Str × Addr)) (fp : List Addr), PG (X.blk s H scope (compEnvC scope cl C X.env) fp) tg g) (ht : ∀ (s : Shared) (H : Hp) (C : Addr) (cl : List (Str × Addr)) (fp : List Addr), DPTs (X.blk s H scope (compEnvC scope cl C X.env) fp) E0 ifs θ)
    (he : ∀ (pins : List (Addr × Obj)) (σ : L2.St) (s : Shared) (H : Hp) (C : Addr) (cl : List (Str × Addr)) (fp : List Addr), (∀ (pins' : List (Addr × Obj)) (σ' : L2.St) (H' : Hp) (s' : Shared), Inv (X.blk s H scope (compEnvC scope cl C X.env) fp) pins' σ' H' s' → Inv X pins σ H' s') → PE (X.blk s H scope (compEnvC scope cl C X.env) fp) elt (upX X.K E0 ε σ))
    (hs : ∀ x, foldedSetIterable e X.env x = pure x := by intro _; rfl) :
    DPS X E (.Assign [.Name y py] (.ListComp elt [⟨tg, e, ifs, 0⟩] scope pos) spos) (dSet i (dLcIC τ γ θ ε (own.map (·.2)))) := ps_mono (ps_setI (tt := upT X.K E0 θ) (te := upX X.K E0 ε) hc hN hy hyl sw (pi_list hi) ok hg ht he hs) fun D σ H h => by
  obtain ⟨ρ, s, k, x, rfl, er, q, p, px⟩ := h
  exact up_lcIC gp ⟨ρ, s, _, x, rfl, er, q, fun u s1 q1 st1 ok1 v1 r1 => p.nx _ s1 q1 st1 _ ((er.step st1 ok1).set i r1), px⟩
end
end DL
set_option Elab.async false
set_option linter.all false
set_option maxRecDepth 100000
set_option maxHeartbeats 2000000
namespace DX
open PySem PySem.Calls PySem.NumText PyProof.Rows PySem.W
/-- a name that a table of the written part lacks -/
theorem ns_lack {K : Frag} {h : Heap} {a : Addr} {m : Str → Option Value} {n : Str} (X : K.In h) (G : h.Ns a m) (e : nsIn K a n = some none) : m n = none := by
  obtain ⟨o, es, ep, ho, hd, hk, hf⟩ := G
  cases q : K.lookup a with
  | none =>
    unfold nsIn at e
    rw [q] at e
    cases e
  | some u =>
    have z := X _ _ q
    rw [ho] at z
    cases z
    obtain ⟨c, d, dt, sl⟩ := o
    have hd : dt = .dict es ep := hd
    subst hd
    unfold nsIn at e
    rw [q] at e
    simp only at e
    cases w : es.toList.find? (·.key.isStr n) with
    | some y => rw [w] at e; cases e
    | none =>
      rw [← hf n]
      unfold nsFind findBy
      rw [← Array.find?_toList, w]
      rfl
section
variable {M : Model} {A : Around} {E : Value → Shared → Prop} {s : Shared} {Q : Value → Shared → Prop}
/-- a text of figures of any length up to the limit -/
theorem wp_textB {v : Value} {text : List Nat} {n : Int} (hn : s.heap.NoDigits) (hs : ¬ (text.takeWhile (· != 0)).length ≤ 640) (hr : (int_private% "readNumeral") 4300 10 (text.takeWhile (· != 0)) = (int_private% "Numeral.value") n)
    (ha : ((text.takeWhile (· != 0)).length == text.length) = true) (h : Q (.int n s.toks) { s with toks := s.toks + 1 }) : wpAny M A ((int_private% "intFromText") v text 10) Q E s := by
  obtain ⟨mc, hns, hno⟩ := hn
  obtain ⟨hp, g, d, tk, os⟩ := s
  repeat (any_goals (first
    | assumption
    | (with_reducible refine wpAny_ite_false (decide_eq_false hs) ?_)
    | (with_reducible refine wpAny_ite_true (decide_eq_true ha) ?_)
    | (with_reducible refine wpAny_nsGet hns ?_)
    | wp_step))
  all_goals (try rw [hno])
  refine wpAny_pure ?_
  dsimp only
  rw [hr]
  dsimp only
  rw [if_pos ha]
  repeat (any_goals (first | assumption | wp_step))
set_option maxHeartbeats 4000000 in
theorem meets_textB {x : PySem.Str} {u : Tok} {n : Int} {prog : Program} {w : World} {R : Result → Shared → Prop} (hd : s.heap.NoDigits) (hl : x.length ≤ sizeLine) (hx : ¬ (numSeenOf x).length ≤ 640) (hn : PySem.intText? x = some n) (h : R (.ok (.ret (.int n s.toks))) { s with toks := s.toks + 1 }) :
    wpAny (model prog w) A.in1 (Builtin.«int.__new__» ⟨[.type "int", .str x u], []⟩) (GQ.FinOf prog w A R) (fun e s' => R (.error e) s') s := by
  have f1 := F.conv_sub_int
  have f2 := F.madeHere_int
  have f3 := KIN.str_int
  have f4 := KIN.str_idx
  have f5 := KIN.str_trunc
  have f6 : typeOf (.str x u) = pure (.type "str") := rfl
  have hr : (int_private% "readNumeral") 4300 10 (numSeenOf x) = (int_private% "Numeral.value") n ∧ ((numSeenOf x).length == (numTextOf x).length) = true := by
    rcases read4300 x hl with ⟨m, h1, h2, h3⟩ | ⟨h1, _⟩
    · rw [hn] at h1
      cases h1
      exact ⟨h3, h2⟩
    · rw [hn] at h1
      cases h1
  have hk := KIN.Hid.mk (And.intro (And.intro hd hx) hr)
  clear hx hr hl hn hd
  obtain ⟨hp, g, d, tk, os⟩ := s
  repeat (any_goals (first
    | assumption
    | ((with_reducible show wpAny _ _ ((int_private% "intFromText") _ _ _) _ _ _); refine wp_textB hk.out.1.1 hk.out.1.2 hk.out.2.1 hk.out.2.2 ?_)
    | wp_step))
end
section
variable {prog : Program} {w : World} {A : Around} {E : Value → Shared → Prop} {s : Shared} {Q : Value → Shared → Prop} {x : PySem.Str} {t : Tok} {n : Int}
theorem call_textB (hd : s.heap.NoDigits) (hn : PySem.intText? x = some n) (hl : x.length ≤ sizeLine) (h : Q (.int n s.toks) { s with toks := s.toks + 1 }) : wpAny (model prog w) A (call (.type "int") [.str x t]) Q E s := by
  by_cases hx : (numSeenOf x).length ≤ 640
  · by_cases hy : x.length ≤ 640
    · exact KIN.call_text hn hy h
    · refine call_int_1 (S := fun A R s => R (.ok (.ret (.int n s.toks))) { s with toks := s.toks + 1 }) (fun prog w A R s h => ?_) ⟨rfl, h⟩
      have f1 := F.conv_sub_int
      have f2 := F.madeHere_int
      have f3 := KIN.str_int
      have f4 := KIN.str_idx
      have f5 := KIN.str_trunc
      have f6 : typeOf (.str x t) = pure (.type "str") := rfl
      have hr : (int_private% "readNumeral") 0 10 (numSeenOf x) = (int_private% "Numeral.value") n ∧ ((numSeenOf x).length == (numTextOf x).length) = true := by
        rcases read0 x hx with ⟨m, h1, h2, h3⟩ | ⟨h1, _⟩
        · rw [hn] at h1
          cases h1
          exact ⟨h3, h2⟩
        · rw [hn] at h1
          cases h1
      have hk := KIN.Hid.mk (And.intro hx hr)
      clear hx hr hl hn hd hy
      obtain ⟨hp, g, d, tk, os⟩ := s
      repeat (any_goals (first
        | assumption
        | ((with_reducible show wpAny _ _ ((int_private% "intFromText") _ _ _) _ _ _); refine KIN.wp_text hk.out.1 hk.out.2.1 hk.out.2.2 ?_)
        | wp_step))
  · exact call_int_1 (S := fun A R s => s.heap.NoDigits ∧ R (.ok (.ret (.int n s.toks))) { s with toks := s.toks + 1 }) (fun prog w A R s h => meets_textB h.1 hl hx hn h.2) ⟨hd, rfl, h⟩
end
end DX
namespace DL
open PySem PySem.Spec PyProof.Rows L2
section
variable {X : Cx} {E : XK} {pins : List (Addr × Obj)} {σ : L2.St} {H : Hp} {s : Shared}
theorem no_digits (I : Inv X pins σ H s) (e : PySem.W.nsIn X.K cStatics "sys.int_max_str_digits" = some none) : s.heap.NoDigits := by
  obtain ⟨mc, h1, _⟩ := I.nolimit
  exact ⟨mc, h1, DX.ns_lack I.kIn h1 e⟩
/-- int(text) -/
def dIntS : DN
  | [.str a], M, k, _ => ∃ n, PySem.intText? a = some n ∧ a.length ≤ 4300 ∧ k (.int n) M
  | _, _, _, _ => False
theorem c_intS (e : PySem.W.nsIn X.K cStatics "sys.int_max_str_digits" = some none) : CallR X (.type "int") (rA X.K E dIntS) := by
  intro pins s σ H xs us Q I r h
  obtain ⟨s0, ds, k, xx, rfl, ok, hx, q, p, px⟩ := h
  unfold dIntS at q
  split at q
  · obtain ⟨v, rfl, rv⟩ := hx.one
    cases rv
    obtain ⟨n, hn, hl, q⟩ := q
    cases r with
    | cons r1 r2 =>
      cases r2
      obtain ⟨t, rfl⟩ := r1
      exact DX.call_textB (no_digits I e) hn (Nat.le_trans hl (by decide)) ⟨.int n, s0.H, I.tok _, ⟨_, rfl⟩, p.now q ok .int⟩
  · exact q.elim
/-- str(int) up to the limit -/
def dStrB : DN
  | [.int i], M, k, _ => i.natAbs < 10 ^ 4300 ∧ k (.str (toString i)) M
  | _, _, _, _ => False
theorem c_strB (hc : X.calm = true) (e : PySem.W.nsIn X.K cStatics "sys.int_max_str_digits" = some none) : CallR X (.type "str") (rA X.K E dStrB) := by
  intro pins s σ H xs us Q I r h
  obtain ⟨s0, ds, k, xx, rfl, ok, hx, q, p, px⟩ := h
  unfold dStrB at q
  split at q
  · obtain ⟨v, rfl, rv⟩ := hx.one
    cases rv
    cases r with
    | cons r1 r2 =>
      cases r2
      obtain ⟨t, rfl⟩ := r1
      exact PyProof.Rows.str_of_int_or (I.ok.hd hc) (no_digits I e) (fun _ => ⟨.str _, s0.H, I.tok _, ⟨_, rfl⟩, p.now q.2 ok .str⟩) (fun z => absurd q.1 (Nat.not_lt.mpr z))
  · exact q.elim
/-- {x}: a text, or an int up to the limit -/
def dFmtB (τ : DE) : DE := fun ρ M k x => τ ρ M (fun u M1 => (∃ y : Str, u = .str y ∧ y.length ≤ sizeLine ∧ k (.str y) M1) ∨ ∃ i : Int, u = .int i ∧ i.natAbs < 10 ^ 4300 ∧ k (.str (toString i)) M1) x
theorem d_fmtB {e : Expr} {τ : DE} {pos : Pos} (hc : X.calm = true) (hK : PySem.W.nsIn X.K cStatics "sys.int_max_str_digits" = some none) (he : DP X E e τ) : DP X E (.FormattedValue e (-1) none pos) (dFmtB τ) := by
  refine ⟨fun pins s σ H Q I h => ?_⟩
  obtain ⟨ρ, s0, kk, xx, rfl, er, q, p, px⟩ := h
  refine wpAny_FormattedValue_plain (thn (he.run pins s σ s0.H (fun v H1 => ∃ s1 u, s1.H = H1 ∧ Ok X.K s1 ∧ Step s0 s1 ∧ Rep X.K s1.G v u ∧ ((∃ y : Str, u = .str y ∧ y.length ≤ sizeLine ∧ kk (.str y) s1.M) ∨ ∃ i : Int, u = .int i ∧ i.natAbs < 10 ^ 4300 ∧ kk (.str (toString i)) s1.M)) I
    ⟨ρ, s0, _, xx, rfl, er, q, fun u s1 q1 st1 ok1 v1 r1 => ⟨s1, u, rfl, ok1, st1, r1, q1⟩, px⟩) fun v s1 hv => ?_)
  obtain ⟨x, H1, I1, r1, s2, u, e2, ok2, st2, ru, q1⟩ := hv
  subst e2
  rcases q1 with ⟨y, rfl, hz, q1⟩ | ⟨i, rfl, hz, q1⟩
  · cases ru
    obtain ⟨t, rfl⟩ := r1
    exact wpAny_formatField_str ⟨.str y, s2.H, I1, ⟨t, rfl⟩, p _ s2 q1 st2 ok2 _ .str⟩ ⟨.str y, s2.H, I1.tok _, ⟨_, rfl⟩, p _ s2 q1 st2 ok2 _ .str⟩ hz
  · cases ru
    obtain ⟨t, rfl⟩ := r1
    exact PyProof.Rows.formatField_int (I1.ok.hd hc) (no_digits I1 hK) (fun _ => ⟨.str _, s2.H, I1.tok _, ⟨_, rfl⟩, p _ s2 q1 st2 ok2 _ .str⟩) (fun z => absurd hz (Nat.not_lt.mpr z))
/-- either of two rules for a call -/
def dOrN (f g : DN) : DN := fun ds M k xx => SelX (f ds M k xx) (g ds M k xx)
theorem c_orN {fv : Value} {f g : DN} (h1 : CallR X fv (rA X.K E f)) (h2 : CallR X fv (rA X.K E g)) : CallR X fv (rA X.K E (dOrN f g)) := by
  intro pins s σ H xs us Q I r h
  obtain ⟨s0, ds, k, xx, rfl, ok, hx, q, p, px⟩ := h
  rcases q with q | q
  · exact h1 pins s σ _ xs us Q I r ⟨s0, ds, k, xx, rfl, ok, hx, q, p, px⟩
  · exact h2 pins s σ _ xs us Q I r ⟨s0, ds, k, xx, rfl, ok, hx, q, p, px⟩
/-- x.partition(sep) -/
def dPartn : D → List D → Mm → DK → DX → Prop := fun x ds M k _ => ∃ a b : Str, x = .str a ∧ ds = [.str b] ∧ (b.length == 0) = false ∧ a.length ≤ sizeLine ∧ k (.tup [.str (Txt.partition a b).1, .str (Txt.partition a b).2.1, .str (Txt.partition a b).2.2]) M
theorem m_partition : MtR X "str.partition" (rM X.K E dPartn) := by
  intro pins s σ H x xs v us Q I rx rs h
  obtain ⟨s0, dx, ds, k, xx, rfl, ok, hx, hxs, ⟨a, b, rfl, rfl, hb, hz, q⟩, p, px⟩ := h
  cases hx
  obtain ⟨y, rfl, ry⟩ := hxs.one
  cases ry
  refine mt_partition pins s σ _ _ _ v us Q I rx rs ⟨a, b, rfl, rfl, hb, hz, fun a' ha' => ?_⟩
  obtain ⟨k1, st1⟩ := ok.new (o := .tup [.str (Txt.partition a b).1, .str (Txt.partition a b).2.1, .str (Txt.partition a b).2.2]) ha'
  exact p _ (⟨upd s0.H a' (.tup [.str (Txt.partition a b).1, .str (Txt.partition a b).2.1, .str (Txt.partition a b).2.2]), upd s0.G a' (.tup [.str (Txt.partition a b).1, .str (Txt.partition a b).2.1, .str (Txt.partition a b).2.2]), s0.M⟩ : Sta) q st1 k1 _ (.tup (.inl (.of upd_same)) (.cons .str (.cons .str (.cons .str .nil))))
/-- x.split(sep) -/
def dSplit : D → List D → Mm → DK → DX → Prop := fun x ds M k _ => ∃ a b : Str, x = .str a ∧ ds = [.str b] ∧ (b.length == 0) = false ∧ a.length + 2 ≤ sizeLine ∧ k (.lst ((Txt.split a b).map .str)) M
theorem reps_strs {K : PySem.W.Frag} {G : Hp} : ∀ ys : List Str, Reps K G (ys.map V.str) (ys.map D.str)
  | [] => .nil
  | _ :: r => .cons .str (reps_strs r)
theorem m_split : MtR X "str.split" (rM X.K E dSplit) := by
  intro pins s σ H x xs v us Q I rx rs h
  obtain ⟨s0, dx, ds, k, xx, rfl, ok, hx, hxs, ⟨a, b, rfl, rfl, hb, hz, q⟩, p, px⟩ := h
  cases hx
  obtain ⟨y, rfl, ry⟩ := hxs.one
  cases ry
  refine mt_split pins s σ _ _ _ v us Q I rx rs ⟨a, b, rfl, rfl, hb, hz, fun a' ha' => ?_⟩
  obtain ⟨k1, st1⟩ := ok.new (o := .lst ((Txt.split a b).map V.str)) ha'
  exact p _ (⟨upd s0.H a' (.lst ((Txt.split a b).map V.str)), upd s0.G a' (.lst ((Txt.split a b).map V.str)), s0.M⟩ : Sta) q st1 k1 _ (.lst upd_same (reps_strs _))
/-- text * int -/
def repS (x : Str) (n : Nat) : Str := ⟨(List.replicate n x.cps).foldl (· ++ ·) #[]⟩
theorem foldl_size (x : Array Nat) : ∀ (n : Nat) (acc : Array Nat), ((List.replicate n x).foldl (· ++ ·) acc).size = acc.size + n * x.size
  | 0, acc => by simp
  | n + 1, acc => by
    rw [List.replicate_succ, List.foldl_cons, foldl_size x n, Array.size_append, Nat.succ_mul]
    omega
theorem repS_len (x : Str) (n : Nat) : (repS x n).length = n * x.length := by
  show ((List.replicate n x.cps).foldl (· ++ ·) #[]).size = _
  rw [foldl_size]
  simp [Str.length]
def dMulS : D2
  | .str x, .int n, M, k, _ => 1 < n ∧ 0 < x.length ∧ x.length * n.toNat ≤ 100000 ∧ k (.str (repS x n.toNat)) M
  | _, _, _, _, _ => False
theorem o_mulS : OpR X (binaryOp .Mult) (r2 X.K E dMulS) := by
  intro pins s σ H x y u v Q I rx ry h
  obtain ⟨s0, dx, dy, k, xx, rfl, ok, hx, hy, q, p, px⟩ := h
  unfold dMulS at q
  split at q
  · rename_i a n
    cases hx
    cases hy
    obtain ⟨t, rfl⟩ := rx
    obtain ⟨t', rfl⟩ := ry
    obtain ⟨h1, h2, h3, q⟩ := q
    have hn : n ≤ 100000 := by
      have : n.toNat ≤ a.length * n.toNat := Nat.le_mul_of_pos_left _ h2
      omega
    have e1 : ¬ n < 1 := by omega
    have e2 : (n == 1 || a.length == 0) = false := by
      simp only [Bool.or_eq_false_iff, beq_eq_false_iff_ne]
      exact ⟨by omega, by omega⟩
    have e3 : ¬ (n == 1 || a.length == 0) = true := by rw [e2]; exact Bool.false_ne_true
    have hal : a.length ≤ 100000 := by
      have : a.length ≤ a.length * n.toNat := Nat.le_mul_of_pos_right _ (by omega)
      omega
    refine PySem.P.mul_str (by simp; omega) (fun _ _ => ?_) (fun _ _ => ?_) ?_
    · have : ((2 : Int) ^ 63 - 1) / n ≥ 100000 := by
        rw [ge_iff_le, Int.le_ediv_iff_mul_le (by omega)]
        omega
      omega
    · have big : 100000 ≤ sizeLine := by decide
      show decide (_ > _) = false
      exact decide_eq_false (by omega)
    · rw [if_neg e1, if_neg e3]
      refine ⟨?_, .str _, s0.H, I.tok _, ⟨_, rfl⟩, p.now q ok .str⟩
      have big : 100000 ≤ sizeLine := by decide
      have := repS_len a n.toNat
      unfold repS at this
      rw [this, Nat.mul_comm]
      omega
  · exact q.elim
end
section
variable {X : Cx} {CX : CXT} {E : XK} {k n nn : Nat} {f C : Addr} {mc : Value} {fd : FuncData} {ps ks : List Str} {φ : Ct} {x m : Str} {pos apos : Pos} {e : Expr} {es : List Expr} {kws : List Keyword} {αa ακ : DA} {gD : List D → List D → List D}
/-- C.m(e, ..), m a classmethod with plain parameters -/
def dCMethF (C : Addr) (n : Nat) (φ : Ct) (α : DA) : DE := fun ρ M k x => α ρ M (fun ds M1 => ds.length = n ∧ φ (.cel C :: ds) M1 k x) x
theorem d_cmethF {pl : Sem Bool} {p1 : Pos} (r : ClX.CRead X.K C mc) (c : ∃ pp, ClX.CMet X.K C mc m pp f) (F : FnOk X.prog X.w X.K X.mg X.base CX k f fd ps (spD X.K (n + 1) φ)) (hb : Binds X.K fd ps []) (hr : Room k X.A) (hg : Gl X x) (hm : X.mg x = some (.ref C)) (hx : Passes CX X E) (ha : DPA X E (e :: es) αa)
    (hd : (x == ("__debug__" : Str)) = false := by decide)
    (hst : starEach (e :: es) X.env = (false, eval e X.env) :: starEach es X.env := by rfl) (hpl : (backTo pos (starEach es X.env)).any (·.1) = false := by rfl)
    (ht : eval (.Call (.Attribute (.Name x p1) m apos) (e :: es) [] pos) X.env = (do
      let ov ← eval (.Name x p1) X.env
      standAt apos.atName
      let (f, first) ← holding [ov] (getMethod ov m pl)
      callWith pos f first (backTo pos (starEach (e :: es) X.env)) (backToKw pos (keywordEach [] X.env))) := by rfl) :
    DP X E (.Call (.Attribute (.Name x p1) m apos) (e :: es) [] pos) (dCMethF C n φ αa) := by
  obtain ⟨pp, c⟩ := c
  refine pe_mono (ClX.pe_cmeth (pe_glob (v := .ref C) hg hm rfl hd) r c (F.raw hb .nil) hr hx ha hst hpl ht) fun σ H Q h => ?_
  obtain ⟨ρ, s, k, xx, rfl, er, q, p, px⟩ := h
  refine ⟨rfl, ρ, s, _, xx, rfl, er, q, fun ds s1 q1 st1 ok1 vs r1 => ?_, px⟩
  show spD X.K (n + 1) φ ((V.ref C :: vs) ++ []) s1.H Q E
  rw [List.append_nil]
  exact ⟨s1, .cel C :: ds, k, xx, rfl, ok1, .cons .cel r1, by rw [List.length_cons, q1.1], q1.2, p.step st1, px.step st1⟩
/-- C.m(y=..), m a classmethod, keywords alone -/
theorem d_cmethK0 {pl : Sem Bool} {p1 : Pos} (r : ClX.CRead X.K C mc) (c : ∃ pp, ClX.CMet X.K C mc m pp f) (F : FnOk X.prog X.w X.K X.mg X.base CX k f fd ps (spD X.K nn φ)) (hb : KBd X.K fd ps 1 ks gD) (hgl : ∀ us ws : List D, us.length = 1 → ws.length = ks.length → (gD us ws).length = nn) (hr : Room k X.A) (hg : Gl X x) (hm : X.mg x = some (.ref C)) (hx : Passes CX X E) (hkw : DPK X E kws ακ)
    (hall : (backToKw pos (keywordEach kws X.env)).all (·.1.isSome) = true := by rfl) (hks : (backToKw pos (keywordEach kws X.env)).filterMap (·.1) = ks := by rfl) (hdb : (x == ("__debug__" : Str)) = false := by decide)
    (hpl : ((backTo pos (starEach [] X.env)).any (·.1) || (backToKw pos (keywordEach kws X.env)).any (·.1.isNone)) = false := by rfl)
    (ht : eval (.Call (.Attribute (.Name x p1) m apos) [] kws pos) X.env = (do
      let ov ← eval (.Name x p1) X.env
      standAt apos.atName
      let (f, first) ← holding [ov] (getMethod ov m pl)
      callWith pos f first (backTo pos (starEach [] X.env)) (backToKw pos (keywordEach kws X.env))) := by rfl) :
    DP X E (.Call (.Attribute (.Name x p1) m apos) [] kws pos) (fun ρ M k x => ακ ρ M (fun zs M1 => zs.length = ks.length ∧ φ (gD [.cel C] zs) M1 k x) x) := by
  refine ⟨fun pins s σ H Q I h => ?_⟩
  obtain ⟨ρ, s0, kk, xx, rfl, er, q, ppp, px⟩ := h
  obtain ⟨pp, c⟩ := c
  refine PySem.W.methodCall_KW (pl := pl) (ld_glob I hg hm ?_ hdb) ht
  refine ClX.getmethcm_ok I r c fun s2 I2 => ?_
  refine PySem.W.callWith_of (P := PySem.W.MethP X.K s.heap.objs.size f (.ref C)) hpl (PySem.W.keeps_M c.fi) (PyProof.Rows.evalArgs_kw2_nil hall ?_)
  refine thn (hkw.run pos _ s2 σ s0.H (fun zs H2 => ∃ s3 zd, s3.H = H2 ∧ Ok X.K s3 ∧ Step s0 s3 ∧ Reps X.K s3.G zs zd ∧ zd.length = ks.length ∧ φ (gD [.cel C] zd) s3.M kk xx) I2 ⟨ρ, s0, _, xx, rfl, er, q, fun zd s3 q3 st3 ok3 zs r3 => ⟨s3, zd, rfl, ok3, st3, r3, q3⟩, px⟩) fun ws s3 ⟨zs, H2, I3, rz, s4, zd, e4, ok4, st4, r4, l5, q4⟩ => ⟨⟨ClX.pin_at I3, I3.kIn⟩, ?_⟩
  subst e4
  rw [hks]
  obtain ⟨g, gV, hb, hrep⟩ := hb.ex
  have rr := hb.rel (vs := [.ref C]) (us := [.ref C]) (.cons rfl .nil) rz
  have e2 : ws.length = ks.length := rz.length.symm.trans (r4.length.trans l5)
  have hs : spD X.K nn φ (gV [.ref C] zs) s4.H Q E := ⟨s4, gD [.cel C] zd, kk, xx, rfl, ok4, hrep (.cons .cel .nil) r4 rfl l5, hgl _ _ rfl l5, q4, ppp.step st4, px.step st4⟩
  have z : wpAny (model X.prog X.w) X.A (call (.ref s.heap.objs.size) [] (ks.zip ws)) (EP X ((s.heap.objs.size, PySem.W.methodObj (.ref f) (.ref C)) :: pins) σ Q) X.xe s3 := by
    refine wpAny_call (PySem.W.method_call (ClX.pin_at I3) (codeAny_mono (F.run X.A X.stack s3 s4.H ⟨[.ref C], ks.zip ws⟩ (g [.ref C] ws) (gV [.ref C] zs) Q E hr I3.env0 (hb.to s3 [.ref C] ws I3.kIn rfl e2) rr hs) fun r s' hq => ?_))
    match r, hq with
    | .error e, hq => exact hx _ σ s4.H s3 e s' I3 hq
    | .ok (.ret u), hq => exact I3.after hq
    | .ok .next, hq => exact hq.elim
    | .ok .brk, hq => exact hq.elim
    | .ok .cont, hq => exact hq.elim
  exact thn z fun _ _ y => ClX.unpinE y
end
end DL
set_option Elab.async false
set_option linter.all false
set_option maxRecDepth 100000
set_option maxHeartbeats 2000000
namespace DL
open PySem PySem.Spec PyProof.Rows L2
/-- what the clause 'except x as n' wishes of an exception of the body; it takes it -/
def wT1 (K : PySem.W.Frag) (c : Value) (i nn : Nat) (ts : Addr → Value → Option Addr → TS) (D : Ends) : WX := fun cls d σ H =>
  PySem.W.exmOne K cls c = some true ∧ (σ.length = nn → ∀ a, H a = none → ts a cls d { nx := fun σ' H' => D.nx (σ'.set i none) H', rt := D.rt, bk := fun σ' H' => D.bk (σ'.set i none) H', ct := fun σ' H' => D.ct (σ'.set i none) H' } (σ.set i (some (.ref a))) H)
section
variable {X : Cx} {x1 n : Str} {c1 : Value} {i : Nat} {body suite : List Stmt} {b₀ : Stmt} {q1 pos pos' : Pos} {tb : WX → TS} {ts : Addr → Value → Option Addr → TS}
theorem ps_try1 (hs : X.stack = X.env :: X.outer) (hf : X.env.frame = some X.env.locals) (hN : X.N.Nodup) (hi : X.N[i]? = some n) (hln : X.env.kindOf n = some .local) (g1 : Gl X x1) (m1 : X.mg x1 = some c1)
    (hb : ∀ (W : WX) (pn : List (Addr × Obj)) (xe : Value → Shared → Prop), Takes (X.tr pn xe) W → PSs (X.tr pn xe) body (tb W))
    (hsu : ∀ (a : Addr) (oe : Obj) (cls : Value) (d : Option Addr) (pn : List (Addr × Obj)), Zc cls d oe → (∃ vs, oe.data = .fields vs) → PSs (X.suite a ((a, oe) :: pn)) (b₀ :: suite) (ts a cls d))
    (d1 : (x1 == ("__debug__" : Str)) = false := by decide) :
    PS X (.Try body [.ExceptHandler (some (.Name x1 q1)) (some n) (b₀ :: suite) pos'] [] [] pos) (fun D σ H => tb (wT1 X.K c1 i X.N.length ts D) D σ H) := by
  refine ⟨fun pins s σ H D I h => ?_⟩
  have okX := I.ok
  have frames : X.A.frames = some (X.env :: X.outer) := by rw [okX.frames, hs]
  let caught : Value → Shared → Prop := fun e s₁ => wpAny (model X.prog X.w) X.A (noteFrame e X.env) (fun _ s₂ => wpAny (model X.prog X.w) X.A (setFlight e none) (fun _ s₃ =>
    wpAny (model X.prog X.w) X.A (handleBy e X.env [.ExceptHandler (some (.Name x1 q1)) (some n) (b₀ :: suite) pos']) (SP X pins D) X.xe s₃) X.xe s₂) X.xe s₁
  have tk : Takes (X.tr (X.pn ++ pins) caught) (wT1 X.K c1 i X.N.length ts D) := by
    intro u s' xx
    obtain ⟨a, B, sI, pins', σ1, H1, cls, d, rfl, J', nb, up, sky, na, os, ag, hm, hw⟩ := xx
    have J : Inv X pins σ1 H1 sI := J'.ofTry okX
    have hw := hw J.len
    have sky' : Sky B (X.env :: X.outer) a (Zc cls d) X.env.locals s'.heap := by rw [← hs]; exact sky
    show wpAny (model X.prog X.w) X.A (noteFrame (.ref a) X.env) _ _ _
    refine Sky.land Zc.steady frames hf sky' fun h3 fl up3 => ?_
    have outside : ∀ {h : Heap} {o : Obj} {vs : Array Value}, h.FunFrames B (X.env :: X.outer) → h.get? a = some o → o.data = .fields vs → a ∉ frs (X.env :: X.outer) := by
      intro h o vs ff e dd hm
      obtain ⟨_, o2, e2, nf⟩ := ff.mem hm
      rw [e] at e2
      cases e2
      exact nf _ dd
    obtain ⟨oe, vs, he, hz, hd⟩ := fl.there
    have out := outside fl.2.2.1 he hd
    have noL : a ≠ X.env.locals := fun z => out (List.mem_filterMap.mpr ⟨X.env, List.mem_cons_self, by rw [hf, z]⟩)
    have noF : a ∉ X.fs := by
      intro hm
      obtain ⟨e2, he2, q⟩ := List.mem_filterMap.mp hm
      exact out (List.mem_filterMap.mpr ⟨e2, List.mem_cons_of_mem _ he2, q⟩)
    have J3 : Inv X pins σ1 H1 { s' with heap := h3 } := J.landed nb fl.1 (up.trans up3) os ag
    have S3 := J3.suite he hd na noL noF
    refine wpAny_handleBy_cons (codeAny_handlers_test ?_) (by intro q; cases q)
    have ty : PySem.W.Looks (model X.prog X.w) h3 (typeOf (.ref a)) cls := fun A Q E s k q => wpAny_typeOf_ref (k _ _ he) (by rw [hz.1]; exact q)
    refine ld_glob (X := X.suite a ((a, oe) :: (X.pn ++ pins))) S3 g1 m1 ?_ d1
    refine (PySem.W.exm_one (M := model X.prog X.w) J3.kIn ty hm).here ?_
    refine codeAny_handlers_suite_as ?_
    refine HandSPX.lands_againZ fl fun h4 fl4 up4 => ?_
    have J4 : Inv X pins σ1 H1 { s' with heap := h4 } := J.landed nb fl4.1 ((up.trans up3).trans up4) os ag
    obtain ⟨oe4, vs4, he4, hz4, hd4⟩ := fl4.there
    have S4 := J4.suite he4 hd4 na noL noF
    refine store_ok (X := X.suite a ((a, oe4) :: (X.pn ++ pins))) (v := .ref a) S4 hN hi (.inl hln) rfl (fun s5 S5 => ?_) (.inr hln)
    refine wpAny_mono ((hsu a oe4 cls d (X.pn ++ pins) hz4 ⟨_, hd4⟩).run [] s5 _ H1 _ S5 (hw a na)) (fun fl s6 hsp => ?_) (fun _ _ z => False.elim z)
    have gone : ∀ {σ6 : L2.St} {H6 : Hp} {Q : Shared → Prop}, Inv (X.suite a ((a, oe4) :: (X.pn ++ pins))) [] σ6 H6 s6 → (∀ s7, Inv X pins (σ6.set i none) H6 s7 → Q s7) →
        wpAny (model X.prog X.w) X.A (do bindName X.env n .none; unbindBehindTheSuite X.env n pos') (fun _ s7 => Q s7) X.xe s6 := fun S6 hq => gone_ok (S6.unsuite okX) hN hi hln hq
    match fl, hsp with
    | .next, ⟨_, _, S6, q6⟩ => exact gone S6 fun s7 J7 => ⟨_, _, J7, q6⟩
    | .brk, ⟨_, _, S6, q6⟩ => exact gone S6 fun s7 J7 => ⟨_, _, J7, q6⟩
    | .cont, ⟨_, _, S6, q6⟩ => exact gone S6 fun s7 J7 => ⟨_, _, J7, q6⟩
    | .ret u, ⟨_, _, _, S6, r6, q6⟩ => exact gone S6 fun s7 J7 => ⟨_, _, _, J7, r6, q6⟩
  refine wpAny_Try_except (wpAny_mono ((hb _ (X.pn ++ pins) caught tk).run [] s σ H D (I.toTry _) h) (fun fl s1 hsp => ?_) fun e s1 he => he)
  match fl, hsp with
  | .next, ⟨σ', H', J', q⟩ => exact wpAny_execs_nil ⟨σ', H', J'.ofTry okX, q⟩
  | .brk, ⟨σ', H', J', q⟩ => exact ⟨σ', H', J'.ofTry okX, q⟩
  | .cont, ⟨σ', H', J', q⟩ => exact ⟨σ', H', J'.ofTry okX, q⟩
  | .ret u, ⟨v, σ', H', J', r, q⟩ => exact ⟨v, σ', H', J'.ofTry okX, r, q⟩
end
/-- what is known of the class that the clause takes -/
structure GoodL (K : PySem.W.Frag) (c : Value) (C : Addr) : Prop where
  xf : XfC K C
  ex : PySem.W.exmOne K (.ref C) c = some true
  no : PySem.W.findIn K (.ref C) "line" = some none
/-- what _law_line_try makes of an error -/
def noKL (Good : Addr → Prop) (k : DK) : DX := fun C fs M1 => Good C ∧ ∃ v, List.lookup ("line" : Str) fs = some v ∧ k (.tup [.str "no", v]) M1
/-- _law_line_try(lambda: e) -/
def dTryL (P : Addr) (q : Str) (Good : Addr → Prop) (τ : DE) : DE := fun ρ M k _ => M P = some (.tbl q) ∧ τ ρ M (fun d M1 => k (.tup [.str "told", d]) M1) (noKL Good k)
def τSuiteL (a dd : Addr) : DS := dRet (dTup (dCons (dC (.str "no")) (dCons (dXf a dd "line" (dVar 1)) dNil)))
theorem suite_L {X : Cx} {a C dd : Addr} {oe : Obj} {c : Value} {j1 kk : Nat} {p1 p2 p3 p4 p5 : Pos} (hN : X.N[1]? = some ("e" : Str)) (hv : Vis X.env.scope "e") (hp : (a, oe) ∈ X.pn) (G : GoodL X.K c C) (hz : Zc (.ref C) (some dd) oe) (hf : ∃ vs, oe.data = .fields vs)
    (hat : attributeBase (.Name "e" p3) "line" X.env (eval (.Name "e" p3) X.env) = eval (.Name "e" p3) X.env)
    (hs1 : starEach [.Constant (.str "no") j1 p2, .Attribute (.Name "e" p3) "line" p4] X.env = (false, eval (.Constant (.str "no") j1 p2) X.env) :: starEach [.Attribute (.Name "e" p3) "line" p4] X.env)
    (hs2 : starEach [.Attribute (.Name "e" p3) "line" p4] X.env = (false, eval (.Attribute (.Name "e" p3) "line" p4) X.env) :: starEach [] X.env) :
    DPB X (fun _ _ _ => False) [.Return (some (.Tuple [.Constant (.str "no") j1 p2, .Attribute (.Name "e" p3) "line" p4] kk p5)) p1] (τSuiteL a dd) := by
  have v : ∀ {q : Pos}, DP X (fun _ _ _ => False) (.Name "e" q) (dVar 1) := fun {q} => dv 1 hN hv
  exact b_one (s_ret (d_tup (a_cons d_str (a_cons (d_xf G.xf G.no hp hz hf v hat) a_nil hs2) hs1)))
/-- the body of _law_line_try -/
abbrev lineBody (j1 j2 k1 k3 : Nat) (p1 p2 p3 p4 p5 p6 q1 q2 q3 q4 q5 r1 r2 : Pos) : List Stmt :=
  [.Try [.Return (some (.Tuple [.Constant (.str "told") j1 p1, .Call (.Name "_law_ask" p2) [] [] p3] k1 p4)) p5]
    [.ExceptHandler (some (.Name "InvalidText" p6)) (some "e")
      [.Return (some (.Tuple [.Constant (.str "no") j2 q2, .Attribute (.Name "e" q3) "line" q4] k3 q5)) q1] r1] [] [] r2]
/-- what a law's _law_line_try must have -/
structure LineF (P : Program) (w : World) (K : PySem.W.Frag) (mg : Str → Option Value) (base : Heap) (c1 : Value) (g : Addr) : Prop where
  m : mg "_law_line_try" = some (.ref g)
  k : PySem.W.keepIn K (.ref g) = true
  f : ∃ (pg : Arguments) (sg : Scope) (dV kV doc pm cdv ct oc : Value) (an od : Option Addr) (osl : Array (Option Value)) (j1 j2 k1 k3 : Nat) (p1 p2 p3 p4 p5 p6 q1 q2 q3 q4 q5 r1 r2 : Pos),
    K.lookup g = some ⟨oc, od, .func (PySem.W.fnOf "_law_line_try" "_law_line_try" pg (lineBody j1 j2 k1 k3 p1 p2 p3 p4 p5 p6 q1 q2 q3 q4 q5 r1 r2) sg dV kV doc pm an cdv ct), osl⟩ ∧ PySem.W.codeIn K cdv "_law_line_try" = true ∧
      Binds K (PySem.W.fnOf "_law_line_try" "_law_line_try" pg (lineBody j1 j2 k1 k3 p1 p2 p3 p4 p5 p6 q1 q2 q3 q4 q5 r1 r2) sg dV kV doc pm an cdv ct) ["_law_ask"] [] ∧ FnScope ["_law_ask", "e"] ["_law_ask"] sg ∧
      (sg.names.lookup ("_law_ask" : Str) = some .local ∧ sg.names.lookup ("e" : Str) = some .local ∧ sg.names.lookup ("InvalidText" : Str) = some .globalImplicit)
  cls : mg "InvalidText" = some c1
section
variable {X : Cx} {E : XK} {c1 : Value} {g c P : Addr} {k : Nat} {params : Arguments} {body : Expr} {scope : Scope} {τ : DE} {p lpos pos : Pos}
theorem d_trylamL (TF : LineF X.prog X.w X.K X.mg X.base c1 g) (hg : Gl X "_law_line_try") (TB : LamX.TabB X.base X.mg c P) (hcode : X.env.code = .ref c) (hr : Room (k + 2) X.A) (L : LamX.LamS X.env.scope scope) (hdef : defaultsOf params X.env = ([], []))
    (hbind : ∀ (q : Str) (cl : List (Str × Addr)) (pm cv ctv : Value), bindArgs (PySem.W.kla_fn "<lambda>" q params body scope cl pm cv ctv) ⟨[], []⟩ = pure [])
    (hbody : ∀ (A : Around) (outer : List Env) (s : Shared) (H : Hp) (E : XK) (f c' : Addr), Room k (A.deeper (LamX.lamEnv X scope s.heap.objs.size f c')) → Passes (L2.CX X.prog X.w) (LamX.lamCx X A outer s H E scope f c') E → DP (LamX.lamCx X A outer s H E scope f c') E body τ) :
    DP X E (.Call (.Name "_law_line_try" p) [.Lambda params body scope lpos] [] pos) (dTryL P (X.env.qual ++ "<lambda>") (GoodL X.K c1) τ) := by
  refine ⟨fun pins s σ H Q I h => ?_⟩
  obtain ⟨ρ, s0, kk, xx, rfl, er, ⟨hM, q⟩, pp, px⟩ := h
  obtain ⟨ps, eP, ht, ha⟩ := er.ok.cells P _ hM
  obtain ⟨pg, sg, dV, kV, doc, pm, cdv, ct, oc, an, od, osl, j1, j2, k1, k3, p1, p2, p3, p4, p5, p6, q1, q2, q3, q4, q5, r1, r2, lk, hcg, hb, Sg, n1, n2, n3⟩ := TF.f
  have m1 := TF.cls
  refine wpAny_Call_Name_kw (ld_glob I hg TF.m ?_ (by decide))
  refine PySem.W.callWith_K (h₀ := X.base) I.ok.mod.kin TF.k ?_ (by rfl) (by rfl)
  show wpAny _ _ (spliced ((false, eval (.Lambda params body scope lpos) X.env) :: backTo pos (starEach [] X.env))) _ _ s
  refine Calls.spliced_cons (lam_made I TB hcode eP ht (fun p cv z => let ⟨c, e1, e2⟩ := ha p cv z; ⟨c, e1, er.ok.sub _ _ e2⟩) hdef (L.has I.ok) fun f c' pm' ctv H1 s' I1 hH hf hfn hfr _ => ?_)
  refine Calls.spliced_nil ⟨I1.kIn, ?_⟩
  obtain ⟨s1, rfl, st1, ok1, eM, hc1⟩ := lam_data (X := X) er.ok hM eP ha hH
  have er1 := er.step st1 ok1
  have rc : codeAny (model X.prog X.w) X.A (.call (.ref g) ⟨[.ref f], []⟩) (CR (L2.CX X.prog X.w) X.stack X.prog X.w s1.H s' Q (fun _ _ _ => False)) s' := by
    refine LamX.run_ofS (N := ["_law_ask", "e"]) (ps := ["_law_ask"]) (us := [.ref f]) (vs := [.ref f]) (k := k + 1) lk hcg Sg hr I1.env0 (hb s' [.ref f] I1.kIn rfl) (.cons rfl .nil) rfl fun hr' => ?_
    -- what an exception of the lambda must bring
    let Ech : XK := fun cls d H' => ∃ C dd, cls = .ref C ∧ d = some dd ∧ GoodL X.K c1 C ∧ ∀ (σ' : L2.St), σ'.length = 2 → ∀ a, H' a = none → upS X.K (fun _ _ _ => False) (τSuiteL a dd) { nx := fun _ H' => Q .non H', rt := Q } (σ'.set 1 (some (.ref a))) H'
    let ts : Addr → Value → Option Addr → TS := fun a cls d D σ' H' => ∃ C dd, cls = .ref C ∧ d = some dd ∧ GoodL X.K c1 C ∧ upS X.K (fun _ _ _ => False) (τSuiteL a dd) D σ' H'
    have hsu : ∀ (a : Addr) (oe : Obj) (cls : Value) (d : Option Addr) (pn : List (Addr × Obj)), Zc cls d oe → (∃ vs, oe.data = .fields vs) →
        PSs ((cxOf (L2.CX X.prog X.w) X.prog X.w X.K X.mg X.base ["_law_ask", "e"] "_law_line_try" sg g cdv X.A X.stack s' s1.H (fun _ _ _ => False)).suite a ((a, oe) :: pn))
          [.Return (some (.Tuple [.Constant (.str "no") j2 q2, .Attribute (.Name "e" q3) "line" q4] k3 q5)) q1] (ts a cls d) := by
      intro a oe cls d pn hz hfl
      refine ⟨fun pins2 s2 σ2 H2 D2 I2 h2 => ?_⟩
      obtain ⟨C, dd, rfl, rfl, hG, hu⟩ := h2
      exact (suite_L (X := (cxOf (L2.CX X.prog X.w) X.prog X.w X.K X.mg X.base ["_law_ask", "e"] "_law_line_try" sg g cdv X.A X.stack s' s1.H (fun _ _ _ => False)).suite a ((a, oe) :: pn)) rfl (.inl n2) List.mem_cons_self hG hz hfl rfl rfl rfl).run pins2 s2 σ2 H2 D2 I2 hu
    refine ⟨_, pss_one (ps_try1 (X := cxOf (L2.CX X.prog X.w) X.prog X.w X.K X.mg X.base ["_law_ask", "e"] "_law_line_try" sg g cdv X.A X.stack s' s1.H (fun _ _ _ => False)) (i := 1) (n := "e")
      (tb := fun W D σ' H' => (∀ cls d σ'' H'', Ech cls d H'' → W cls d σ'' H'') ∧ σ'[0]? = some (some (.ref f)) ∧ H' c' = some (LamX.CodeO c' (X.env.qual ++ "<lambda>")) ∧ up X.K Ech τ σ H' fun v H'' => ∀ p, H'' p = none → D.rt (.ref p) (upd H'' p (.tup [.str "told", v]))) (ts := ts)
      rfl rfl Sg.nd rfl n2 n3 m1 (fun W pn xe tk => ?_) hsu), ?_⟩
    · refine ⟨fun pins2 s2 σ2 H2 D2 I2 h2 => ?_⟩
      obtain ⟨hW, e1, e2, e3⟩ := h2
      have act := LamX.pe_act (CXg := L2.CX X.prog X.w) (Eg := fun _ _ _ => False) (Ng := ["_law_ask", "e"]) (qg := "_law_line_try") (sg := sg) (g := g) (cdg := cdv) (k := k) (i := 0) (a := "_law_ask") (pn := pn) (xe := xe) (W := W) (E := Ech) (tb := up X.K Ech τ) (p1 := p2) (p2 := p3)
        I1 L hf hfn hfr (hbind _ _ _ _ _) tk hW hr' (fun A outer s H hr2 => hbody A outer s H Ech f c' hr2 (pass_own rfl rfl rfl rfl)) rfl (.inl n1)
      refine (pss_one (ps_ret (pos := p5) (pe_tup (x1 := k1) (pos := p4) (pa_cons (pe_str (x := "told") (j := j1) (pos := p1)) (pa_cons act pa_nil rfl) rfl)))).run pins2 s2 σ2 H2 D2 I2 ?_
      refine ⟨e1, e2, ?_⟩
      obtain ⟨ρ', t0, kk', xx', e4, er', q', pp', px'⟩ := e3
      exact ⟨ρ', t0, kk', xx', e4, er', q', fun d t hk st ok v r => ⟨by show 2 ≤ sizeLine; decide, fun p hp => pp' d t hk st ok v r p hp⟩, px'⟩
    · refine ⟨fun cls d σ'' H'' hE => ?_, rfl, ok1.sub _ _ hc1, ?_⟩
      · obtain ⟨C, dd, rfl, rfl, hG, hs⟩ := hE
        exact ⟨hG.ex, fun hl a hn => ⟨C, dd, rfl, rfl, hG, hs σ'' hl a hn⟩⟩
      · rw [← eM] at q
        refine ⟨ρ, s1, _, _, rfl, er1, q, fun d t hk st ok v r p hp => ?_, fun C fs t hx st ok dx fvs e1 e2 e3 e4 r => ?_⟩
        · refine (pp.step (st1.trans st)).tup hk ok ?_ hp
          exact .cons .str (.cons r .nil)
        · obtain ⟨hG, lv, l1, hk⟩ := hx
          refine ⟨C, dx, rfl, rfl, hG, fun σ' hl a hn => ?_⟩
          have new : ¬ s0.hidden dx := fun ⟨o, z1, z2, z3⟩ => e4 ⟨o, st1.hid dx o z1 z2 z3⟩
          obtain ⟨oku, stu, sau⟩ := ok.shown2 (st1.trans st) new e2 e3 e1
          obtain ⟨v0, v1, rfl⟩ : ∃ v0 v1, σ' = [v0, v1] := by
            match σ', hl with
            | [v0, v1], _ => exact ⟨v0, v1, rfl⟩
          refine ⟨[none, some (.exc a dx fs)], ⟨t.H, upd t.G dx (.xd fvs), t.M⟩, { nx := fun _ _ => False, rt := kk, m0 := t.M }, fun _ _ _ => False, rfl, ⟨oku, rfl, fun i d hd => ?_⟩, ?_, ⟨fun _ _ z => z.elim, ⟨_, Step.refl _, oku, rfl, pp.step stu⟩, fun _ _ z => z.elim, fun _ _ z => z.elim⟩, PostX.never⟩
          · match i, hd with
            | 1, hd =>
              cases hd
              exact ⟨.ref a, rfl, .exc upd_same (r.same sau)⟩
          · exact ⟨_, rfl, fs, lv, rfl, l1, by show 2 ≤ sizeLine; decide, hk⟩
  refine wpAny_call (codeAny_mono rc fun r s2 hq => ?_)
  match r, hq with
  | .error e, hq =>
    obtain ⟨_, _, _, _, _, _, _, _, _, _, _, _, z⟩ := hq
    exact z.elim
  | .ok (.ret u), hq => exact I1.after hq
  | .ok .next, hq => exact hq.elim
  | .ok .brk, hq => exact hq.elim
  | .ok .cont, hq => exact hq.elim
end
section
variable {X : Cx} {c1 : Value} {g f c' : Addr} {t0 : Option Addr} {k : Nat} {params : Arguments} {body : Expr} {scope : Scope} {τ : DE} {pins : List (Addr × Obj)} {σ : L2.St} {s : Shared} {s1 : Sta} {ρ : DEnv} {kk : DK} {Q : VK}
/-- _law_try(f), f a tracked lambda of X, called where X holds -/
theorem run_tryTL (TF : LineF X.prog X.w X.K X.mg X.base c1 g) (I1 : Inv X pins σ s1.H s) (er1 : ER X.K s1 σ ρ) (hlam : s1.G f = some (.ext (lamP X params body scope f c' t0))) (hT : ∀ b, t0 = some b → s1.G b = some (.tup [.int 0])) (hc1 : s1.G c' = some (LamX.CodeO c' (X.env.qual ++ "<lambda>"))) (hr : Room (k + 2) X.A) (L : LamN X.N X.env.scope scope) (hbind : LamB t0.isSome params body scope)
    (hbody : ∀ (A : Around) (outer : List Env) (s : Shared) (H : Hp) (E : XK) (f c' : Addr), Room k (A.deeper (LamX.lamEnv X scope s.heap.objs.size f c')) → Passes (L2.CX X.prog X.w) (LamX.lamCx X A outer s H E scope f c') E → DP (LamX.lamCx X A outer s H E scope f c') E body τ)
    (q : τ ρ s1.M (fun d M1 => kk (.tup [.str "told", d]) M1) (noKL (GoodL X.K c1) kk)) (pp : Post X.K s1 kk Q) :
    codeAny (model X.prog X.w) X.A (.call (.ref g) ⟨[.ref f], []⟩) (CR (L2.CX X.prog X.w) X.stack X.prog X.w s1.H s Q (fun _ _ _ => False)) s := by
  obtain ⟨pg, sg, dV, kV, doc, pm, cdv, ct, oc, an, od, osl, j1, j2, k1, k3, p1, p2, p3, p4, p5, p6, q1, q2, q3, q4, q5, r1, r2, lk, hcg, hb, Sg, n1, n2, n3⟩ := TF.f
  have m1 := TF.cls
  have ok1 := er1.ok
  refine LamX.run_ofS (N := ["_law_ask", "e"]) (ps := ["_law_ask"]) (us := [.ref f]) (vs := [.ref f]) (k := k + 1) lk hcg Sg hr I1.env0 (hb s [.ref f] I1.kIn rfl) (.cons rfl .nil) rfl fun hr' => ?_
  let Ech : XK := fun cls d H' => ∃ C dd, cls = .ref C ∧ d = some dd ∧ GoodL X.K c1 C ∧ ∀ (σ' : L2.St), σ'.length = 2 → ∀ a, H' a = none → upS X.K (fun _ _ _ => False) (τSuiteL a dd) { nx := fun _ H' => Q .non H', rt := Q } (σ'.set 1 (some (.ref a))) H'
  let ts : Addr → Value → Option Addr → TS := fun a cls d D σ' H' => ∃ C dd, cls = .ref C ∧ d = some dd ∧ GoodL X.K c1 C ∧ upS X.K (fun _ _ _ => False) (τSuiteL a dd) D σ' H'
  have hsu : ∀ (a : Addr) (oe : Obj) (cls : Value) (d : Option Addr) (pn : List (Addr × Obj)), Zc cls d oe → (∃ vs, oe.data = .fields vs) →
      PSs ((cxOf (L2.CX X.prog X.w) X.prog X.w X.K X.mg X.base ["_law_ask", "e"] "_law_line_try" sg g cdv X.A X.stack s s1.H (fun _ _ _ => False)).suite a ((a, oe) :: pn))
        [.Return (some (.Tuple [.Constant (.str "no") j2 q2, .Attribute (.Name "e" q3) "line" q4] k3 q5)) q1] (ts a cls d) := by
    intro a oe cls d pn hz hfl
    refine ⟨fun pins2 s2 σ2 H2 D2 I2 h2 => ?_⟩
    obtain ⟨C, dd, rfl, rfl, hG, hu⟩ := h2
    exact (suite_L (X := (cxOf (L2.CX X.prog X.w) X.prog X.w X.K X.mg X.base ["_law_ask", "e"] "_law_line_try" sg g cdv X.A X.stack s s1.H (fun _ _ _ => False)).suite a ((a, oe) :: pn)) rfl (.inl n2) List.mem_cons_self hG hz hfl rfl rfl rfl).run pins2 s2 σ2 H2 D2 I2 hu
  refine ⟨_, pss_one (ps_try1 (X := cxOf (L2.CX X.prog X.w) X.prog X.w X.K X.mg X.base ["_law_ask", "e"] "_law_line_try" sg g cdv X.A X.stack s s1.H (fun _ _ _ => False)) (i := 1) (n := "e")
    (tb := fun W D σ' H' => (∀ cls d σ'' H'', Ech cls d H'' → W cls d σ'' H'') ∧ σ'[0]? = some (some (.ref f)) ∧ H' f = some (.ext (lamP X params body scope f c' t0)) ∧ (∀ b, t0 = some b → H' b = some (.tup [.int 0])) ∧ H' c' = some (LamX.CodeO c' (X.env.qual ++ "<lambda>")) ∧ up X.K Ech τ σ H' fun v H'' => ∀ p, H'' p = none → D.rt (.ref p) (upd H'' p (.tup [.str "told", v]))) (ts := ts)
    rfl rfl Sg.nd rfl n2 n3 m1 (fun W pn xe tk => ?_) hsu), ?_⟩
  · refine ⟨fun pins2 s2 σ2 H2 D2 I2 h2 => ?_⟩
    obtain ⟨hW, e1, e0, eT, e2, e3⟩ := h2
    have act := pe_actT (CXg := L2.CX X.prog X.w) (Eg := fun _ _ _ => False) (Ng := ["_law_ask", "e"]) (qg := "_law_line_try") (sg := sg) (g := g) (cdg := cdv) (k := k) (i := 0) (a := "_law_ask") (pn := pn) (xe := xe) (W := W) (E := Ech) (tb := up X.K Ech τ) (f := f) (c' := c') (t := t0) (p1 := p2) (p2 := p3)
      I1 L hbind tk hW hr' (fun A outer s H hr2 => hbody A outer s H Ech f c' hr2 (pass_own rfl rfl rfl rfl)) rfl (.inl n1)
    refine (pss_one (ps_ret (pos := p5) (pe_tup (x1 := k1) (pos := p4) (pa_cons (pe_str (x := "told") (j := j1) (pos := p1)) (pa_cons act pa_nil rfl) rfl)))).run pins2 s2 σ2 H2 D2 I2 ?_
    refine ⟨e1, e0, eT, e2, ?_⟩
    obtain ⟨ρ', t0, kk', xx', e4, er', q', pp', px'⟩ := e3
    exact ⟨ρ', t0, kk', xx', e4, er', q', fun d t hk st ok v r => ⟨by show 2 ≤ sizeLine; decide, fun p hp => pp' d t hk st ok v r p hp⟩, px'⟩
  · refine ⟨fun cls d σ'' H'' hE => ?_, rfl, ok1.sub _ _ hlam, fun b e => ok1.sub _ _ (hT b e), ok1.sub _ _ hc1, ?_⟩
    · obtain ⟨C, dd, rfl, rfl, hG, hs⟩ := hE
      exact ⟨hG.ex, fun hl a hn => ⟨C, dd, rfl, rfl, hG, hs σ'' hl a hn⟩⟩
    · refine ⟨ρ, s1, _, _, rfl, er1, q, fun d t hk st ok v r p hp => (pp.step st).tup hk ok (.cons .str (.cons r .nil)) hp, fun C fs t hx st ok dx fvs e1 e2 e3 e4 r => ?_⟩
      obtain ⟨hG, lv, l1, hk⟩ := hx
      refine ⟨C, dx, rfl, rfl, hG, fun σ' hl a hn => ?_⟩
      obtain ⟨oku, stu, sau⟩ := ok.shown2 st e4 e2 e3 e1
      obtain ⟨v0, v1, rfl⟩ : ∃ v0 v1, σ' = [v0, v1] := by
        match σ', hl with
        | [v0, v1], _ => exact ⟨v0, v1, rfl⟩
      refine ⟨[none, some (.exc a dx fs)], ⟨t.H, upd t.G dx (.xd fvs), t.M⟩, { nx := fun _ _ => False, rt := kk, m0 := t.M }, fun _ _ _ => False, rfl, ⟨oku, rfl, fun i d hd => ?_⟩, ?_, ⟨fun _ _ z => z.elim, ⟨_, Step.refl _, oku, rfl, pp.step stu⟩, fun _ _ z => z.elim, fun _ _ z => z.elim⟩, PostX.never⟩
      · match i, hd with
        | 1, hd =>
          cases hd
          exact ⟨.ref a, rfl, .exc upd_same (r.same sau)⟩
      · exact ⟨_, rfl, fs, lv, rfl, l1, by show 2 ≤ sizeLine; decide, hk⟩
end
/-- _law_try(y), y the slot i of the block: one of the lambdas LK -/
def dTryVL (X : Cx) (Good : Addr → Prop) (LK : Bool → Arguments → Expr → Scope → DE → Prop) (i : Nat) : DEnv → DE := fun ρX ρ M k _ => ∃ f c t params body scope τ, ρ[i]? = some (some (.lam f c (X.env.qual ++ "<lambda>") (lamP X params body scope f c t) t)) ∧ LK t.isSome params body scope τ ∧ τ ρX M (fun d M1 => k (.tup [.str "told", d]) M1) (noKL Good k)
section
variable {X : Cx} {c1 : Value} {g : Addr} {k i : Nat} {LK : Bool → Arguments → Expr → Scope → DE → Prop} {y : Str} {sB : Shared} {HB : Hp} {scopeB : Scope} {ce : Env} {fp : List Addr} {pins0 : List (Addr × Obj)} {σX : L2.St} {p py pos : Pos}
theorem p_tryInL (TF : LineF X.prog X.w X.K X.mg X.base c1 g) (hL : ∀ d params body scope τ, LK d params body scope τ → LamK X k d params body scope τ) (hr : Room (k + 2) X.A) (hg : Gl (X.blk sB HB scopeB ce fp) "_law_line_try") (hN : X.N[i]? = some y) (hv : Vis ce.scope y)
    (back : ∀ (pins' : List (Addr × Obj)) (σ' : L2.St) (H' : Hp) (s' : Shared), Inv (X.blk sB HB scopeB ce fp) pins' σ' H' s' → Inv X pins0 σX H' s') (hd : (y == ("__debug__" : Str)) = false := by decide) (hcd : (y == ("__classdict__" : Str)) = false := by decide) :
    PE (X.blk sB HB scopeB ce fp) (.Call (.Name "_law_line_try" p) [.Name y py] [] pos) (upX X.K E0 (dTryVL X (GoodL X.K c1) LK i) σX) := by
  refine ⟨fun pins s σ H Q I h => ?_⟩
  obtain ⟨ρX, ρ, s0, kk, xx, rfl, erX, er, ⟨f, c, t, params, body, scope, τ, hi, hk, q⟩, pp, px⟩ := h
  obtain ⟨v, hv1, rv⟩ := er.at_ i _ hi
  cases rv with
  | lam hG hcG hT =>
  have LL := hL _ _ _ _ _ hk
  refine wpAny_Call_Name_kw (ld_glob I hg TF.m ?_ (by decide))
  refine PySem.W.callWith_K (h₀ := X.base) I.ok.mod.kin TF.k ?_ (by rfl) (by rfl)
  show wpAny _ _ (spliced ((false, eval (.Name y py) (X.blk sB HB scopeB ce fp).env) :: backTo pos (starEach [] (X.blk sB HB scopeB ce fp).env))) _ _ s
  refine Calls.spliced_cons (thn ((pe_var (X := X.blk sB HB scopeB ce fp) (pos := py) (i := i) hN hv hd hcd).run pins s σ s0.H (fun v H1 => v = .ref f ∧ H1 = s0.H) I ⟨.ref f, hv1, rfl, rfl⟩) fun u s1 ⟨v', H1, I1, r1, e1, e2⟩ => ?_)
  subst e1
  rw [e2] at I1
  obtain rfl : u = Value.ref f := r1
  refine Calls.spliced_nil ⟨I1.kIn, ?_⟩
  have rc := run_tryTL TF (back _ _ _ _ I1) erX hG hT hcG hr LL.L LL.bind LL.body q pp
  refine wpAny_call (codeAny_mono rc fun r s2 hq => ?_)
  match r, hq with
  | .error e, hq =>
    obtain ⟨_, _, _, _, _, _, _, _, _, _, _, _, z⟩ := hq
    exact z.elim
  | .ok (.ret u), hq => exact I1.after hq
  | .ok .next, hq => exact hq.elim
  | .ok .brk, hq => exact hq.elim
  | .ok .cont, hq => exact hq.elim
end
end DL
set_option Elab.async false
set_option linter.all false
set_option maxRecDepth 100000
set_option maxHeartbeats 2000000
namespace DL
open PySem PySem.Spec PyProof.Rows L2
theorem takes_no {X : Cx} : Takes X (fun _ _ _ _ => False) := fun u s' h => by
  obtain ⟨_, _, _, _, _, _, _, _, _, _, _, _, _, _, _, _, z⟩ := h
  exact z.elim
theorem takes_mono {X : Cx} {W W' : WX} (tk : Takes X W') (h : ∀ cls d σ H, W cls d σ H → W' cls d σ H) : Takes X W := fun u s' z => by
  obtain ⟨a, B, sI, pins, σ, H, cls, d, e, J, nb, up, sky, na, os, ag, hw⟩ := z
  exact tk u s' ⟨a, B, sI, pins, σ, H, cls, d, e, J, nb, up, sky, na, os, ag, h _ _ _ _ hw⟩
/-- try: body / except x: return None -/
def dTryN (Good : Addr → Prop) (τb : DS) : DS := fun k _ ρ M => τb k (fun C _ M1 => Good C ∧ k.rt .non M1) ρ M
section
variable {X : Cx} {E : XK} {x : Str} {c : Value} {body : List Stmt} {τb : DS} {j : Nat} {np p2 p3 pos pos' : Pos} {Good : Addr → Prop}
theorem s_tryN (hs : X.stack = X.env :: X.outer) (hf : X.env.frame = some X.env.locals) (hg : Gl X x) (hm : X.mg x = some c) (hG : ∀ C, Good C → PySem.W.exmOne X.K (.ref C) c = some true)
    (hb : ∀ (pn : List (Addr × Obj)) (xe : Value → Shared → Prop) (E' : XK), Takes (X.tr pn xe) (fun cls d _ H' => E' cls d H') → Passes (L2.CX X.prog X.w) (X.tr pn xe) E' → DPB (X.tr pn xe) E' body τb)
    (hdb : (x == ("__debug__" : Str)) = false := by decide) :
    DPS X E (.Try body [.ExceptHandler (some (.Name x np)) none [.Return (some (.Constant .none j p3)) p2] pos'] [] [] pos) (dTryN Good τb) := by
  refine ps_mono (ps_try_only hs hf ⟨hg, hdb, .inl hm⟩ takes_no (tb := fun W D σ H => ∃ E' : XK, (∀ cls d σ'' H'', E' cls d H'' → W cls d σ'' H'') ∧ upS X.K E' τb D σ H) (ts := fun a cls d D σ H => D.rt .non H) (fun W pn xe tk _ => ?_) (fun a oe cls d pn hz hfl => ?_)) fun D σ H h => ?_
  · refine ⟨fun pins s σ H D I ⟨E', hW, h⟩ => ?_⟩
    exact (hb pn xe E' (takes_mono tk fun cls d σ H h => hW _ _ _ _ h) (passes_call tk hW)).run pins s σ H D I h
  · exact pss_one (ps_ret pe_non)
  · obtain ⟨ρ, s, k, x, rfl, er, q, p, px⟩ := h
    refine ⟨fun cls d H' => ∃ C, cls = .ref C ∧ Good C ∧ D.rt .non H', fun cls d σ'' H'' ⟨C, e, hg, hr⟩ => ?_, ρ, s, k, _, rfl, er, q, p, fun C fs t hx st ok dx fvs e1 e2 e3 e4 r => ?_⟩
    · subst e; exact ⟨true, hG C hg, fun _ a hn => hr, fun z => by cases z⟩
    · obtain ⟨b, s1, o, m, q2⟩ := p.rt
      exact ⟨C, rfl, hx.1, q2 .non t hx.2 (s1.trans st) ok _ .non⟩
end
end DL
set_option Elab.async false
set_option linter.all false
set_option maxRecDepth 100000
set_option maxHeartbeats 2000000
namespace DL
open PySem PySem.Spec PyProof.Rows L2
/-- a hidden object becomes a changing one -/
theorem Ok.shownM {K : PySem.W.Frag} {s b : Sta} {p : Addr} {o : HO} {mo : MO} (k : Ok K s) (st : Step b s) (hb : b.H p = none) (hg : s.G p = none) (hm : s.M p = none) (ho : s.H p = some o) (r : MRep K s.G (some o) mo) : Ok K ⟨s.H, s.G, mup s.M p mo⟩ ∧ Step b ⟨s.H, s.G, mup s.M p mo⟩ := by
  refine ⟨⟨k.sub, fun a mo' e => ?_, fun a mo' e => ?_⟩, ⟨st.same, fun a x => ?_, fun a u h1 h2 h3 => ?_⟩⟩
  · by_cases ea : a = p
    · subst ea; exact hg
    · have e' : mup s.M p mo a = some mo' := e
      rw [mup_ne ea] at e'
      exact k.apart a mo' e'
  · have e' : mup s.M p mo a = some mo' := e
    show MRep K s.G (s.H a) mo'
    by_cases ea : a = p
    · subst ea
      rw [mup_same] at e'
      cases e'
      rw [ho]
      exact r
    · rw [mup_ne ea] at e'
      exact k.cells a mo' e'
  · show (mup s.M p mo a).isSome = true
    by_cases ea : a = p
    · subst ea; rw [mup_same]; rfl
    · rw [mup_ne ea]; exact st.dom a x
  · have ne : a ≠ p := ne_of_none h1 hb
    obtain ⟨g1, g2, g3⟩ := st.hid a u h1 h2 h3
    exact ⟨g1, g2, by show mup s.M p mo a = none; rw [mup_ne ne]; exact g3⟩
section
variable {X : Cx} {E : XK} {tg iter : Expr} {pos : Pos}
/-- the comprehension as a changing list -/
def dLcM (ι : DI) (g : DG) (θ : DT) (ε : DE) (vs : List Nat) : DE := fun ρ M k x => dLc ι g θ ε vs ρ M (fun d M1 => ∃ ds, d = .lst ds ∧ ∀ p, M1 p = none → k (.cel p) (mup M1 p (.lst ds))) x
theorem up_lcM {K : PySem.W.Frag} {ι : DI} {g : TG} {γ : DG} {θ : DT} {ε : DE} {vs : List Nat} {σ : L2.St} {H : Hp} {Q : VK} (gp : GPair K g γ vs) (h : up K E (dLcM ι γ θ ε vs) σ H Q) : tLc (upI K E ι) g (upT K E0 θ) (up K E0 ε) vs σ H Q := by
  obtain ⟨ρ, s, k, x, rfl, er, q, p, px⟩ := h
  refine ⟨ρ, s, _, x, rfl, er, q, px, fun ds s1 q1 st1 ok1 J it => ?_⟩
  rcases q1 with ⟨hlen, I, i0, turn, fin⟩ | z
  case no => exact z.elim
  intro L hL
  -- the list at L is hidden while it grows
  have inv0 : ∃ (acc : List D) (vs' : List V) (s' : Sta), s'.H = upd s1.H L (.lst []) ∧ Ok K s' ∧ Step s1 s' ∧ s'.G L = none ∧ s'.M L = none ∧ s'.H L = some (.lst vs') ∧ Reps K s'.G vs' acc ∧ acc.length ≤ 0 ∧ I 0 acc s'.M := by
    obtain ⟨k1, st⟩ := ok1.hide (o := .lst []) (Step.refl s1) hL (ok1.freeG hL) (ok1.freeM hL)
    exact ⟨[], [], ⟨_, _, _⟩, rfl, k1, st, ok1.freeG hL, ok1.freeM hL, upd_same, .nil, Nat.le_refl _, i0⟩
  refine ⟨fun j m H' => m = ds.length - j ∧ j ≤ ds.length ∧ ∃ (acc : List D) (vs' : List V) (s' : Sta), s'.H = H' ∧ Ok K s' ∧ Step s1 s' ∧ s'.G L = none ∧ s'.M L = none ∧ s'.H L = some (.lst vs') ∧ Reps K s'.G vs' acc ∧ acc.length ≤ j ∧ I j acc s'.M,
    ⟨ds.length, rfl, Nat.zero_le _, inv0⟩, ?_⟩
  rintro j m H' ⟨rfl, hj, acc, vs', s', rfl, ok', st', gL, mL, hL', rs, hal, ij⟩
  by_cases hlt : j < ds.length
  · refine .inr ⟨it.go j s' st' ok' hlt, fun H2 => ∃ (acc : List D) (vs' : List V) (s' : Sta), s'.H = H2 ∧ Ok K s' ∧ Step s1 s' ∧ s'.G L = none ∧ s'.M L = none ∧ s'.H L = some (.lst vs') ∧ Reps K s'.G vs' acc ∧ acc.length ≤ j + 1 ∧ I (j + 1) acc s'.M,
      fun H2 z => ⟨ds.length - (j + 1), by omega, rfl, hlt, z⟩, fun v H2 y => ?_⟩
    obtain ⟨d, hd⟩ : ∃ d, ds[j]? = some d := ⟨ds[j], by simp [hlt]⟩
    obtain ⟨u, rfl, eM, stu, oku, ru⟩ := it.yld j s' v H2 st' ok' y d hd
    have ij' : I j acc u.M := by rw [eM]; exact ij
    obtain ⟨hLu, gLu, mLu⟩ := stu.hid L _ hL' gL mL
    have eru : ER K u (wipe σ vs) (wipeD ρ vs) := (er.step ((st1.trans st').trans stu) oku).wipe vs
    refine gp.run v d _ _ u _ _ eru ru (turn j d acc u.M hd ij') fun ρ3 σ3 q3 er3 w3 => ⟨w3.trans (wipe_wipe σ vs), ?_⟩
    refine ⟨ρ3, u, _, _, rfl, er3, q3, fun b s4 q4 st4 ok4 => ?_, PostX.never⟩
    obtain ⟨hL4, gL4, mL4⟩ := st4.hid L _ hLu gLu mLu
    cases b with
    | true =>
      rw [if_pos rfl] at q4 ⊢
      refine ⟨ρ3, s4, _, _, rfl, er3.step st4 ok4, q4, fun yd s5 q5 st5 ok5 yv ry => ?_, PostX.never⟩
      obtain ⟨hL5, gL5, mL5⟩ := st5.hid L _ hL4 gL4 mL4
      have rs5 : Reps K s5.G vs' acc := rs.same ((stu.trans st4).trans st5).same
      refine ⟨vs', hL5, by rw [rs5.length]; omega, ?_⟩
      obtain ⟨k6, st6⟩ := ok5.hide (o := .lst (vs' ++ [yv])) (((st'.trans stu).trans st4).trans st5) hL gL5 mL5
      exact ⟨acc ++ [yd], vs' ++ [yv], ⟨_, _, _⟩, rfl, k6, st6, gL5, mL5, upd_same, rs5.append (.cons ry .nil), by simp; omega, q5⟩
    | false =>
      rw [if_neg Bool.false_ne_true] at q4 ⊢
      exact ⟨acc, vs', s4, rfl, ok4, (st'.trans stu).trans st4, gL4, mL4, hL4, rs.same (stu.trans st4).same, by omega, q4⟩
  · have ej : j = ds.length := by omega
    subst ej
    refine .inl ⟨it.stop s' st' ok', ?_⟩
    obtain ⟨es, ee, hk⟩ := fin acc s'.M ij
    cases ee
    obtain ⟨k6, st6⟩ := ok'.shownM (mo := .lst acc) st' hL gL mL hL' ⟨vs', rfl, rs⟩
    exact p _ ⟨s'.H, s'.G, mup s'.M L (.lst acc)⟩ (hk L mL) (st1.trans st6) k6 _ .cel
variable {elt : Expr} {ifs : List Expr} {scope : Scope} {own : List (Str × Nat)} {ι : DI} {g : TG} {γ : DG} {θ : DT} {ε : DE}
theorem s_setLcM {i : Nat} {y : Str} {py spos : Pos} (hc : X.calm = true) (hN : X.N.Nodup) (hy : X.N[i]? = some y) (hyl : X.env.scope.names.lookup y = some .local)
    (hsw : swapsWith (.ListComp elt [⟨tg, iter, ifs, 0⟩] scope pos) (some (.Name y py)) spos.line X.env = pure true) (hi : DPI X E tg iter ι) (ok : BlkOk X.N X.env.scope scope own) (gp : GPair X.K g γ (own.map (·.2)))
    (hg : ∀ (s : Shared) (H : Hp) (C : Addr) (cl : List (Str × Addr)) (fp : List Addr), PG (X.blk s H scope (compEnvC scope cl C X.env) fp) tg g) (ht : ∀ (s : Shared) (H : Hp) (C : Addr) (cl : List (Str × Addr)) (fp : List Addr), DPTs (X.blk s H scope (compEnvC scope cl C X.env) fp) E0 ifs θ)
    (he : ∀ (s : Shared) (H : Hp) (C : Addr) (cl : List (Str × Addr)) (fp : List Addr), DP (X.blk s H scope (compEnvC scope cl C X.env) fp) E0 elt ε) (hs : ∀ x, foldedSetIterable iter X.env x = pure x := by intro _; rfl) :
    DPS X E (.Assign [.Name y py] (.ListComp elt [⟨tg, iter, ifs, 0⟩] scope pos) spos) (dSet i (dLcM ι γ θ ε (own.map (·.2)))) := ps_mono (ps_setLc (tt := upT X.K E0 θ) (te := up X.K E0 ε) hc hN hy hyl hsw hi ok hg ht he hs) fun D σ H h => by
  obtain ⟨ρ, s, k, x, rfl, er, q, p, px⟩ := h
  refine up_lcM gp ⟨ρ, s, _, x, rfl, er, q, fun u s1 q1 st1 ok1 v1 r1 => p.nx _ s1 q1 st1 _ ((er.step st1 ok1).set i r1), px⟩
end
section
variable {X : Cx} {E : XK}
/-! ### order of data -/
inductive LtD : D → D → PyData → PyData → Prop where
  | mk {x y : D} {p q : PyData} (h1 : toP x = some p) (h2 : toP y = some q) (h3 : SeqAt.shaped p = true) (h4 : SeqAt.shaped q = true) (h5 : PySem.W.alike p q = true) (h6 : p ≠ .none) : LtD x y p q
def dLtD : D2 := fun x y M k _ => ∃ p q, LtD x y p q ∧ k (.bl (PySem.W.dataLt p q)) M
def dGtD : D2 := fun x y M k _ => ∃ p q, LtD x y p q ∧ k (.bl (PySem.W.dataLt q p)) M
def dLeD : D2 := fun x y M k _ => ∃ p q, LtD x y p q ∧ k (.bl (!PySem.W.dataLt q p)) M
def dGeD : D2 := fun x y M k _ => ∃ p q, LtD x y p q ∧ k (.bl (!PySem.W.dataLt p q)) M
theorem o_ltD (hu : X.A.units + 64 < cLine) : OpR X (compareOp .Lt) (r2 X.K E dLtD) := by
  intro pins s σ H x y u v Q I rx ry h
  obtain ⟨s0, dx, dy, k, xx, rfl, ok, hx, hy, ⟨p, q, ⟨h1, h2, h3, h4, h5, h6⟩, qq⟩, pp, px⟩ := h
  obtain ⟨as, r1⟩ := Dp.reads I _ _ _ (Dp.same ok.sub (dp_of hx h1)) rx
  obtain ⟨bs, r2⟩ := Dp.reads I _ _ _ (Dp.same ok.sub (dp_of hy h2)) ry
  exact PySem.W.lt_data r1 r2 h5 h6 (SeqAt.room_of_shaped h3 hu) ⟨.bl _, s0.H, I, rfl, pp.now qq ok .bl⟩
theorem o_gtD (hu : X.A.units + 64 < cLine) : OpR X (compareOp .Gt) (r2 X.K E dGtD) := by
  intro pins s σ H x y u v Q I rx ry h
  obtain ⟨s0, dx, dy, k, xx, rfl, ok, hx, hy, ⟨p, q, ⟨h1, h2, h3, h4, h5, h6⟩, qq⟩, pp, px⟩ := h
  obtain ⟨as, r1⟩ := Dp.reads I _ _ _ (Dp.same ok.sub (dp_of hx h1)) rx
  obtain ⟨bs, r2⟩ := Dp.reads I _ _ _ (Dp.same ok.sub (dp_of hy h2)) ry
  exact PySem.W.gt_data r1 r2 h5 h6 (SeqAt.room_of_shaped h3 hu) ⟨.bl _, s0.H, I, rfl, pp.now qq ok .bl⟩
theorem o_leD (hu : X.A.units + 64 < cLine) : OpR X (compareOp .LtE) (r2 X.K E dLeD) := by
  intro pins s σ H x y u v Q I rx ry h
  obtain ⟨s0, dx, dy, k, xx, rfl, ok, hx, hy, ⟨p, q, ⟨h1, h2, h3, h4, h5, h6⟩, qq⟩, pp, px⟩ := h
  obtain ⟨as, r1⟩ := Dp.reads I _ _ _ (Dp.same ok.sub (dp_of hx h1)) rx
  obtain ⟨bs, r2⟩ := Dp.reads I _ _ _ (Dp.same ok.sub (dp_of hy h2)) ry
  exact PySem.W.le_data r1 r2 h5 h6 (SeqAt.room_of_shaped h3 hu) ⟨.bl _, s0.H, I, rfl, pp.now qq ok .bl⟩
theorem o_geD (hu : X.A.units + 64 < cLine) : OpR X (compareOp .GtE) (r2 X.K E dGeD) := by
  intro pins s σ H x y u v Q I rx ry h
  obtain ⟨s0, dx, dy, k, xx, rfl, ok, hx, hy, ⟨p, q, ⟨h1, h2, h3, h4, h5, h6⟩, qq⟩, pp, px⟩ := h
  obtain ⟨as, r1⟩ := Dp.reads I _ _ _ (Dp.same ok.sub (dp_of hx h1)) rx
  obtain ⟨bs, r2⟩ := Dp.reads I _ _ _ (Dp.same ok.sub (dp_of hy h2)) ry
  exact PySem.W.ge_data r1 r2 h5 h6 (SeqAt.room_of_shaped h3 hu) ⟨.bl _, s0.H, I, rfl, pp.now qq ok .bl⟩
/-! ### in a list of data of any depth -/
def dInD (neg : Bool) : D2 := fun x y M k _ => ∃ d ds, toP x = some d ∧ toP y = some (.list ds) ∧ SeqAt.shaped d = true ∧ SeqAt.shaped (.list ds) = true ∧ k (.bl (if neg then !ds.any fun z => PyData.eqv z d else ds.any fun z => PyData.eqv z d)) M
theorem o_inD (hu : X.A.units + 65 < cLine) : OpR X (compareOp .In) (r2 X.K E (dInD false)) := by
  intro pins s σ H x y u v Q I rx ry h
  obtain ⟨s0, dx, dy, k, xx, rfl, ok, hx, hy, ⟨d, ds, h1, h2, h3, h4, qq⟩, pp, px⟩ := h
  exact op_inD hu pins s σ _ _ _ u v Q I rx ry ⟨_, _, Dp.same ok.sub (dp_of hx h1), Dp.same ok.sub (dp_of hy h2), h3, h4, pp.now qq ok .bl⟩
theorem o_notInD (hu : X.A.units + 65 < cLine) : OpR X (compareOp .NotIn) (r2 X.K E (dInD true)) := by
  intro pins s σ H x y u v Q I rx ry h
  obtain ⟨s0, dx, dy, k, xx, rfl, ok, hx, hy, ⟨d, ds, h1, h2, h3, h4, qq⟩, pp, px⟩ := h
  exact op_notInD hu pins s σ _ _ _ u v Q I rx ry ⟨_, _, Dp.same ok.sub (dp_of hx h1), Dp.same ok.sub (dp_of hy h2), h3, h4, pp.now qq ok .bl⟩
/-- l.index(x), data of any depth -/
def dIndexD : D → List D → Mm → DK → DX → Prop := fun x ds M k _ => ∃ (y : D) (d : PyData) (ps : List PyData) (j : Nat) (z : PyData), ds = [y] ∧ toP x = some (.list ps) ∧ toP y = some d ∧ SeqAt.shaped (.list ps) = true ∧ SeqAt.shaped d = true ∧
  ps[j]? = some z ∧ PyData.eqv z d = true ∧ (∀ (m : Nat) (z' : PyData), m < j → ps[m]? = some z' → PyData.eqv z' d = false) ∧ k (.int (j : Nat)) M
/-- list * int -/
def dMulL : D2
  | .lst xs, .int n, M, k, _ => -(2 ^ 63) ≤ n ∧ n < 2 ^ 63 ∧ xs.length * n.toNat ≤ sizeLine ∧ k (.lst (List.replicate n.toNat xs).flatten) M
  | _, _, _, _, _ => False
theorem reps_rep {K : PySem.W.Frag} {G : Hp} {vs : List V} {ds : List D} (h : Reps K G vs ds) : ∀ n : Nat, Reps K G (List.replicate n vs).flatten (List.replicate n ds).flatten
  | 0 => .nil
  | n + 1 => by
    rw [List.replicate_succ, List.replicate_succ, List.flatten_cons, List.flatten_cons]
    exact h.append (reps_rep h n)
theorem o_mulL : OpR X (binaryOp .Mult) (r2 X.K E dMulL) := by
  intro pins s σ H x y u v Q I rx ry h
  obtain ⟨s0, dx, dy, k, xx, rfl, ok, hx, hy, q, p, px⟩ := h
  unfold dMulL at q
  split at q
  · rename_i xs n
    obtain ⟨a, vs, rfl, ha, r⟩ := hx.lst_of
    cases hy
    obtain ⟨h1, h2, h3, q⟩ := q
    exact op_rep pins s σ _ _ _ u v Q I rx ry ⟨a, n, vs, rfl, rfl, ok.sub _ _ ha, h1, h2, by rw [r.length]; exact h3, fun z hz => p.lst q ok (reps_rep r _) hz⟩
  · exact q.elim
theorem units65 {k : Nat} {A : Around} (r : Room k A) : A.units + 65 < cLine := by have := r.un; omega
end
end DL
set_option Elab.async false
set_option linter.all false
set_option maxRecDepth 100000
set_option maxHeartbeats 2000000
namespace DL
open PySem PySem.Spec PyProof.Rows L2
/-! ### enumerate(list) -/
def enums (ds : List D) : List D := ds.mapIdx fun i d => .tup [.int (i : Nat), d]
theorem enums_length (ds : List D) : (enums ds).length = ds.length := List.length_mapIdx
theorem enums_get {ds : List D} {i : Nat} {d : D} (h : (enums ds)[i]? = some d) : ∃ e, ds[i]? = some e ∧ d = .tup [.int (i : Nat), e] := by
  unfold enums at h
  rw [List.getElem?_mapIdx] at h
  cases e : ds[i]? with
  | none => rw [e] at h; cases h
  | some v => rw [e] at h; cases h; exact ⟨v, rfl, rfl⟩
theorem itD_enum {K : PySem.W.Frag} {s : Sta} {l : Addr} {vs : List V} {ds : List D} (h : s.G l = some (.lst vs)) (r : Reps K s.G vs ds) : ItD K s (Ite K l) (enums ds) := by
  have at1 : ∀ t, Step s t → Ok K t → SqL K t.H l vs := fun t st ok => SqL.of (ok.sub _ _ (st.same _ _ h))
  have hl := r.length
  refine ⟨fun i t st ok hi => ?_, fun t st ok => ⟨vs, at1 t st ok, ?_⟩, fun i t x H' st ok y d hd => ?_⟩
  · rw [enums_length] at hi
    exact ⟨vs, vs[i]'(by omega), at1 t st ok, by simp⟩
  · rw [enums_length]; omega
  · obtain ⟨d1, e1, rfl⟩ := enums_get hd
    obtain ⟨T, x1, rfl, hT, rfl, y1⟩ := y
    obtain ⟨v1, w1, p1⟩ := r.get e1
    have q1 := y1 vs (at1 t st ok)
    rw [w1] at q1
    cases q1
    exact yld_pair ok hT .int (p1.same st.same)
def iEnumD (α : DA) : DI := fun ρ M k x => α ρ M (fun us M1 => ∃ ds, us = [.lst ds] ∧ k (enums ds) M1) x
section
variable {X : Cx} {E : XK} {a : Expr} {pos : Pos} {αa : DA}
theorem i_enum {p tpos : Pos} {elts : List Expr} {kk : Nat} (hg : Gl X "enumerate") (hm : X.mg "enumerate" = none) (ha : DPA X E [a] αa) (hs : starEach [a] X.env = [(false, eval a X.env)] := by rfl) :
    DPI X E (.Tuple elts kk tpos) (.Call (.Name "enumerate" p) [a] [] pos) (iEnumD αa) :=
  pi_mono (pi_enum hg hm ha hs) fun σ H R h => by
    obtain ⟨ρ, s, k, x, rfl, er, q, px, p⟩ := h
    refine ⟨ρ, s, _, x, rfl, er, q, fun us s1 q1 st1 ok1 vs r1 => ?_, px⟩
    obtain ⟨ds, rfl, q1⟩ := q1
    obtain ⟨v, rfl, rv⟩ := r1.one
    obtain ⟨c, ws, rfl, hc, rs⟩ := rv.lst_of
    exact ⟨c, ws, rfl, SqL.of (ok1.sub _ _ hc), p _ s1 q1 st1 ok1 _ (itD_enum hc rs)⟩
theorem m_indexD (hu : X.A.units + 65 < cLine) : MtR X "list.index" (rM X.K E dIndexD) := by
  intro pins s σ H x xs v us Q I rx rs h
  obtain ⟨s0, dx, ds, k, xx, rfl, ok, hx, hxs, ⟨y, d, ps, j, z, rfl, h1, h2, h3, h4, h5, h6, h7, q⟩, p, px⟩ := h
  obtain ⟨w, rfl, rw1⟩ := hxs.one
  have d1 := Dp.same ok.sub (dp_of hx h1)
  have d2 := Dp.same ok.sub (dp_of rw1 h2)
  cases d1 with
  | @lst a _ _ hs hr => exact mt_indexD hu pins s σ _ _ _ v us Q I rx rs ⟨a, w, d, ps, j, z, rfl, rfl, .lst hs hr, d2, h3, h4, h5, h6, h7, p.now q ok .int⟩
end
end DL
set_option Elab.async false
set_option linter.all false
namespace RT
/-- lowest terms, a positive bottom -/
def nrm (a b : Int) : Int × Int := if b < 0 then (a.fdiv (0 - (Int.gcd a b : Int)), b.fdiv (0 - (Int.gcd a b : Int))) else (a.fdiv (Int.gcd a b), b.fdiv (Int.gcd a b))
structure Nf (a b : Int) : Prop where
  pos : 0 < b
  one : Int.gcd a b = 1
theorem gcd_pos {a b : Int} (h : b ≠ 0) : 0 < Int.gcd a b := Int.gcd_pos_of_ne_zero_right a h
/-- the parts of a fraction -/
theorem parts {a b : Int} (h : b ≠ 0) : ∃ a' b' : Int, a = (Int.gcd a b : Int) * a' ∧ b = (Int.gcd a b : Int) * b' ∧ Int.gcd a' b' = 1 := by
  obtain ⟨a', ha⟩ := Int.gcd_dvd_left (a := a) (b := b)
  obtain ⟨b', hb⟩ := Int.gcd_dvd_right (a := a) (b := b)
  refine ⟨a', b', ha, hb, ?_⟩
  have e : Int.gcd ((Int.gcd a b : Int) * a') ((Int.gcd a b : Int) * b') = (Int.gcd a b : Int).natAbs * Int.gcd a' b' := Int.gcd_mul_left _ _ _
  rw [← ha, ← hb, Int.natAbs_natCast] at e
  have g0 := gcd_pos (a := a) h
  exact Nat.eq_of_mul_eq_mul_left g0 (by rw [← e, Nat.mul_one])
theorem nrm_spec {a b : Int} (h : b ≠ 0) : Nf (nrm a b).1 (nrm a b).2 ∧ (nrm a b).1 * b = a * (nrm a b).2 := by
  obtain ⟨a', b', ha, hb, h1⟩ := parts (a := a) h
  have g0 : (0 : Int) < (Int.gcd a b : Int) := Int.natCast_pos.mpr (gcd_pos h)
  generalize hg : (Int.gcd a b : Int) = g at ha hb g0
  have b0 : b' ≠ 0 := fun z => by rw [z, Int.mul_zero] at hb; exact h hb
  unfold nrm
  rw [hg]
  split
  · rename_i hlt
    have e1 : a.fdiv (0 - g) = -a' := by
      rw [ha, show g * a' = (0 - g) * (-a') by rw [Int.zero_sub, Int.neg_mul_neg]]
      exact Int.mul_fdiv_cancel_left _ (by omega)
    have e2 : b.fdiv (0 - g) = -b' := by
      rw [hb, show g * b' = (0 - g) * (-b') by rw [Int.zero_sub, Int.neg_mul_neg]]
      exact Int.mul_fdiv_cancel_left _ (by omega)
    rw [e1, e2]
    have bn : b' < 0 := by
      rcases Int.lt_or_lt_of_ne b0 with z | z
      · exact z
      · have := Int.mul_pos g0 z
        omega
    refine ⟨⟨by show 0 < -b'; omega, by show Int.gcd (-a') (-b') = 1; rw [Int.gcd_neg, Int.neg_gcd]; exact h1⟩, ?_⟩
    show -a' * b = a * -b'
    rw [ha, hb, Int.neg_mul, Int.mul_neg, Int.mul_left_comm, Int.mul_assoc]
  · rename_i hlt
    have e1 : a.fdiv g = a' := by rw [ha]; exact Int.mul_fdiv_cancel_left _ (by omega)
    have e2 : b.fdiv g = b' := by rw [hb]; exact Int.mul_fdiv_cancel_left _ (by omega)
    rw [e1, e2]
    have bp : 0 < b' := by
      rcases Int.lt_or_lt_of_ne b0 with z | z
      · have := Int.mul_neg_of_pos_of_neg g0 z
        omega
      · exact z
    refine ⟨⟨bp, h1⟩, ?_⟩
    show a' * b = a * b'
    rw [ha, hb, Int.mul_left_comm, Int.mul_assoc]
theorem nrm_nf {a b : Int} (h : b ≠ 0) : Nf (nrm a b).1 (nrm a b).2 := (nrm_spec h).1
theorem nrm_val {a b : Int} (h : b ≠ 0) : (nrm a b).1 * b = a * (nrm a b).2 := (nrm_spec h).2
theorem cop_dvd {a b d : Int} (h : b ∣ a * d) (g : Int.gcd a b = 1) : b ∣ d := by
  have h' : b.natAbs ∣ a.natAbs * d.natAbs := by rw [← Int.natAbs_mul]; exact Int.natAbs_dvd_natAbs.mpr h
  have c : Nat.Coprime b.natAbs a.natAbs := by
    show Nat.gcd _ _ = 1
    rw [Nat.gcd_comm]
    exact g
  exact Int.natAbs_dvd_natAbs.mp (c.dvd_of_dvd_mul_left h')
theorem nf_eq {a b c d : Int} (h1 : Nf a b) (h2 : Nf c d) (e : a * d = c * b) : a = c ∧ b = d := by
  have p1 := h1.pos
  have p2 := h2.pos
  have d1 : b ∣ d := cop_dvd (a := a) ⟨c, by rw [e, Int.mul_comm]⟩ h1.one
  have d2 : d ∣ b := cop_dvd (a := c) ⟨a, by rw [← e, Int.mul_comm]⟩ h2.one
  have eb : b = d := by
    have l1 := Int.le_of_dvd p2 d1
    have l2 := Int.le_of_dvd p1 d2
    omega
  subst eb
  refine ⟨?_, rfl⟩
  exact Int.eq_of_mul_eq_mul_right (by omega) e
theorem nrm_of_nf {a b : Int} (h : Nf a b) : nrm a b = (a, b) := by
  have p := h.pos
  obtain ⟨e1, e2⟩ := nf_eq (nrm_nf (a := a) (b := b) (by omega)) h (nrm_val (by omega))
  exact Prod.ext e1 e2
end RT
set_option Elab.async false
set_option linter.all false
namespace RT
/-- a cut: a ratio and 0 (ahead of it) or 1 (behind it) -/
structure Cut where
  a : Int
  b : Int
  k : Int
def Cut.lt (x y : Cut) : Prop := x.a * y.b < y.a * x.b ∨ (x.a * y.b = y.a * x.b ∧ x.k < y.k)
instance (x y : Cut) : Decidable (Cut.lt x y) := inferInstanceAs (Decidable (_ ∨ _ ∧ _))
structure Cut.Ok (x : Cut) : Prop where
  nf : Nf x.a x.b
  k01 : x.k = 0 ∨ x.k = 1
def geC (f : Cut) (p q : Int) : Prop := f.a * q < p * f.b ∨ (f.a * q = p * f.b ∧ f.k = 0)
def leC (c : Cut) (p q : Int) : Prop := p * c.b < c.a * q ∨ (p * c.b = c.a * q ∧ c.k = 1)
def inI (f : Cut) (l : Option Cut) (p q : Int) : Prop := geC f p q ∧ ∀ c, l = some c → leC c p q
theorem fd_spec {a b : Int} (h : 0 < b) : a.fdiv b * b ≤ a ∧ a < a.fdiv b * b + b := by
  rw [Int.fdiv_eq_ediv_of_nonneg _ (by omega)]
  have h1 := Int.ediv_mul_le a (show b ≠ 0 by omega)
  have h2 := Int.lt_ediv_add_one_mul_self a h
  constructor
  · exact h1
  · rw [Int.add_mul, Int.one_mul] at h2; exact h2
theorem lt_of_mul {x y b : Int} (h : x * b < y * b) (hb : 0 < b) : x < y := Int.lt_of_mul_lt_mul_right h (by omega)
theorem le_of_mul {x y b : Int} (h : x * b ≤ y * b) (hb : 0 < b) : x ≤ y := Int.le_of_mul_le_mul_right h hb
def least (f : Cut) : Int := if f.k = 0 then -((-f.a).fdiv f.b) else f.a.fdiv f.b + 1
theorem least_ge {f : Cut} (h : f.Ok) : geC f (least f) 1 := by
  have b0 := h.nf.pos
  unfold geC least
  split
  · rename_i e
    have := fd_spec (a := -f.a) b0
    by_cases z : f.a * 1 = -(-f.a).fdiv f.b * f.b
    · exact .inr ⟨z, e⟩
    · left
      have e2 : -(-f.a).fdiv f.b * f.b = -((-f.a).fdiv f.b * f.b) := Int.neg_mul _ _
      rw [e2] at z ⊢
      omega
  · have := fd_spec (a := f.a) b0
    left
    rw [Int.add_mul]
    omega
theorem least_le {f : Cut} (h : f.Ok) {m : Int} (hm : geC f m 1) : least f ≤ m := by
  have b0 := h.nf.pos
  unfold least
  unfold geC at hm
  split
  · rename_i e
    have := fd_spec (a := -f.a) b0
    have e2 : (-(-f.a).fdiv f.b - 1) * f.b = -((-f.a).fdiv f.b * f.b) - f.b := by rw [Int.sub_mul, Int.neg_mul, Int.one_mul]
    have : (-(-f.a).fdiv f.b - 1) * f.b < m * f.b := by rw [e2]; omega
    have := lt_of_mul this b0
    omega
  · rename_i e
    have := fd_spec (a := f.a) b0
    have : f.a.fdiv f.b * f.b < m * f.b := by omega
    have := lt_of_mul this b0
    omega
theorem least_low {f : Cut} (h : f.Ok) (f0 : 0 ≤ f.a) {p q : Int} (q0 : 0 < q) (hp : geC f p q) : least f ≤ p := by
  refine least_le h ?_
  have b0 := h.nf.pos
  have : f.a * 1 ≤ f.a * q := Int.mul_le_mul_of_nonneg_left (by omega) f0
  unfold geC at hp ⊢
  by_cases z : f.a * 1 < p * f.b
  · exact .inl z
  · right
    rcases hp with hp | ⟨hp, e⟩
    · omega
    · exact ⟨by omega, e⟩
/-- one turn of the search: no whole number lies in the interval -/
structure Turn (f c : Cut) (w : Int) (f' : Cut) (l' : Option Cut) : Prop where
  w_eq : w = f.a.fdiv f.b
  f_eq : f' = ⟨c.b, c.a - w * c.b, 1 - c.k⟩
  l_eq : l' = if f.a - w * f.b = 0 then none else some ⟨f.b, f.a - w * f.b, 1 - f.k⟩
structure IOk (f : Cut) (l : Option Cut) : Prop where
  cf : f.Ok
  f0 : 0 ≤ f.a
  cl : ∀ c, l = some c → c.Ok ∧ Cut.lt f c
theorem gcd_sub {a b w : Int} : Int.gcd (a - w * b) b = Int.gcd a b := by
  have e : a - w * b = a + b * (-w) := by rw [Int.mul_neg, Int.mul_comm]; rfl
  rw [e]
  exact Int.gcd_add_mul_left_left _ _ _
/-- what a turn's numbers are -/
theorem turn_num {f c : Cut} (h : IOk f (some c)) (hn : ¬ Cut.lt ⟨least f, 1, 0⟩ c) : 0 ≤ f.a.fdiv f.b ∧ f.a.fdiv f.b * c.b < c.a ∧ 0 ≤ f.a - f.a.fdiv f.b * f.b ∧ f.a - f.a.fdiv f.b * f.b < f.b ∧ c.a ≤ f.a.fdiv f.b * c.b + c.b ∧ (f.a = f.a.fdiv f.b * f.b → f.k = 1) := by
  obtain ⟨hc, hl⟩ := h.cl c rfl
  have b0 := h.cf.nf.pos
  have d0 := hc.nf.pos
  have fs := fd_spec (a := f.a) b0
  have f0 := h.f0
  have k1 := h.cf.k01
  have k2 := hc.k01
  generalize hw : f.a.fdiv f.b = w at *
  have w0 : 0 ≤ w := by
    have : 0 * f.b < (w + 1) * f.b := by rw [Int.zero_mul, Int.add_mul, Int.one_mul]; omega
    have := lt_of_mul this b0
    omega
  unfold Cut.lt at hn hl
  simp only at hn
  -- where the low end is whole and within, the least whole number is there
  have key : f.a = w * f.b → f.k = 1 := by
    intro e
    rcases k1 with z | z
    · exfalso
      apply hn
      have en : least f = w := by
        unfold least
        rw [if_pos z]
        have g2 := fd_spec (a := -f.a) b0
        have : (-f.a).fdiv f.b = -w := by
          rw [e, show -(w * f.b) = (-w) * f.b by rw [Int.neg_mul]]
          exact Int.mul_fdiv_cancel _ (by omega)
        omega
      rw [en]
      rcases hl with hl | ⟨hl, hk⟩
      · left
        have : (w * c.b) * f.b < (c.a * 1) * f.b := by rw [e] at hl; grind
        exact lt_of_mul this b0
      · right
        refine ⟨?_, by omega⟩
        have : (w * c.b) * f.b = (c.a * 1) * f.b := by rw [e] at hl; grind
        exact Int.eq_of_mul_eq_mul_right (by omega) this
    · exact z
  have en : least f = w + 1 := by
    have l1 := least_ge h.cf
    have l2 := least_le h.cf (m := w + 1) (by unfold geC; left; rw [Int.add_mul]; omega)
    unfold geC at l1
    by_cases z : least f = w + 1
    · exact z
    · exfalso
      have : least f ≤ w := by omega
      have : least f * f.b ≤ w * f.b := Int.mul_le_mul_of_nonneg_right this (by omega)
      have e : f.a = w * f.b := by omega
      have := key e
      omega
  rw [en] at hn
  refine ⟨w0, ?_, by omega, by omega, ?_, key⟩
  · rcases hl with hl | ⟨hl, hk⟩
    · have : (w * c.b) * f.b < c.a * f.b := by
        have : (w * f.b) * c.b ≤ f.a * c.b := Int.mul_le_mul_of_nonneg_right fs.1 (by omega)
        grind
      exact lt_of_mul this b0
    · have ne : f.a ≠ w * f.b := fun e => by have := key e; omega
      have : (w * c.b) * f.b < c.a * f.b := by
        have : (w * f.b) * c.b < f.a * c.b := Int.mul_lt_mul_of_pos_right (by omega) d0
        grind
      exact lt_of_mul this b0
  · have : ¬ ((w + 1) * c.b < c.a * 1) := fun z => hn (.inl z)
    rw [Int.add_mul] at this
    omega
theorem turn_ok {f c f' : Cut} {l' : Option Cut} {w : Int} (h : IOk f (some c)) (hn : ¬ Cut.lt ⟨least f, 1, 0⟩ c) (t : Turn f c w f' l') : IOk f' l' := by
  obtain ⟨w0, h1, h2, h3, h4, h5⟩ := turn_num h hn
  obtain ⟨hc, hl⟩ := h.cl c rfl
  have k1 := h.cf.k01
  have k2 := hc.k01
  obtain ⟨rfl, rfl, rfl⟩ := t
  generalize hw : f.a.fdiv f.b = w at *
  refine ⟨⟨⟨by show 0 < c.a - w * c.b; omega, ?_⟩, by show 1 - c.k = 0 ∨ 1 - c.k = 1; omega⟩, Int.le_of_lt hc.nf.pos, ?_⟩
  · show Int.gcd c.b (c.a - w * c.b) = 1
    rw [Int.gcd_comm, gcd_sub]
    exact hc.nf.one
  · intro c' e
    split at e
    · cases e
    · rename_i z
      cases e
      refine ⟨⟨⟨by show 0 < f.a - w * f.b; omega, ?_⟩, by show 1 - f.k = 0 ∨ 1 - f.k = 1; omega⟩, ?_⟩
      · show Int.gcd f.b (f.a - w * f.b) = 1
        rw [Int.gcd_comm, gcd_sub]
        exact h.cf.nf.one
      · unfold Cut.lt at hl ⊢
        simp only
        rcases hl with hl | ⟨hl, hk⟩
        · left; grind
        · right; exact ⟨by grind, by omega⟩
/-- forth: what lies in the interval lies in the turn's -/
theorem turn_forth {f c f' : Cut} {l' : Option Cut} {w : Int} (h : IOk f (some c)) (hn : ¬ Cut.lt ⟨least f, 1, 0⟩ c) (t : Turn f c w f' l') {p q : Int} (q0 : 0 < q) (hi : inI f (some c) p q) : 0 < p - w * q ∧ inI f' l' q (p - w * q) := by
  obtain ⟨w0, h1, h2, h3, h4, h5⟩ := turn_num h hn
  obtain ⟨hc, hl⟩ := h.cl c rfl
  have b0 := h.cf.nf.pos
  obtain ⟨rfl, rfl, rfl⟩ := t
  generalize hw : f.a.fdiv f.b = w at *
  obtain ⟨g, g2⟩ := hi
  have g2 := g2 c rfl
  unfold geC at g
  unfold leC at g2
  refine ⟨?_, ?_, ?_⟩
  · have : (w * q) * f.b < p * f.b := by
      have z : (w * f.b) * q ≤ f.a * q := Int.mul_le_mul_of_nonneg_right (by omega) (by omega)
      rcases g with g | ⟨g, e⟩
      · grind
      · have ne : f.a ≠ w * f.b := fun x => by have := h5 x; omega
        have : (w * f.b) * q < f.a * q := Int.mul_lt_mul_of_pos_right (by omega) q0
        grind
    have := lt_of_mul this b0
    omega
  · unfold geC
    simp only
    rcases g2 with g2 | ⟨g2, e⟩
    · left; grind
    · right; exact ⟨by grind, by omega⟩
  · intro c' e
    split at e
    · cases e
    · cases e
      unfold leC
      simp only
      rcases g with g | ⟨g, e⟩
      · left; grind
      · right; exact ⟨by grind, by omega⟩
/-- back -/
theorem turn_back {f c f' : Cut} {l' : Option Cut} {w : Int} (h : IOk f (some c)) (hn : ¬ Cut.lt ⟨least f, 1, 0⟩ c) (t : Turn f c w f' l') {s u : Int} (s0 : 0 < s) (u0 : 0 < u) (hi : inI f' l' s u) : inI f (some c) (w * s + u) s := by
  obtain ⟨w0, h1, h2, h3, h4, h5⟩ := turn_num h hn
  have b0 := h.cf.nf.pos
  have k1 := h.cf.k01
  have k2 := (h.cl c rfl).1.k01
  obtain ⟨rfl, rfl, rfl⟩ := t
  generalize hw : f.a.fdiv f.b = w at *
  obtain ⟨g, g2⟩ := hi
  refine ⟨?_, ?_⟩
  · unfold geC
    by_cases z : f.a - w * f.b = 0
    · left
      have : 0 < u * f.b := Int.mul_pos u0 b0
      have e : f.a = w * f.b := by omega
      rw [e]
      grind
    · have g2 := g2 _ (if_neg z)
      unfold leC at g2
      simp only at g2
      rcases g2 with g2 | ⟨g2, e⟩
      · left; grind
      · right; exact ⟨by grind, by omega⟩
  · intro c' e
    cases e
    unfold geC at g
    unfold leC
    simp only at g
    rcases g with g | ⟨g, e⟩
    · left; grind
    · right; exact ⟨by grind, by omega⟩
/-- the simplest ratio -/
structure Best (f : Cut) (l : Option Cut) (p q : Int) : Prop where
  q0 : 0 < q
  p0 : 0 < p
  one : Int.gcd p q = 1
  ins : inI f l p q
  low : ∀ p' q', 0 < q' → 0 < p' → inI f l p' q' → p ≤ p' ∧ q ≤ q'
theorem best_base {f : Cut} {l : Option Cut} (h : IOk f l) (hf : 0 < least f) (hl : ∀ c, l = some c → Cut.lt ⟨least f, 1, 0⟩ c) : Best f l (least f) 1 := by
  refine ⟨by decide, hf, Int.gcd_one_right _, ⟨least_ge h.cf, fun c e => ?_⟩, fun p' q' q0 p0 hi => ⟨least_low h.cf h.f0 q0 hi.1, by omega⟩⟩
  have k := (h.cl c e).1.k01
  have := hl c e
  unfold Cut.lt at this
  unfold leC
  simp only at this
  rcases this with z | ⟨z, z2⟩
  · exact .inl z
  · exact .inr ⟨z, by omega⟩
theorem best_turn {f c f' : Cut} {l' : Option Cut} {w s u : Int} (h : IOk f (some c)) (hn : ¬ Cut.lt ⟨least f, 1, 0⟩ c) (t : Turn f c w f' l') (b : Best f' l' s u) : Best f (some c) (w * s + u) s := by
  have w0 : 0 ≤ w := by rw [t.w_eq]; exact (turn_num h hn).1
  have : 0 ≤ w * s := Int.mul_nonneg w0 (Int.le_of_lt b.p0)
  refine ⟨b.p0, by have := b.q0; omega, ?_, turn_back h hn t b.p0 b.q0 b.ins, fun p' q' q0 p0 hi => ?_⟩
  · rw [show w * s + u = u - (-w) * s by rw [Int.neg_mul]; omega, gcd_sub, Int.gcd_comm]
    exact b.one
  · obtain ⟨h1, h2⟩ := turn_forth h hn t q0 hi
    obtain ⟨l1, l2⟩ := b.low q' (p' - w * q') h1 q0 h2
    refine ⟨?_, l1⟩
    have : w * s ≤ w * q' := Int.mul_le_mul_of_nonneg_left l1 w0
    omega
end RT
set_option Elab.async false
set_option linter.all false
namespace RT
def Pos (f : Cut) : Prop := 0 < f.a ∨ f.k = 1
theorem least_pos {f : Cut} (h : f.Ok) (f0 : 0 ≤ f.a) (p : Pos f) : 0 < least f := by
  have b0 := h.nf.pos
  have g := least_ge h
  unfold geC at g
  have : 0 * f.b < least f * f.b := by
    rw [Int.zero_mul]
    rcases g with g | ⟨g, e⟩
    · omega
    · rcases p with p | p
      · omega
      · omega
  exact lt_of_mul this b0
def Sz (B : Int) (f : Cut) (l : Option Cut) : Prop := f.a ≤ B ∧ f.b ≤ B ∧ ∀ c, l = some c → c.a ≤ B ∧ c.b ≤ B
/-- the turns so far -/
inductive Chain (B : Int) (f0 : Cut) (l0 : Option Cut) : List Int → Cut → Option Cut → Prop
  | nil : Chain B f0 l0 [] f0 l0
  | snoc {ws : List Int} {f c f' : Cut} {l' : Option Cut} {w : Int} (h : Chain B f0 l0 ws f (some c)) (hi : IOk f (some c)) (hp : Pos f) (hn : ¬ Cut.lt ⟨least f, 1, 0⟩ c) (t : Turn f c w f' l') (z : Sz B f (some c)) : Chain B f0 l0 (ws ++ [w]) f' l'
theorem Chain.empty {B : Int} {f0 : Cut} {l0 : Option Cut} {ws : List Int} {f : Cut} {l : Option Cut} (h : Chain B f0 l0 ws f l) (e : ws = []) : f = f0 ∧ l = l0 := by
  cases h with
  | nil => exact ⟨rfl, rfl⟩
  | snoc => simp at e
theorem fdiv_le {a b : Int} (h : 0 < b) (h0 : 0 ≤ a) : a.fdiv b ≤ a := by
  have := fd_spec (a := a) h
  by_cases z : a.fdiv b ≤ 0
  · omega
  · have : a.fdiv b * 1 ≤ a.fdiv b * b := Int.mul_le_mul_of_nonneg_left (by omega) (by omega)
    omega
theorem Sz.turn {B : Int} {f c f' : Cut} {l' : Option Cut} {w : Int} (h : IOk f (some c)) (hn : ¬ Cut.lt ⟨least f, 1, 0⟩ c) (t : Turn f c w f' l') (z : Sz B f (some c)) : Sz B f' l' ∧ 0 ≤ w ∧ w ≤ B := by
  obtain ⟨w0, h1, h2, h3, h4, h5⟩ := turn_num h hn
  have d0 := (h.cl c rfl).1.nf.pos
  have b0 := h.cf.nf.pos
  obtain ⟨z1, z2, z3⟩ := z
  obtain ⟨z3, z4⟩ := z3 c rfl
  have wl := fdiv_le b0 h.f0
  obtain ⟨rfl, rfl, rfl⟩ := t
  generalize hw : f.a.fdiv f.b = w at *
  have : 0 ≤ w * c.b := Int.mul_nonneg w0 (by omega)
  refine ⟨⟨z4, by show c.a - w * c.b ≤ B; omega, fun c' e => ?_⟩, w0, by omega⟩
  split at e
  · cases e
  · cases e
    exact ⟨z2, by show f.a - w * f.b ≤ B; omega⟩
def LenOk (B : Int) (n : Nat) (f : Cut) (l : Option Cut) : Prop := ∀ c, l = some c → 2 ^ (n / 2) * c.b ≤ B ∧ (n = 0 → f.b ≤ B) ∧ (1 ≤ n → f.b ≤ f.a ∧ 2 ^ ((n - 1) / 2) * f.a ≤ B)
theorem LenOk.turn {B : Int} {n : Nat} {f c f' : Cut} {l' : Option Cut} {w : Int} (h : IOk f (some c)) (hn : ¬ Cut.lt ⟨least f, 1, 0⟩ c) (t : Turn f c w f' l') (z : LenOk B n f (some c)) : LenOk B (n + 1) f' l' := by
  obtain ⟨w0, h1, h2, h3, h4, h5⟩ := turn_num h hn
  have d0 := (h.cl c rfl).1.nf.pos
  have b0 := h.cf.nf.pos
  have fs := fd_spec (a := f.a) b0
  obtain ⟨z1, z2, z3⟩ := z c rfl
  obtain ⟨rfl, rfl, rfl⟩ := t
  generalize hw : f.a.fdiv f.b = w at *
  intro c' e
  split at e
  · cases e
  · cases e
    refine ⟨?_, by omega, fun _ => ⟨by show c.a - w * c.b ≤ c.b; omega, by show 2 ^ ((n + 1 - 1) / 2) * c.b ≤ B; rw [Nat.add_sub_cancel]; exact z1⟩⟩
    show 2 ^ ((n + 1) / 2) * (f.a - w * f.b) ≤ B
    by_cases n0 : n = 0
    · subst n0
      have := z2 rfl
      show 2 ^ 0 * (f.a - w * f.b) ≤ B
      rw [Int.pow_zero, Int.one_mul]
      omega
    · obtain ⟨z3, z4⟩ := z3 (by omega)
      have w1 : 1 ≤ w := by
        by_cases q : w = 0
        · rw [q, Int.zero_mul] at fs; omega
        · omega
      have : 1 * f.b ≤ w * f.b := Int.mul_le_mul_of_nonneg_right w1 (by omega)
      have r2 : 2 * (f.a - w * f.b) ≤ f.a := by omega
      have e : (n + 1) / 2 = (n - 1) / 2 + 1 := by omega
      rw [e, Int.pow_succ, Int.mul_assoc]
      exact Int.le_trans (Int.mul_le_mul_of_nonneg_left r2 (Int.le_of_lt (Int.pow_pos (by decide)))) z4
theorem LenOk.few {B : Int} {n m : Nat} {f c : Cut} (z : LenOk B n f (some c)) (c0 : 0 < c.b) (hB : B < 2 ^ m) : n < 2 * m + 1 := by
  obtain ⟨z1, _⟩ := z c rfl
  have : (2 : Int) ^ (n / 2) * 1 ≤ 2 ^ (n / 2) * c.b := Int.mul_le_mul_of_nonneg_left (by omega) (Int.le_of_lt (Int.pow_pos (by decide)))
  have h : (2 : Int) ^ (n / 2) < 2 ^ m := by omega
  have h' : 2 ^ (n / 2) < 2 ^ m := by exact_mod_cast h
  have := (Nat.pow_lt_pow_iff_right (by decide : 1 < 2)).mp h'
  omega
theorem best_sz {B : Int} {f : Cut} {l : Option Cut} {p q : Int} (h : IOk f l) (z : Sz B f l) (b : Best f l p q) : p ≤ 2 * B + 1 ∧ q ≤ 2 * B + 1 := by
  have b0 := h.cf.nf.pos
  have f0 := h.f0
  obtain ⟨z1, z2, z3⟩ := z
  have p0 := b.p0
  have q0 := b.q0
  cases l with
  | none =>
    obtain ⟨l1, l2⟩ := b.low (f.a + 1) 1 (by decide) (by omega) ⟨by
      left
      have : (f.a + 1) * 1 ≤ (f.a + 1) * f.b := Int.mul_le_mul_of_nonneg_left (by omega) (by omega)
      omega, fun c e => by cases e⟩
    omega
  | some c =>
    obtain ⟨hc, hl⟩ := h.cl c rfl
    have d0 := hc.nf.pos
    obtain ⟨z3, z4⟩ := z3 c rfl
    have k1 := h.cf.k01
    have k2 := hc.k01
    unfold Cut.lt at hl
    have c0 : 0 < c.a := by
      have := b.ins.2 c rfl
      unfold leC at this
      have : 0 < p * c.b := Int.mul_pos p0 d0
      have : 0 * q < c.a * q := by omega
      exact lt_of_mul this q0
    rcases hl with hl | ⟨hl, hk⟩
    · obtain ⟨l1, l2⟩ := b.low (f.a + c.a) (f.b + c.b) (by omega) (by omega) ⟨by left; grind, fun c' e => by cases e; left; grind⟩
      omega
    · have a0 : 0 < f.a := by
        have : 0 < c.a * f.b := Int.mul_pos c0 b0
        have : 0 * c.b < f.a * c.b := by omega
        exact lt_of_mul this d0
      obtain ⟨l1, l2⟩ := b.low f.a f.b b0 a0 ⟨by right; exact ⟨rfl, by omega⟩, fun c' e => by cases e; right; exact ⟨hl, by omega⟩⟩
      omega

theorem last_nonneg {f c : Cut} (h : IOk f (some c)) : 0 ≤ c.a := by
  obtain ⟨hc, hl⟩ := h.cl c rfl
  have b0 := h.cf.nf.pos
  have d0 := hc.nf.pos
  have : 0 ≤ f.a * c.b := Int.mul_nonneg h.f0 (by omega)
  unfold Cut.lt at hl
  have : 0 * f.b ≤ c.a * f.b := by omega
  exact le_of_mul this b0
theorem nf_one {n : Int} : Nf n 1 := ⟨by decide, Int.gcd_one_right _⟩
theorem nf_int {n w b : Int} (h : Nf n b) : Nf (n * 1 - w * b) (b * 1) := by
  rw [Int.mul_one, Int.mul_one]
  exact ⟨h.pos, by rw [gcd_sub]; exact h.one⟩
theorem nrm_int {n w b : Int} (h : Nf n b) : nrm (n * 1 - w * b) (b * 1) = (n - w * b, b) := by
  rw [nrm_of_nf (nf_int h), Int.mul_one, Int.mul_one]
end RT
set_option Elab.async false
set_option linter.all false
namespace RT
/-- the simplest ratio between two cuts, whatever its sign -/
structure Best2 (f c : Cut) (p q : Int) : Prop where
  q0 : 0 < q
  one : Int.gcd p q = 1
  ins : inI f (some c) p q
  low : ∀ p' q', 0 < q' → inI f (some c) p' q' → p.natAbs ≤ p'.natAbs ∧ q ≤ q'
def mir (c : Cut) : Cut := ⟨0 - c.a, c.b, 1 - c.k⟩
theorem pos_of_ge {f : Cut} (h : f.Ok) (f0 : 0 ≤ f.a) (hp : Pos f) {p q : Int} (q0 : 0 < q) (g : geC f p q) : 0 < p := by
  have b0 := h.nf.pos
  have : 0 ≤ f.a * q := Int.mul_nonneg f0 (by omega)
  have : 0 * f.b < p * f.b := by
    rw [Int.zero_mul]
    rcases g with g | ⟨g, e⟩
    · omega
    · rcases hp with hp | hp
      · have := Int.mul_pos hp q0
        omega
      · omega
  exact lt_of_mul this b0
theorem two_zero {f c : Cut} (hf : f.Ok) (hc : c.Ok) (h1 : Cut.lt f ⟨0, 1, 1⟩) (h2 : Cut.lt ⟨0, 1, 0⟩ c) : Best2 f c 0 1 := by
  have k1 := hf.k01
  have k2 := hc.k01
  unfold Cut.lt at h1 h2
  simp only at h1 h2
  refine ⟨by decide, rfl, ⟨?_, fun c' e => ?_⟩, fun p' q' h _ => ⟨Nat.zero_le _, by omega⟩⟩
  · unfold geC
    rcases h1 with h | ⟨h, k⟩
    · exact .inl h
    · exact .inr ⟨h, by omega⟩
  · cases e
    unfold leC
    rcases h2 with h | ⟨h, k⟩
    · exact .inl h
    · exact .inr ⟨h, by omega⟩
theorem two_pos {f c : Cut} (hf : f.Ok) (hc : c.Ok) (hl : Cut.lt f c) (h1 : ¬ Cut.lt f ⟨0, 1, 1⟩) : IOk f (some c) ∧ Pos f ∧ ∀ p q, Best f (some c) p q → Best2 f c p q := by
  have k1 := hf.k01
  unfold Cut.lt at h1
  simp only at h1
  have f0 : 0 ≤ f.a := by
    by_cases z : f.a < 0
    · exact absurd (.inl (by omega)) h1
    · omega
  have hp : Pos f := by
    by_cases z : f.a = 0
    · right
      have : ¬ f.k < 1 := fun k => h1 (.inr ⟨by omega, k⟩)
      omega
    · left; omega
  refine ⟨⟨hf, f0, fun c' e => by cases e; exact ⟨hc, hl⟩⟩, hp, fun p q b => ⟨b.q0, b.one, b.ins, fun p' q' q0 hi => ?_⟩⟩
  have p0 := pos_of_ge hf f0 hp q0 hi.1
  obtain ⟨l1, l2⟩ := b.low p' q' q0 p0 hi
  have := b.p0
  exact ⟨by omega, l2⟩
theorem mir_ok {c : Cut} (h : c.Ok) : (mir c).Ok := ⟨⟨h.nf.pos, by show Int.gcd (0 - c.a) c.b = 1; rw [Int.zero_sub, Int.neg_gcd]; exact h.nf.one⟩, by have := h.k01; show 1 - c.k = 0 ∨ 1 - c.k = 1; omega⟩
theorem mir_lt {f c : Cut} (h : Cut.lt f c) : Cut.lt (mir c) (mir f) := by
  unfold Cut.lt mir at *
  simp only
  rcases h with h | ⟨h, k⟩
  · left; grind
  · right; exact ⟨by grind, by omega⟩
theorem mir_ge {c : Cut} (h : c.Ok) {p q : Int} (g : leC c p q) : geC (mir c) (0 - p) q := by
  have k := h.k01
  unfold leC at g
  unfold geC mir
  simp only
  rcases g with g | ⟨g, e⟩
  · left; grind
  · right; exact ⟨by grind, by omega⟩
theorem mir_le {f : Cut} (h : f.Ok) {p q : Int} (g : geC f p q) : leC (mir f) (0 - p) q := by
  have k := h.k01
  unfold geC at g
  unfold leC mir
  simp only
  rcases g with g | ⟨g, e⟩
  · left; grind
  · right; exact ⟨by grind, by omega⟩
theorem mir_mir (c : Cut) : mir (mir c) = c := by
  unfold mir
  simp only
  rw [show (0 : Int) - (0 - c.a) = c.a by omega, show (1 : Int) - (1 - c.k) = c.k by omega]
theorem two_neg {f c : Cut} (hf : f.Ok) (hc : c.Ok) (hl : Cut.lt f c) (h2 : ¬ Cut.lt ⟨0, 1, 0⟩ c) : IOk (mir c) (some (mir f)) ∧ Pos (mir c) ∧ ∀ p q, Best (mir c) (some (mir f)) p q → Best2 f c (0 - p) q := by
  have k1 := hc.k01
  unfold Cut.lt at h2
  simp only at h2
  have f0 : c.a ≤ 0 := by
    by_cases z : 0 < c.a
    · exact absurd (.inl (by omega)) h2
    · omega
  have hp : Pos (mir c) := by
    by_cases z : c.a = 0
    · right
      have : ¬ 0 < c.k := fun k => h2 (.inr ⟨by omega, k⟩)
      show 1 - c.k = 1
      omega
    · left; show 0 < 0 - c.a; omega
  have g0 : 0 ≤ (mir c).a := by show 0 ≤ 0 - c.a; omega
  refine ⟨⟨mir_ok hc, g0, fun c' e => by cases e; exact ⟨mir_ok hf, mir_lt hl⟩⟩, hp, fun p q b => ⟨b.q0, ?_, ⟨?_, fun c' e => ?_⟩, fun p' q' q0 hi => ?_⟩⟩
  · rw [Int.zero_sub, Int.neg_gcd]; exact b.one
  · have := mir_ge (mir_ok hf) (b.ins.2 _ rfl)
    rw [mir_mir] at this
    exact this
  · cases e
    have := mir_le (mir_ok hc) b.ins.1
    rw [mir_mir] at this
    exact this
  · have i1 := mir_ge hc (hi.2 c rfl)
    have i2 := mir_le hf hi.1
    have p0 := pos_of_ge (mir_ok hc) g0 hp q0 i1
    obtain ⟨l1, l2⟩ := b.low (0 - p') q' q0 p0 ⟨i1, fun c' e => by cases e; exact i2⟩
    have := b.p0
    exact ⟨by omega, l2⟩
/-- the numbers of a cut are not too great -/
structure CB (B : Int) (c : Cut) : Prop where
  lo : -B ≤ c.a
  hi : c.a ≤ B
  bb : c.b ≤ B
theorem CB.mir {B : Int} {c : Cut} (h : CB B c) : CB B (mir c) := ⟨by have := h.hi; show -B ≤ 0 - c.a; omega, by have := h.lo; show 0 - c.a ≤ B; omega, h.bb⟩
theorem CB.sz {B : Int} {f c : Cut} (h : CB B f) (h' : CB B c) : Sz B f (some c) := ⟨h.hi, h.bb, fun c' e => by cases e; exact ⟨h'.hi, h'.bb⟩⟩
end RT
set_option Elab.async false
set_option linter.all false
namespace RT
theorem nrm_sz {a b : Int} (h : b ≠ 0) : (nrm a b).1.natAbs ≤ a.natAbs ∧ (nrm a b).2 ≤ b.natAbs := by
  obtain ⟨n, v⟩ := nrm_spec (a := a) h
  have p := n.pos
  generalize (nrm a b).1 = x at *
  generalize (nrm a b).2 = y at *
  constructor
  · by_cases z : a = 0
    · rw [z, Int.zero_mul] at v
      rcases Int.mul_eq_zero.mp v with e | e
      · rw [e, z]; exact Nat.le_refl _
      · exact absurd e h
    · have d : x ∣ a := cop_dvd (a := y) ⟨b, by rw [v, Int.mul_comm]⟩ (by rw [Int.gcd_comm]; exact n.one)
      exact Nat.le_of_dvd (by omega) (Int.natAbs_dvd_natAbs.mpr d)
  · have d : y ∣ b := cop_dvd (a := x) ⟨a, by rw [v, Int.mul_comm]⟩ n.one
    have := Nat.le_of_dvd (by omega) (Int.natAbs_dvd_natAbs.mpr d)
    omega
/-- membership as the law tells it -/
def inB (f c : Cut) (p q : Int) : Bool := !decide (Cut.lt ⟨p, q, 0⟩ f) && !decide (Cut.lt c ⟨p, q, 1⟩)
theorem inB_iff {f c : Cut} (hf : f.Ok) (hc : c.Ok) {p q : Int} : inB f c p q = true ↔ inI f (some c) p q := by
  have k1 := hf.k01
  have k2 := hc.k01
  unfold inB inI geC leC
  simp only [Bool.and_eq_true, Bool.not_eq_true', decide_eq_false_iff_not, Option.some.injEq, forall_eq']
  unfold Cut.lt
  simp only
  constructor
  · rintro ⟨h1, h2⟩
    constructor <;> omega
  · rintro ⟨h1, h2⟩
    constructor <;> omega
theorem best_in {f c : Cut} (hf : f.Ok) (hc : c.Ok) {p q : Int} (b : Best2 f c p q) : inB f c p q = true := (inB_iff hf hc).mpr b.ins
theorem best_out {f c : Cut} (hf : f.Ok) (hc : c.Ok) {p q p' q' : Int} (b : Best2 f c p q) (q0 : 0 < q') (h : q' < q ∨ p'.natAbs < p.natAbs) : inB f c p' q' = false := by
  cases e : inB f c p' q' with
  | false => rfl
  | true =>
    obtain ⟨l1, l2⟩ := b.low p' q' q0 ((inB_iff hf hc).mp e)
    omega
def areaOk (B : Int) (f c : Cut) : Prop := f.Ok ∧ c.Ok ∧ Cut.lt f c ∧ CB B f ∧ CB B c
/-- two ratios, the first not above the second -/
theorem two_lt {a b c d i j : Int} (n1 : Nf a b) (n2 : Nf c d) (h : a * d ≤ c * b) (e : ¬ (a = c ∧ b = d)) : Cut.lt ⟨a, b, i⟩ ⟨c, d, j⟩ := by
  left
  show a * d < c * b
  have : a * d ≠ c * b := fun z => e (nf_eq n1 n2 z)
  omega
theorem add_le {a b c d : Int} (b0 : 0 < b) (c0 : 0 ≤ c) (d0 : 0 < d) : a * (nrm (a * d + c * b) (b * d)).2 ≤ (nrm (a * d + c * b) (b * d)).1 * b := by
  have hbd : 0 < b * d := Int.mul_pos b0 d0
  obtain ⟨n, v⟩ := nrm_spec (a := a * d + c * b) (b := b * d) (by omega)
  have p := n.pos
  generalize (nrm (a * d + c * b) (b * d)).1 = x at *
  generalize (nrm (a * d + c * b) (b * d)).2 = y at *
  refine le_of_mul (b := d) ?_ d0
  have : 0 ≤ c * b * y := Int.mul_nonneg (Int.mul_nonneg c0 (by omega)) (by omega)
  grind
theorem best2_sz {B : Int} {f c : Cut} {p q : Int} (z : areaOk B f c) (b : Best2 f c p q) : p.natAbs ≤ 2 * B ∧ q ≤ 2 * B := by
  obtain ⟨hf, hc, hl, zf, zc⟩ := z
  have b0 := hf.nf.pos
  have d0 := hc.nf.pos
  have k1 := hf.k01
  have k2 := hc.k01
  have u1 := zf.lo
  have u2 := zf.hi
  have u3 := zf.bb
  have v1 := zc.lo
  have v2 := zc.hi
  have v3 := zc.bb
  unfold Cut.lt at hl
  rcases hl with hl | ⟨hl, hk⟩
  · obtain ⟨l1, l2⟩ := b.low (f.a + c.a) (f.b + c.b) (by omega) ⟨by left; grind, fun c' e => by cases e; left; grind⟩
    omega
  · obtain ⟨l1, l2⟩ := b.low f.a f.b b0 ⟨by right; exact ⟨rfl, by omega⟩, fun c' e => by cases e; right; exact ⟨hl, by omega⟩⟩
    omega
end RT
set_option Elab.async false
set_option linter.all false
set_option maxRecDepth 100000
set_option maxHeartbeats 4000000
set_option pp.deepTerms false
set_option pp.deepTerms.threshold 12
set_option pp.maxSteps 4000
namespace W09
open PySem PySem.Spec PyProof.Rows L2 DL
def topS (i : Nat) : Stmt := PySem.Challenge.pw_gustfloor_k09_errors_by_themselves.main.body.getD i (.Pass ⟨0, 0, 0, 0⟩)
abbrev st__law_start : Stmt := topS 34
theorem sc__law_start : FnScope ["_law_script"] ["_law_script"] (defScope st__law_start) := ⟨rfl, rfl, rfl, by decide +kernel, rfl, by decide +kernel, by decide +kernel⟩
abbrev st__law_pull : Stmt := topS 35
theorem sc__law_pull : FnScope ["_law_bag", "_law_many", "_law_cell", "_law_digit", "_law_seed"] ["_law_bag", "_law_many"] (defScope st__law_pull) := ⟨rfl, rfl, rfl, by decide +kernel, rfl, by decide +kernel, by decide +kernel⟩
abbrev st__law_pick : Stmt := topS 36
theorem sc__law_pick : FnScope ["_law_bag", "_law_some"] ["_law_bag", "_law_some"] (defScope st__law_pick) := ⟨rfl, rfl, rfl, by decide +kernel, rfl, by decide +kernel, by decide +kernel⟩
abbrev st__law_stray : Stmt := topS 37
theorem sc__law_stray : FnScope ["_law_bag"] ["_law_bag"] (defScope st__law_stray) := ⟨rfl, rfl, rfl, by decide +kernel, rfl, by decide +kernel, by decide +kernel⟩
abbrev st__law_sort : Stmt := topS 31
theorem sc__law_sort : FnScope ["_law_thing", "_law_marks"] ["_law_thing"] (defScope st__law_sort) := ⟨rfl, rfl, rfl, by decide +kernel, rfl, by decide +kernel, by decide +kernel⟩
abbrev st__law_same : Stmt := topS 32
theorem sc__law_same : FnScope ["_law_found", "_law_due", "_law_a", "_law_b"] ["_law_found", "_law_due"] (defScope st__law_same) := ⟨rfl, rfl, rfl, by decide +kernel, rfl, by decide +kernel, by decide +kernel⟩
abbrev st__law_fields : Stmt := topS 33
theorem sc__law_fields : FnScope ["_law_e"] ["_law_e"] (defScope st__law_fields) := ⟨rfl, rfl, rfl, by decide +kernel, rfl, by decide +kernel, by decide +kernel⟩
abbrev st__law_kinds_apart : Stmt := topS 38
theorem sc__law_kinds_apart : FnScope ["_law_every", "_law_codes", "_law_kinds", "_law_e", "_law_marks", "_law_code_z", "_law_mark_z"] ["_law_every", "_law_codes"] (defScope st__law_kinds_apart) := ⟨rfl, rfl, rfl, by decide +kernel, rfl, by decide +kernel, by decide +kernel⟩
abbrev st__law_errors_so : Stmt := topS 39
theorem sc__law_errors_so : FnScope ["_law_every", "_law_codes", "_law_rows", "_law_lone", "_law_pairs", "_law_v", "_law_w", "_law_e", "_law_row", "_law_truths", "_law_due"] ["_law_every", "_law_codes", "_law_rows", "_law_lone", "_law_pairs", "_law_v", "_law_w"] (defScope st__law_errors_so) := ⟨rfl, rfl, rfl, by decide +kernel, rfl, by decide +kernel, by decide +kernel⟩
abbrev st_law : Stmt := topS 40
theorem sc_law : FnScope ["_law_script", "_law_bag", "_law_v", "_law_w", "_law_rows", "_law_pairs", "_law_lone", "_law_codes", "_law_every", "_law_row"] ["_law_script"] (defScope st_law) := ⟨rfl, rfl, rfl, by decide +kernel, rfl, by decide +kernel, by decide +kernel⟩
abbrev st_InvalidRatio___init__ : Stmt := inClass (topS 3) 0
theorem ss_InvalidRatio : XI.SupS ["self", "given"] (defArgs st_InvalidRatio___init__) (defScope st_InvalidRatio___init__) := ⟨rfl, rfl, rfl, by decide +kernel, by decide +kernel, by decide +kernel, by decide +kernel, rfl, rfl, rfl, ⟨_, rfl, rfl⟩⟩
abbrev st_InvalidSpan___init__ : Stmt := inClass (topS 4) 0
theorem ss_InvalidSpan : XI.SupS ["self", "given"] (defArgs st_InvalidSpan___init__) (defScope st_InvalidSpan___init__) := ⟨rfl, rfl, rfl, by decide +kernel, by decide +kernel, by decide +kernel, by decide +kernel, rfl, rfl, rfl, ⟨_, rfl, rfl⟩⟩
abbrev st_InvalidCount___init__ : Stmt := inClass (topS 22) 0
theorem ss_InvalidCount : XI.SupS ["self", "given"] (defArgs st_InvalidCount___init__) (defScope st_InvalidCount___init__) := ⟨rfl, rfl, rfl, by decide +kernel, by decide +kernel, by decide +kernel, by decide +kernel, rfl, rfl, rfl, ⟨_, rfl, rfl⟩⟩
abbrev st_InvalidLimit___init__ : Stmt := inClass (topS 25) 0
theorem ss_InvalidLimit : XI.SupS ["self", "given"] (defArgs st_InvalidLimit___init__) (defScope st_InvalidLimit___init__) := ⟨rfl, rfl, rfl, by decide +kernel, by decide +kernel, by decide +kernel, by decide +kernel, rfl, rfl, rfl, ⟨_, rfl, rfl⟩⟩
abbrev st_InvalidText___init__ : Stmt := inClass (topS 5) 0
theorem ss_InvalidText : XI.SupS ["self", "line"] (defArgs st_InvalidText___init__) (defScope st_InvalidText___init__) := ⟨rfl, rfl, rfl, by decide +kernel, by decide +kernel, by decide +kernel, by decide +kernel, rfl, rfl, rfl, ⟨_, rfl, rfl⟩⟩
abbrev st_InvalidCorners___init__ : Stmt := inClass (topS 8) 0
theorem ss_InvalidCorners : XI.SupS ["self", "at"] (defArgs st_InvalidCorners___init__) (defScope st_InvalidCorners___init__) := ⟨rfl, rfl, rfl, by decide +kernel, by decide +kernel, by decide +kernel, by decide +kernel, rfl, rfl, rfl, ⟨_, rfl, rfl⟩⟩
abbrev st_InvalidTiles___init__ : Stmt := inClass (topS 12) 0
theorem ss_InvalidTiles : XI.SupS ["self", "at"] (defArgs st_InvalidTiles___init__) (defScope st_InvalidTiles___init__) := ⟨rfl, rfl, rfl, by decide +kernel, by decide +kernel, by decide +kernel, by decide +kernel, rfl, rfl, rfl, ⟨_, rfl, rfl⟩⟩
abbrev st_InvalidDeed___init__ : Stmt := inClass (topS 24) 0
theorem ss_InvalidDeed : XI.SupS ["self", "index"] (defArgs st_InvalidDeed___init__) (defScope st_InvalidDeed___init__) := ⟨rfl, rfl, rfl, by decide +kernel, by decide +kernel, by decide +kernel, by decide +kernel, rfl, rfl, rfl, ⟨_, rfl, rfl⟩⟩
abbrev st_InvalidName___init__ : Stmt := inClass (topS 6) 0
theorem ss_InvalidName : XI.SupS ["self", "name"] (defArgs st_InvalidName___init__) (defScope st_InvalidName___init__) := ⟨rfl, rfl, rfl, by decide +kernel, by decide +kernel, by decide +kernel, by decide +kernel, rfl, rfl, rfl, ⟨_, rfl, rfl⟩⟩
abbrev st_DuplicateName___init__ : Stmt := inClass (topS 7) 0
theorem ss_DuplicateName : XI.SupS ["self", "name"] (defArgs st_DuplicateName___init__) (defScope st_DuplicateName___init__) := ⟨rfl, rfl, rfl, by decide +kernel, by decide +kernel, by decide +kernel, by decide +kernel, rfl, rfl, rfl, ⟨_, rfl, rfl⟩⟩
abbrev st_SplitSide___init__ : Stmt := inClass (topS 11) 0
theorem ss_SplitSide : XI.SupS ["self", "side"] (defArgs st_SplitSide___init__) (defScope st_SplitSide___init__) := ⟨rfl, rfl, rfl, by decide +kernel, by decide +kernel, by decide +kernel, by decide +kernel, rfl, rfl, rfl, ⟨_, rfl, rfl⟩⟩
abbrev st_InvalidWall___init__ : Stmt := inClass (topS 16) 0
theorem ss_InvalidWall : XI.SupS ["self", "side"] (defArgs st_InvalidWall___init__) (defScope st_InvalidWall___init__) := ⟨rfl, rfl, rfl, by decide +kernel, by decide +kernel, by decide +kernel, by decide +kernel, rfl, rfl, rfl, ⟨_, rfl, rfl⟩⟩
abbrev st_MarkedSide___init__ : Stmt := inClass (topS 19) 0
theorem ss_MarkedSide : XI.SupS ["self", "side"] (defArgs st_MarkedSide___init__) (defScope st_MarkedSide___init__) := ⟨rfl, rfl, rfl, by decide +kernel, by decide +kernel, by decide +kernel, by decide +kernel, rfl, rfl, rfl, ⟨_, rfl, rfl⟩⟩
abbrev st_TooMany___init__ : Stmt := inClass (topS 13) 0
theorem ss_TooMany : XI.SupS ["self", "most"] (defArgs st_TooMany___init__) (defScope st_TooMany___init__) := ⟨rfl, rfl, rfl, by decide +kernel, by decide +kernel, by decide +kernel, by decide +kernel, rfl, rfl, rfl, ⟨_, rfl, rfl⟩⟩
abbrev st_TooFar___init__ : Stmt := inClass (topS 23) 0
theorem ss_TooFar : XI.SupS ["self", "most"] (defArgs st_TooFar___init__) (defScope st_TooFar___init__) := ⟨rfl, rfl, rfl, by decide +kernel, by decide +kernel, by decide +kernel, by decide +kernel, rfl, rfl, rfl, ⟨_, rfl, rfl⟩⟩
abbrev st_InvalidPlace___init__ : Stmt := inClass (topS 20) 0
theorem ss_InvalidPlace : XI.SupS ["self", "value"] (defArgs st_InvalidPlace___init__) (defScope st_InvalidPlace___init__) := ⟨rfl, rfl, rfl, by decide +kernel, by decide +kernel, by decide +kernel, by decide +kernel, rfl, rfl, rfl, ⟨_, rfl, rfl⟩⟩
abbrev st_InvalidRound___init__ : Stmt := inClass (topS 21) 0
theorem ss_InvalidRound : XI.SupS ["self", "value"] (defArgs st_InvalidRound___init__) (defScope st_InvalidRound___init__) := ⟨rfl, rfl, rfl, by decide +kernel, by decide +kernel, by decide +kernel, by decide +kernel, rfl, rfl, rfl, ⟨_, rfl, rfl⟩⟩
abbrev st_LooseCorner___init__ : Stmt := inClass (topS 15) 0
theorem ss_LooseCorner : XI.SupS ["self", "corner"] (defArgs st_LooseCorner___init__) (defScope st_LooseCorner___init__) := ⟨rfl, rfl, rfl, by decide +kernel, by decide +kernel, by decide +kernel, by decide +kernel, rfl, rfl, rfl, ⟨_, rfl, rfl⟩⟩
abbrev st_Overlap___init__ : Stmt := inClass (topS 14) 0
theorem ss_Overlap : XI.SupS ["self", "one", "other"] (defArgs st_Overlap___init__) (defScope st_Overlap___init__) := ⟨rfl, rfl, rfl, by decide +kernel, by decide +kernel, by decide +kernel, by decide +kernel, rfl, rfl, rfl, ⟨_, rfl, rfl⟩⟩
abbrev st_InvalidChord___init__ : Stmt := inClass (topS 17) 0
theorem ss_InvalidChord : XI.SupS ["self", "one", "other"] (defArgs st_InvalidChord___init__) (defScope st_InvalidChord___init__) := ⟨rfl, rfl, rfl, by decide +kernel, by decide +kernel, by decide +kernel, by decide +kernel, rfl, rfl, rfl, ⟨_, rfl, rfl⟩⟩
abbrev st_NotJoined___init__ : Stmt := inClass (topS 18) 0
theorem ss_NotJoined : XI.SupS ["self", "one", "other"] (defArgs st_NotJoined___init__) (defScope st_NotJoined___init__) := ⟨rfl, rfl, rfl, by decide +kernel, by decide +kernel, by decide +kernel, by decide +kernel, rfl, rfl, rfl, ⟨_, rfl, rfl⟩⟩
abbrev st_NotConvex___init__ : Stmt := inClass (topS 9) 0
theorem ss_NotConvex : XI.SupS ["self"] (defArgs st_NotConvex___init__) (defScope st_NotConvex___init__) := ⟨rfl, rfl, rfl, by decide +kernel, by decide +kernel, by decide +kernel, by decide +kernel, rfl, rfl, rfl, ⟨_, rfl, rfl⟩⟩
abbrev st_InvalidWinds___init__ : Stmt := inClass (topS 10) 0
theorem ss_InvalidWinds : XI.SupS ["self"] (defArgs st_InvalidWinds___init__) (defScope st_InvalidWinds___init__) := ⟨rfl, rfl, rfl, by decide +kernel, by decide +kernel, by decide +kernel, by decide +kernel, rfl, rfl, rfl, ⟨_, rfl, rfl⟩⟩
abbrev st_UnknownTile___init__ : Stmt := inClass (topS 26) 0
theorem ss_UnknownTile : XI.SupS ["self", "name"] (defArgs st_UnknownTile___init__) (defScope st_UnknownTile___init__) := ⟨rfl, rfl, rfl, by decide +kernel, by decide +kernel, by decide +kernel, by decide +kernel, rfl, rfl, rfl, ⟨_, rfl, rfl⟩⟩
abbrev st_UnknownSide___init__ : Stmt := inClass (topS 27) 0
theorem ss_UnknownSide : XI.SupS ["self", "side"] (defArgs st_UnknownSide___init__) (defScope st_UnknownSide___init__) := ⟨rfl, rfl, rfl, by decide +kernel, by decide +kernel, by decide +kernel, by decide +kernel, rfl, rfl, rfl, ⟨_, rfl, rfl⟩⟩
abbrev st_UnknownMark___init__ : Stmt := inClass (topS 28) 0
theorem ss_UnknownMark : XI.SupS ["self", "name"] (defArgs st_UnknownMark___init__) (defScope st_UnknownMark___init__) := ⟨rfl, rfl, rfl, by decide +kernel, by decide +kernel, by decide +kernel, by decide +kernel, rfl, rfl, rfl, ⟨_, rfl, rfl⟩⟩
abbrev st_NothingLeft___init__ : Stmt := inClass (topS 29) 0
theorem ss_NothingLeft : XI.SupS ["self"] (defArgs st_NothingLeft___init__) (defScope st_NothingLeft___init__) := ⟨rfl, rfl, rfl, by decide +kernel, by decide +kernel, by decide +kernel, by decide +kernel, rfl, rfl, rfl, ⟨_, rfl, rfl⟩⟩
abbrev CS (cl : Nat → Addr) : List Addr := []
structure Txt (K : PySem.W.Frag) (mg : Str → Option Value) (ad : Nat → Addr) (fd : Nat → FuncData) (cl : Nat → Addr) : Prop where
  isi_bool : ∀ C ∈ CS cl, ClsI K C ∧ PySem.W.kitOne K (.ref C) (.type (Kd.nm .bl)) = some false
  isi_int : ∀ C ∈ CS cl, ClsI K C ∧ PySem.W.kitOne K (.ref C) (.type (Kd.nm .int)) = some false
  isi_list : ∀ C ∈ CS cl, ClsI K C ∧ PySem.W.kitOne K (.ref C) (.type (Kd.nm .lst)) = some false
  isi_str : ∀ C ∈ CS cl, ClsI K C ∧ PySem.W.kitOne K (.ref C) (.type (Kd.nm .str)) = some false
  isi_tuple : ∀ C ∈ CS cl, ClsI K C ∧ PySem.W.kitOne K (.ref C) (.type (Kd.nm .tup)) = some false
  m__law_start : mg "_law_start" = some (.ref (ad 0))
  k__law_start : PySem.W.keepIn K (.ref (ad 0)) = true
  F__law_start : FunD K "_law_start" "_law_start" (defArgs st__law_start) (defBody st__law_start) (defScope st__law_start) [] [] (ad 0) (fd 0)
  kb__law_start_1 : KBd K (fd 0) ["_law_script"] 1 [] (fun us _ => us)
  m__law_pull : mg "_law_pull" = some (.ref (ad 1))
  k__law_pull : PySem.W.keepIn K (.ref (ad 1)) = true
  F__law_pull : FunD K "_law_pull" "_law_pull" (defArgs st__law_pull) (defBody st__law_pull) (defScope st__law_pull) [] [] (ad 1) (fd 1)
  kb__law_pull_2 : KBd K (fd 1) ["_law_bag", "_law_many"] 2 [] (fun us _ => us)
  m__law_pick : mg "_law_pick" = some (.ref (ad 2))
  k__law_pick : PySem.W.keepIn K (.ref (ad 2)) = true
  F__law_pick : FunD K "_law_pick" "_law_pick" (defArgs st__law_pick) (defBody st__law_pick) (defScope st__law_pick) [] [] (ad 2) (fd 2)
  kb__law_pick_2 : KBd K (fd 2) ["_law_bag", "_law_some"] 2 [] (fun us _ => us)
  m__law_stray : mg "_law_stray" = some (.ref (ad 3))
  k__law_stray : PySem.W.keepIn K (.ref (ad 3)) = true
  F__law_stray : FunD K "_law_stray" "_law_stray" (defArgs st__law_stray) (defBody st__law_stray) (defScope st__law_stray) [] [] (ad 3) (fd 3)
  kb__law_stray_1 : KBd K (fd 3) ["_law_bag"] 1 [] (fun us _ => us)
  m__law_sort : mg "_law_sort" = some (.ref (ad 4))
  k__law_sort : PySem.W.keepIn K (.ref (ad 4)) = true
  F__law_sort : FunD K "_law_sort" "_law_sort" (defArgs st__law_sort) (defBody st__law_sort) (defScope st__law_sort) [] [] (ad 4) (fd 4)
  kb__law_sort_1 : KBd K (fd 4) ["_law_thing"] 1 [] (fun us _ => us)
  m__law_same : mg "_law_same" = some (.ref (ad 5))
  k__law_same : PySem.W.keepIn K (.ref (ad 5)) = true
  F__law_same : FunD K "_law_same" "_law_same" (defArgs st__law_same) (defBody st__law_same) (defScope st__law_same) [] [] (ad 5) (fd 5)
  kb__law_same_2 : KBd K (fd 5) ["_law_found", "_law_due"] 2 [] (fun us _ => us)
  m__law_fields : mg "_law_fields" = some (.ref (ad 6))
  k__law_fields : PySem.W.keepIn K (.ref (ad 6)) = true
  F__law_fields : FunD K "_law_fields" "_law_fields" (defArgs st__law_fields) (defBody st__law_fields) (defScope st__law_fields) [] [] (ad 6) (fd 6)
  kb__law_fields_1 : KBd K (fd 6) ["_law_e"] 1 [] (fun us _ => us)
  m__law_kinds_apart : mg "_law_kinds_apart" = some (.ref (ad 7))
  k__law_kinds_apart : PySem.W.keepIn K (.ref (ad 7)) = true
  F__law_kinds_apart : FunD K "_law_kinds_apart" "_law_kinds_apart" (defArgs st__law_kinds_apart) (defBody st__law_kinds_apart) (defScope st__law_kinds_apart) [] [] (ad 7) (fd 7)
  kb__law_kinds_apart_2 : KBd K (fd 7) ["_law_every", "_law_codes"] 2 [] (fun us _ => us)
  m__law_errors_so : mg "_law_errors_so" = some (.ref (ad 8))
  k__law_errors_so : PySem.W.keepIn K (.ref (ad 8)) = true
  F__law_errors_so : FunD K "_law_errors_so" "_law_errors_so" (defArgs st__law_errors_so) (defBody st__law_errors_so) (defScope st__law_errors_so) [] [] (ad 8) (fd 8)
  kb__law_errors_so_7 : KBd K (fd 8) ["_law_every", "_law_codes", "_law_rows", "_law_lone", "_law_pairs", "_law_v", "_law_w"] 7 [] (fun us _ => us)
  m_law : mg "law" = some (.ref (ad 9))
  k_law : PySem.W.keepIn K (.ref (ad 9)) = true
  F_law : FunD K "law" "law" (defArgs st_law) (defBody st_law) (defScope st_law) [] [] (ad 9) (fd 9)
  b_IndexError : mg "IndexError" = none
  b_LookupError : mg "LookupError" = none
  b_ValueError : mg "ValueError" = none
  b_all : mg "all" = none
  b_bool : mg "bool" = none
  b_int : mg "int" = none
  b_isinstance : mg "isinstance" = none
  b_len : mg "len" = none
  b_list : mg "list" = none
  b_str : mg "str" = none
  b_tuple : mg "tuple" = none
  b_zip : mg "zip" = none/-- what is known of the errors' classes -/
structure ErT (P : Program) (w : World) (K : PySem.W.Frag) (mg : Str → Option Value) (base : Heap) (er : Nat → Addr) (ge mi : Addr) : Prop where
  e_InvalidRatio : ErrF P w K mg base "InvalidRatio" (er 0) 0 ["given"] (XI.fl1 "InvalidRatio" "given")
  e_InvalidSpan : ErrF P w K mg base "InvalidSpan" (er 1) 0 ["given"] (XI.fl1 "InvalidSpan" "given")
  e_InvalidCount : ErrF P w K mg base "InvalidCount" (er 2) 0 ["given"] (XI.fl1 "InvalidCount" "given")
  e_InvalidLimit : ErrF P w K mg base "InvalidLimit" (er 3) 0 ["given"] (XI.fl1 "InvalidLimit" "given")
  e_InvalidText : ErrF P w K mg base "InvalidText" (er 4) 0 ["line"] (XI.fl1 "InvalidText" "line")
  e_InvalidCorners : ErrF P w K mg base "InvalidCorners" (er 5) 0 ["at"] (XI.fl1 "InvalidCorners" "at")
  e_InvalidTiles : ErrF P w K mg base "InvalidTiles" (er 6) 0 ["at"] (XI.fl1 "InvalidTiles" "at")
  e_InvalidDeed : ErrF P w K mg base "InvalidDeed" (er 7) 0 ["index"] (XI.fl1 "InvalidDeed" "index")
  e_InvalidName : ErrF P w K mg base "InvalidName" (er 8) 0 ["name"] (XI.fl1 "InvalidName" "name")
  e_DuplicateName : ErrF P w K mg base "DuplicateName" (er 9) 0 ["name"] (XI.fl1 "DuplicateName" "name")
  e_SplitSide : ErrF P w K mg base "SplitSide" (er 10) 0 ["side"] (XI.fl1 "SplitSide" "side")
  e_InvalidWall : ErrF P w K mg base "InvalidWall" (er 11) 0 ["side"] (XI.fl1 "InvalidWall" "side")
  e_MarkedSide : ErrF P w K mg base "MarkedSide" (er 12) 0 ["side"] (XI.fl1 "MarkedSide" "side")
  e_TooMany : ErrF P w K mg base "TooMany" (er 13) 0 ["most"] (XI.fl1 "TooMany" "most")
  e_TooFar : ErrF P w K mg base "TooFar" (er 14) 0 ["most"] (XI.fl1 "TooFar" "most")
  e_InvalidPlace : ErrF P w K mg base "InvalidPlace" (er 15) 0 ["value"] (XI.fl1 "InvalidPlace" "value")
  e_InvalidRound : ErrF P w K mg base "InvalidRound" (er 16) 0 ["value"] (XI.fl1 "InvalidRound" "value")
  e_LooseCorner : ErrF P w K mg base "LooseCorner" (er 17) 0 ["corner"] (XI.fl1 "LooseCorner" "corner")
  e_Overlap : ErrF P w K mg base "Overlap" (er 18) 0 ["one", "other"] (XI.fl2 "Overlap" "one" "other")
  e_InvalidChord : ErrF P w K mg base "InvalidChord" (er 19) 2 [] (XI.fl2 "InvalidChord" "one" "other")
  e_NotJoined : ErrF P w K mg base "NotJoined" (er 20) 1 ["other"] (XI.fl2 "NotJoined" "one" "other")
  e_NotConvex : ErrF P w K mg base "NotConvex" (er 21) 0 [] (XI.fl0 "NotConvex")
  e_InvalidWinds : ErrF P w K mg base "InvalidWinds" (er 22) 0 [] (XI.fl0 "InvalidWinds")
  e_UnknownTile : ErrF P w K mg base "UnknownTile" (er 23) 0 ["name"] (XI.fl1 "UnknownTile" "name")
  e_UnknownSide : ErrF P w K mg base "UnknownSide" (er 24) 0 ["side"] (XI.fl1 "UnknownSide" "side")
  e_UnknownMark : ErrF P w K mg base "UnknownMark" (er 25) 0 ["name"] (XI.fl1 "UnknownMark" "name")
  e_NothingLeft : ErrF P w K mg base "NothingLeft" (er 26) 0 [] (XI.fl0 "NothingLeft")
  ei : ∀ i, i < 27 → ErrI K (er i)
  no : ∀ n ∈ (["code", "given", "line", "index", "at", "name", "side", "most", "one", "other", "value", "corner"] : List Str), ∀ i, i < 27 → PySem.W.findIn K (.ref (er i)) n = some none
  is_TooMany : ∀ i, i < 27 → PySem.W.kitOne K (.ref (er i)) (.ref (er 13)) = some ((fun i => decide (i = 13)) i)
  m_TooMany : mg "TooMany" = some (.ref (er 13))
  is_InvalidName : ∀ i, i < 27 → PySem.W.kitOne K (.ref (er i)) (.ref (er 8)) = some ((fun i => decide (i = 8)) i)
  m_InvalidName : mg "InvalidName" = some (.ref (er 8))
  is_InvalidText : ∀ i, i < 27 → PySem.W.kitOne K (.ref (er i)) (.ref (er 4)) = some ((fun i => decide (i = 4)) i)
  m_InvalidText : mg "InvalidText" = some (.ref (er 4))
  is_InvalidPlace : ∀ i, i < 27 → PySem.W.kitOne K (.ref (er i)) (.ref (er 15)) = some ((fun i => decide (i = 15)) i)
  m_InvalidPlace : mg "InvalidPlace" = some (.ref (er 15))
  is_InvalidSpan : ∀ i, i < 27 → PySem.W.kitOne K (.ref (er i)) (.ref (er 1)) = some ((fun i => decide (i = 1)) i)
  m_InvalidSpan : mg "InvalidSpan" = some (.ref (er 1))
  is_InvalidWall : ∀ i, i < 27 → PySem.W.kitOne K (.ref (er i)) (.ref (er 11)) = some ((fun i => decide (i = 11)) i)
  m_InvalidWall : mg "InvalidWall" = some (.ref (er 11))
  is_UnknownMark : ∀ i, i < 27 → PySem.W.kitOne K (.ref (er i)) (.ref (er 25)) = some ((fun i => decide (i = 25)) i)
  m_UnknownMark : mg "UnknownMark" = some (.ref (er 25))
  is_GustError : ∀ i, i < 27 → PySem.W.kitOne K (.ref (er i)) (.ref ge) = some ((fun i => decide (i < 23)) i)
  m_GustError : mg "GustError" = some (.ref ge)
  is_ValueError : ∀ i, i < 27 → PySem.W.kitOne K (.ref (er i)) (.type "ValueError") = some ((fun i => decide (i < 23)) i)
  m_ValueError : mg "ValueError" = none
  is_Missing : ∀ i, i < 27 → PySem.W.kitOne K (.ref (er i)) (.ref mi) = some ((fun i => decide (23 ≤ i) && decide (i < 26)) i)
  m_Missing : mg "Missing" = some (.ref mi)
  is_LookupError : ∀ i, i < 27 → PySem.W.kitOne K (.ref (er i)) (.type "LookupError") = some ((fun i => decide (23 ≤ i)) i)
  m_LookupError : mg "LookupError" = none
  is_IndexError : ∀ i, i < 27 → PySem.W.kitOne K (.ref (er i)) (.type "IndexError") = some ((fun i => decide (i = 26)) i)
  m_IndexError : mg "IndexError" = none

end W09
set_option Elab.async false
set_option linter.all false
set_option maxRecDepth 100000
set_option maxHeartbeats 4000000
set_option pp.deepTerms false
set_option pp.deepTerms.threshold 12
set_option pp.maxSteps 4000
namespace W09
open PySem PySem.Spec PyProof.Rows L2 DL
local macro_rules | `(tactic| walk_at "sc") => `(tactic| first | assumption | rfl | exact Nat.le_of_ble_eq_true rfl | decide | omega | exact mul_small (by omega) (by omega) | exact mul_smallR (by omega) (by omega) | exact ⟨by decide, by decide, by decide⟩ | exact ⟨by omega, by assumption⟩ | exact ⟨by decide, log2_small (by decide) (by decide)⟩)
local macro_rules | `(tactic| walk_at "go1") => `(tactic| first | refine ⟨_, rfl, ?_⟩ | refine ⟨rfl, ?_⟩ | refine ⟨_, by assumption, ?_⟩ | refine ⟨_, mup_same, ?_⟩ | refine eqI ?_ | refine neI ?_ | refine iteT ?_ | refine iteF ?_ | refine ⟨(by walk_at "sc"), ?_⟩)
local macro_rules | `(tactic| walk_at "go") => `(tactic| repeat walk_at "go1")

/-- the law's bag: cells, place, rest of a great cell, seed, count -/
structure Bag where
  cells : List Int
  pos : Nat
  great : Int
  seed : Int
  cnt : Int
def Bag.mo (b : Bag) : MO := .lst [.lst (b.cells.map .int), .int b.pos, .int b.great, .int b.seed, .int b.cnt]
structure Bag.Ok (b : Bag) : Prop where
  s0 : 0 ≤ b.seed
  s1 : b.seed < 4294967296
theorem mul_small {i j : Int} (h0 : 0 ≤ i) (h1 : i < 18446744073709551616) : MulOk i j := .inl (.inl ⟨by omega, by omega⟩)
theorem mul_smallR {i j : Int} (h0 : -18446744073709551616 < j) (h1 : j < 18446744073709551616) : MulOk i j := .inl (.inr ⟨by omega, by omega⟩)
theorem fmod_lt' {i j : Int} (h : 0 < j) : 0 ≤ i.fmod j ∧ i.fmod j < j := by
  rw [Int.fmod_eq_emod_of_nonneg _ (Int.le_of_lt h)]
  exact ⟨Int.emod_nonneg _ (by omega), Int.emod_lt_of_pos _ h⟩
theorem log2_small {j : Int} (h0 : 0 < j) (h1 : j < 18446744073709551616) : j.natAbs.log2 < 9000 := by
  have : j.natAbs < 2 ^ 64 := by omega
  exact Nat.lt_of_lt_of_le (PySem.Flt.log2_lt_of (by decide) this) (by decide)

def ph__law_start : Ct := fun ds M k _ => ∃ ns : List Int, ds = [.scr ns] ∧ ns.length ≤ 63 ∧ ∀ p b, M p = none → Bag.Ok b → k (.cel p) (mup M p b.mo)
theorem ok__law_start {K : PySem.W.Frag} {mg : Str → Option Value} {ad : Nat → Addr} {fd : Nat → FuncData} {cl : Nat → Addr} {P : Program} {w : World} {base : Heap} (T : Txt K mg ad fd cl) : FnOk P w K mg base (L2.CX P w) 1 (ad 0) (fd 0) ["_law_script"] (spD K 1 ph__law_start) := by
  refine fn_D T.F__law_start sc__law_start rfl fun cdv A outer s H E hr hp ho => ⟨_, (b_one (s_ret (d_lstM (a_cons (d_callTy c_list rfl T.b_list boot_list' (a_cons (d_slice sl_D (dv 0) o_none (o_some d_int)) a_nil)) (a_cons d_int (a_cons d_int (a_cons (d_op o_add d_int (d_callB c_len rfl T.b_len boot_len' (a_cons (dv 0) a_nil))) (a_cons d_int a_nil)))))))), ?_⟩
  clear hp ho hr
  rintro ds M k x hl ⟨ns, rfl, hn, q⟩
  refine ⟨_, rfl, _, rfl, _, rfl, ?_⟩
  refine ⟨by show 5 ≤ sizeLine; decide, fun p hp => ?_⟩
  exact q p ⟨DL.cutD ns none (some 63), 0, 0, 49290 + ns.length, 0⟩ hp ⟨by show 0 ≤ (49290 : Int) + _; omega, by show (49290 : Int) + _ < _; omega⟩

def ph__law_pull : Ct := fun ds M k _ => ∃ (p : Addr) (b : Bag) (many : Int), ds = [.cel p, .int many] ∧ M p = some b.mo ∧ b.Ok ∧ 0 < many ∧ many.natAbs.log2 < 9000 ∧ ∀ (d : Int) (b' : Bag), 0 ≤ d → d < many → b'.Ok → k (.int d) (mup M p b'.mo)
theorem ok__law_pull {K : PySem.W.Frag} {mg : Str → Option Value} {ad : Nat → Addr} {fd : Nat → FuncData} {cl : Nat → Addr} {P : Program} {w : World} {base : Heap} (T : Txt K mg ad fd cl) : FnOk P w K mg base (L2.CX P w) 1 (ad 1) (fd 1) ["_law_bag", "_law_many"] (spD K 2 ph__law_pull) := by
  refine fn_D T.F__law_pull sc__law_pull rfl fun cdv A outer s H E hr hp ho => ⟨_, (b_cut (s_if (DPW.t (w_and (t_cmp (o_eq hr.units) (d_ix x_ix (dv 0) d_int (fun _ _ => rfl)) d_int (nomark _)) (w_and1 (t_cmp o_lt (d_ix x_ix (dv 0) d_int (fun _ _ => rfl)) (d_callB c_len rfl T.b_len boot_len' (a_cons (d_ix x_ix (dv 0) d_int (fun _ _ => rfl)) a_nil)) (nomark _))))) (b_cons (s_set (i := 2) sc__law_pull.nd rfl (Or.inl rfl) (d_ix x_ix (d_ix x_ix (dv 0) d_int (fun _ _ => rfl)) (d_ix x_ix (dv 0) d_int (fun _ _ => rfl)) (fun _ _ => rfl)))
  (b_cons (s_setIx (d_op o_add (d_ix x_ix (dv 0) d_int (fun _ _ => rfl)) d_int) (dv 0) d_int)
  (b_one (s_if (t_cmp o_ge (dv 2) (d_op o_pow d_int d_int) (nomark _)) (b_one (s_setIx (dv 2) (dv 0) d_int)) (b_one (s_setIx (d_op o_mod (d_callTy c_int rfl T.b_int boot_int' (a_cons (d_op o_add (d_op o_add (d_op o_mul (d_ix x_ix (dv 0) d_int (fun _ _ => rfl)) d_int) (d_op o_mul (d_op o_mod (d_callTy c_int rfl T.b_int boot_int' (a_cons (dv 2) a_nil)) d_int) d_int)) d_int) a_nil)) d_int) (dv 0) d_int)))))) b_nil)
  (b_cut (s_if (t_cmp o_gt (d_ix x_ix (dv 0) d_int (fun _ _ => rfl)) d_int (nomark _)) (b_cons (s_set (i := 3) sc__law_pull.nd rfl (Or.inl rfl) (d_op o_mod (d_callTy c_int rfl T.b_int boot_int' (a_cons (d_ix x_ix (dv 0) d_int (fun _ _ => rfl)) a_nil)) (dv 1)))
  (b_cons (s_setIx (d_op o_fdiv (d_ix x_ix (dv 0) d_int (fun _ _ => rfl)) (dv 1)) (dv 0) d_int)
  (b_one (s_ret (dv 3))))) b_nil)
  (b_cons (s_setIx (d_op o_add (d_ix x_ix (dv 0) d_int (fun _ _ => rfl)) d_int) (dv 0) d_int)
  (b_cons (s_set (i := 4) sc__law_pull.nd rfl (Or.inl rfl) (d_ix x_ix (dv 0) d_int (fun _ _ => rfl)))
  (b_cons (s_setIx (d_op o_mod (d_callTy c_int rfl T.b_int boot_int' (a_cons (d_op o_add (d_op o_add (d_op o_add (d_op o_mul (dv 4) (dv 4)) (d_op o_mul (dv 4) d_int)) (d_op o_mul (d_ix x_ix (dv 0) d_int (fun _ _ => rfl)) d_int)) d_int) a_nil)) d_int) (dv 0) d_int)
  (b_one (s_ret (d_op o_mod (d_callTy c_int rfl T.b_int boot_int' (a_cons (d_op o_add (d_op o_fdiv (d_ix x_ix (dv 0) d_int (fun _ _ => rfl)) d_int) (d_op o_mul (d_op o_mod (d_callTy c_int rfl T.b_int boot_int' (a_cons (d_ix x_ix (dv 0) d_int (fun _ _ => rfl)) a_nil)) d_int) d_int)) a_nil)) (dv 1))))))))), ?_⟩
  clear hp ho hr
  rintro ds M k x hl ⟨p, b, many, rfl, hm, hb, h0, hz, q⟩
  obtain ⟨cells, pos, great, seed, cnt⟩ := b
  obtain ⟨s0, s1⟩ := hb
  simp only at s0 s1
  refine ⟨fun ρ1 M1 => ∃ (b1 : Bag) (r : Option D), b1.Ok ∧ M1 = mup M p b1.mo ∧ ρ1 = [some (.cel p), some (.int many), r, none, none], ?_, ?_⟩
  · walk_at "go"
    refine ite_b (fun e1 => ?_) (fun e1 => ?_)
    · walk_at "go"
      refine ite_b (fun e2 => ?_) (fun e2 => ?_)
      · have e2 := of_decide_eq_true e2
        simp only [List.length_map] at e2
        obtain ⟨c, hc⟩ : ∃ c, cells[pos]? = some c := ⟨cells[pos]'(by omega), by simp⟩
        refine ⟨_, rfl, _, hm, _, rfl, _, rfl, _, hm, _, rfl, .int c, atI_nat (by simp [hc]), ?_⟩
        refine ⟨_, rfl, _, hm, _, rfl, ⟨_, rfl, p, _, _, _, rfl, rfl, hm, rfl, ?_⟩⟩
        refine ⟨_, rfl, ⟨by decide, by decide, by decide⟩, ⟨_, rfl, ?_⟩⟩
        refine ite_b (fun e3 => ?_) (fun e3 => ?_)
        · refine ⟨_, rfl, _, rfl, p, _, _, _, rfl, rfl, mup_same, rfl, ?_⟩
          refine ⟨⟨cells, pos + 1, c, seed, cnt⟩, some (.int c), ⟨s0, s1⟩, ?_, rfl⟩
          rw [mup_mup]
          rfl
        · refine ⟨_, rfl, _, mup_same, _, rfl, mul_small s0 (by show seed < _; omega), _, rfl, (show (2147483489 : Int) ≠ 0 by decide), mul_smallR (by decide) (by decide), (show (2147483629 : Int) ≠ 0 by decide), ?_⟩
          refine ⟨_, rfl, p, _, _, _, rfl, rfl, mup_same, rfl, ?_⟩
          refine ⟨⟨cells, pos + 1, great, (seed * 40237 + c.fmod 2147483489 * 6581 + 37).fmod 2147483629, cnt⟩, some (.int c), ⟨(fmod_lt' (show (0 : Int) < 2147483629 by decide)).1, Int.lt_trans (fmod_lt' (show (0 : Int) < 2147483629 by decide)).2 (by decide)⟩, ?_, rfl⟩
          rw [mup_mup]
          rfl
      · refine ⟨⟨cells, pos, great, seed, cnt⟩, none, ⟨s0, s1⟩, ?_, rfl⟩
        funext a
        unfold mup
        split
        · rename_i e; rw [e]; exact hm
        · rfl
    · refine iteF ⟨⟨cells, pos, great, seed, cnt⟩, none, ⟨s0, s1⟩, ?_, rfl⟩
      funext a
      unfold mup
      split
      · rename_i e; rw [e]; exact hm
      · rfl
  · rintro ρ1 M1 ⟨⟨cells, pos, great, seed, cnt⟩, r, ⟨s0, s1⟩, rfl, rfl⟩
    simp only at s0 s1
    refine ⟨fun ρ2 M2 => M2 = mup M p (Bag.mo ⟨cells, pos, great, seed, cnt⟩) ∧ ρ2 = [some (.cel p), some (.int many), r, none, none], ?_, ?_⟩
    · refine ⟨_, rfl, _, mup_same, _, rfl, ⟨_, rfl, ?_⟩⟩
      refine ite_b (fun e => ?_) (fun e => ?_)
      · refine ⟨_, rfl, _, mup_same, _, rfl, _, rfl, by show many ≠ 0; omega, ?_⟩
        refine ⟨_, rfl, _, mup_same, _, rfl, _, rfl, ⟨by omega, hz⟩, _, rfl, p, _, _, _, rfl, rfl, mup_same, rfl, ?_⟩
        refine ⟨_, rfl, ?_⟩
        have q2 := q (great.fmod many) ⟨cells, pos, great.fdiv many, seed, cnt⟩ (fmod_lt' h0).1 (fmod_lt' h0).2 ⟨s0, s1⟩
        rw [mup_mup]
        exact q2
      · exact ⟨rfl, rfl⟩
    · rintro ρ2 M2 ⟨rfl, rfl⟩
      refine ⟨_, rfl, _, mup_same, _, rfl, ⟨_, rfl, p, _, _, _, rfl, rfl, mup_same, rfl, ?_⟩⟩
      refine ⟨_, rfl, _, mup_same, _, rfl, ?_⟩
      refine ⟨_, rfl, _, rfl, mul_small s0 (by show seed < _; omega), _, rfl, mul_small s0 (by show seed < _; omega), _, rfl, _, mup_same, _, rfl, mul_smallR (by decide) (by decide), (show (2147483579 : Int) ≠ 0 by decide), ?_⟩
      refine ⟨_, rfl, p, _, _, _, rfl, rfl, mup_same, rfl, ?_⟩
      refine ⟨_, rfl, _, mup_same, _, rfl, ⟨by decide, log2_small (by decide) (by decide)⟩, ?_⟩
      refine ⟨_, rfl, _, mup_same, _, rfl, (show (8059 : Int) ≠ 0 by decide), mul_smallR (by decide) (by decide), ?_⟩
      refine ⟨_, rfl, by show many ≠ 0; omega, ?_⟩
      rw [mup_mup, mup_mup]
      exact q _ ⟨cells, pos, great, (seed * seed + seed * 28657 + (cnt + 1) * 1300367 + 70001).fmod 2147483579, cnt + 1⟩ (fmod_lt' h0).1 (fmod_lt' h0).2 ⟨(fmod_lt' (show (0 : Int) < 2147483579 by decide)).1, Int.lt_trans (fmod_lt' (show (0 : Int) < 2147483579 by decide)).2 (by decide)⟩

def ph__law_pick : Ct := fun ds M k _ => ∃ (p : Addr) (b : Bag) (s : D), ds = [.cel p, s] ∧ M p = some b.mo ∧ b.Ok ∧ ((∃ es, s = .lst es ∧ 0 < es.length ∧ es.length ≤ 1000 ∧ ∀ d ∈ es, ∀ b' : Bag, b'.Ok → k d (mup M p b'.mo)) ∨
  ∃ z : Str, s = .str z ∧ 0 < z.length ∧ z.length ≤ 1000 ∧ ∀ c ∈ z.cps.toList, ∀ b' : Bag, b'.Ok → k (.str ⟨#[c]⟩) (mup M p b'.mo))
theorem atI_some {α : Type} {xs : List α} {d : Int} (h0 : 0 ≤ d) (h1 : d < xs.length) : ∃ v, atI xs d = some v ∧ v ∈ xs := by
  have h : d.toNat < xs.length := by omega
  refine ⟨xs[d.toNat], ?_, List.getElem_mem h⟩
  have e : d = (d.toNat : Int) := by omega
  exact (congrArg (atI xs) e).trans (atI_nat (xs := xs) (j := d.toNat) (v := xs[d.toNat]) (by simp))
theorem ok__law_pick {K : PySem.W.Frag} {mg : Str → Option Value} {ad : Nat → Addr} {fd : Nat → FuncData} {cl : Nat → Addr} {P : Program} {w : World} {base : Heap} (T : Txt K mg ad fd cl) : FnOk P w K mg base (L2.CX P w) 3 (ad 2) (fd 2) ["_law_bag", "_law_some"] (spD K 2 ph__law_pick) := by
  have G__law_pull := ok__law_pull (P := P) (w := w) (base := base) T
  refine fn_D T.F__law_pick sc__law_pick rfl fun cdv A outer s H E hr hp ho => ⟨_, (b_one (s_ret (d_ix x_ix (dv 1) (d_call G__law_pull (hr.mono (by decide)) rfl T.m__law_pull T.k__law_pull T.kb__law_pull_2 (by intro _ _ h _; exact h) hp (a_cons (dv 0) (a_cons (d_callB c_len rfl T.b_len boot_len' (a_cons (dv 1) a_nil)) a_nil))) (fun _ _ => rfl)))), ?_⟩
  clear hp ho hr G__law_pull
  rintro ds M k x hl ⟨p, b, s, rfl, hm, hb, q⟩
  rcases q with ⟨es, rfl, l0, l1, q⟩ | ⟨z, rfl, l0, l1, q⟩
  · refine ⟨_, rfl, _, rfl, _, rfl, rfl, p, b, _, rfl, hm, hb, by show (0 : Int) < es.length; omega, log2_small (by show (0 : Int) < es.length; omega) (by show (es.length : Int) < _; omega), fun d b' h0 h1 hb' => ?_⟩
    obtain ⟨v, hv, mv⟩ := atI_some h0 h1
    exact ⟨v, hv, q v mv b' hb'⟩
  · refine ⟨_, rfl, _, rfl, _, rfl, ⟨Nat.le_trans l1 (by decide), ?_⟩⟩
    refine ⟨rfl, p, b, _, rfl, hm, hb, by show (0 : Int) < z.length; omega, log2_small (by show (0 : Int) < z.length; omega) (by show (z.length : Int) < _; omega), fun d b' h0 h1 hb' => ?_⟩
    have hz : z.cps.toList.length = z.length := by simp [Str.length]
    obtain ⟨v, hv, mv⟩ := atI_some (xs := z.cps.toList) h0 (by rw [hz]; exact h1)
    exact ⟨Nat.le_trans l1 (by decide), v, hv, q v mv b' hb'⟩
theorem mup_of {M : Mm} {p : Addr} {o : MO} (hm : M p = some o) : M = mup M p o := by
  funext b
  unfold mup
  split
  · rename_i e; rw [e]; exact hm
  · rfl
section
variable {M0 : Mm} {p r : Addr} {b : Bag} {L : MO} {k : DK} {x : DX}
theorem pullK {many : Int} (hb : b.Ok) (h0 : 0 < many) (hz : many.natAbs.log2 < 9000) (h : ∀ (d : Int) (b' : Bag), 0 ≤ d → d < many → b'.Ok → k (.int d) (mup M0 p b'.mo)) : ph__law_pull [.cel p, .int many] (mup M0 p b.mo) k x :=
  ⟨p, b, many, rfl, mup_same, hb, h0, hz, fun d b' h1 h2 h3 => by rw [mup_mup]; exact h d b' h1 h2 h3⟩
theorem pickL {es : List D} (hb : b.Ok) (h0 : 0 < es.length) (h1 : es.length ≤ 1000) (h : ∀ d ∈ es, ∀ b' : Bag, b'.Ok → k d (mup M0 p b'.mo)) : ph__law_pick [.cel p, .lst es] (mup M0 p b.mo) k x :=
  ⟨p, b, _, rfl, mup_same, hb, .inl ⟨es, rfl, h0, h1, fun d hd b' h3 => by rw [mup_mup]; exact h d hd b' h3⟩⟩
end
/-- values of other kinds -/
def strays : List D := [.non, .bl true, .str "x", .str "1/2", .int 1, .tup [], .lst [], .tup [.int 1, .int 2], .lst [.non]]
def ph__law_stray : Ct := fun ds M k _ => ∃ (p : Addr) (b : Bag), ds = [.cel p] ∧ M p = some b.mo ∧ b.Ok ∧ ∀ d ∈ strays, ∀ b' : Bag, b'.Ok → k d (mup M p b'.mo)
theorem ok__law_stray {K : PySem.W.Frag} {mg : Str → Option Value} {ad : Nat → Addr} {fd : Nat → FuncData} {cl : Nat → Addr} {P : Program} {w : World} {base : Heap} (T : Txt K mg ad fd cl) : FnOk P w K mg base (L2.CX P w) 5 (ad 3) (fd 3) ["_law_bag"] (spD K 1 ph__law_stray) := by
  have G__law_pick := ok__law_pick (P := P) (w := w) (base := base) T
  refine fn_D T.F__law_stray sc__law_stray rfl fun cdv A outer s H E hr hp ho => ⟨_, (b_one (s_ret (d_call G__law_pick (hr.mono (by decide)) rfl T.m__law_pick T.k__law_pick T.kb__law_pick_2 (by intro _ _ h _; exact h) hp (a_cons (dv 0) (a_cons (d_lst (a_cons d_non (a_cons d_bl (a_cons d_str (a_cons d_str (a_cons d_int (a_cons (d_tup a_nil) (a_cons (d_lst a_nil) (a_cons (d_tup (a_cons d_int (a_cons d_int a_nil))) (a_cons (d_lst (a_cons d_non a_nil)) a_nil)))))))))) a_nil))))), ?_⟩
  clear hp ho hr G__law_pick
  rintro ds M k x hl ⟨p, b, rfl, hm, hb, q⟩
  rw [mup_of hm]
  refine ⟨_, rfl, Nat.le_of_ble_eq_true rfl, Nat.le_of_ble_eq_true rfl, Nat.le_of_ble_eq_true rfl, Nat.le_of_ble_eq_true rfl, Nat.le_of_ble_eq_true rfl, rfl, pickL hb (Nat.le_of_ble_eq_true rfl) (Nat.le_of_ble_eq_true rfl) fun d hd b' hb' => ?_⟩
  exact q d hd b' hb'

def srt : Kd → Int
  | .non => 0 | .bl => 1 | .int => 2 | .str => 3 | .lst => 4 | .tup => 5
def ph__law_sort : Ct := fun ds M k _ => ∃ u v, ds = [u] ∧ kd u = some v ∧ k (.int (srt v)) M
theorem ok__law_sort {K : PySem.W.Frag} {mg : Str → Option Value} {ad : Nat → Addr} {fd : Nat → FuncData} {cl : Nat → Addr} {P : Program} {w : World} {base : Heap} (T : Txt K mg ad fd cl) : FnOk P w K mg base (L2.CX P w) 1 (ad 4) (fd 4) ["_law_thing"] (spD K 1 ph__law_sort) := by
  refine fn_D T.F__law_sort sc__law_sort rfl fun cdv A outer s H E hr hp ho => ⟨_, (b_cons (s_set (i := 1) sc__law_sort.nd rfl (Or.inl rfl) (d_lst (a_cons (d_cmp o_isN (dv 0) d_non (nomark _)) (a_cons (d_isi .bl (CS cl) (by decide) T.isi_bool rfl T.b_isinstance rfl T.b_bool (by decide +kernel) (dv 0)) (a_cons (d_isi .int (CS cl) (by decide) T.isi_int rfl T.b_isinstance rfl T.b_int (by decide +kernel) (dv 0)) (a_cons (d_isi .str (CS cl) (by decide) T.isi_str rfl T.b_isinstance rfl T.b_str (by decide +kernel) (dv 0)) a_nil))))))
  (b_cons (s_set (i := 1) sc__law_sort.nd rfl (Or.inl rfl) (d_op o_add (dv 1) (d_lst (a_cons (d_isi .lst (CS cl) (by decide) T.isi_list rfl T.b_isinstance rfl T.b_list (by decide +kernel) (dv 0)) (a_cons (d_isi .tup (CS cl) (by decide) T.isi_tuple rfl T.b_isinstance rfl T.b_tuple (by decide +kernel) (dv 0)) (a_cons d_bl a_nil))))))
  (b_one (s_ret (d_bm PySem.F.plainAttrs_list PySem.F.slot_list_index PySem.F.type_list_index m_index (dv 1) (a_cons d_bl a_nil)))))), ?_⟩
  clear hp ho hr
  rintro ds M k x hl ⟨u, v, rfl, hv, q⟩
  cases u <;> cases hv <;> (walk_at "go"; exact q)

mutual
/-- pure data at most n deep, its lists and tuples short -/
def pureD : Nat → D → Bool
  | _, .non => true
  | _, .bl _ => true
  | _, .int _ => true
  | _, .str _ => true
  | n + 1, .lst ds => pureDs n ds && decide (ds.length ≤ 100000)
  | n + 1, .tup ds => pureDs n ds && decide (ds.length ≤ 100000)
  | _, _ => false
def pureDs : Nat → List D → Bool
  | _, [] => true
  | n, d :: ds => pureD n d && pureDs n ds
end
theorem pureDs_mem {n : Nat} : ∀ {ds : List D} {d : D}, pureDs n ds = true → d ∈ ds → pureD n d = true
  | [], _, _, h => by cases h
  | e :: ds, d, h, hm => by
    simp only [pureDs, Bool.and_eq_true] at h
    rcases List.mem_cons.mp hm with z | z
    · rw [z]; exact h.1
    · exact pureDs_mem h.2 z
def ph__law_same (n : Nat) : Ct := fun ds M k _ => ∃ u, ds = [u, u] ∧ pureD n u = true ∧ k (.bl true) M
theorem zips_same : ∀ ds : List D, zips ds ds = ds.map fun d => .tup [d, d]
  | [] => rfl
  | d :: ds => by simp [zips, zips_same ds]
theorem all_true : ∀ n : Nat, (List.replicate n true).all id = true
  | 0 => rfl
  | n + 1 => by simp [List.replicate_succ]
theorem map_const (ds : List D) : ds.map (fun _ => D.bl true) = (List.replicate ds.length true).map D.bl := by
  induction ds with
  | nil => rfl
  | cons d ds ih => simp [List.replicate_succ, ih]
theorem gT2_mono {i j : Nat} {d : D} {ρ : DEnv} {M : Mm} (K K' : DEnv → Mm → Prop) (h : ∀ ρ M, K ρ M → K' ρ M) (q : gTupD 2 (gsCons (gN i) (gsCons (gN j) gsNil)) d ρ M K) : gTupD 2 (gsCons (gN i) (gsCons (gN j) gsNil)) d ρ M K' := by
  obtain ⟨ds, e, l, d1, r1, e1, d2, r2, e2, e3, q⟩ := q
  exact ⟨ds, e, l, d1, r1, e1, d2, r2, e2, e3, h _ _ q⟩

def phPrev : Nat → Ct
  | 0 => fun _ _ _ _ => False
  | n + 1 => ph__law_same n
theorem fn_false {P : Program} {w : World} {K : PySem.W.Frag} {mg : Str → Option Value} {base : Heap} {CX : CXT} {k n : Nat} {f : Addr} {fd : FuncData} {ps : List Str} : FnOk P w K mg base CX k f fd ps (spD K n fun _ _ _ _ => False) :=
  ⟨fun _ _ _ _ h => by obtain ⟨_, _, _, _, _, _, _, _, z, _⟩ := h; exact z.elim, fun _ _ _ _ _ _ _ _ _ _ _ _ _ h => by obtain ⟨_, _, _, _, _, _, _, _, z, _⟩ := h; exact z.elim⟩
theorem iteRefl {α : Type} {a : α} [DecidableEq α] {A B : Prop} (h : A) : if decide (a = a) = true then A else B := by
  rw [if_pos (by simp)]
  exact h
theorem eqk_refl_int {i : Int} {M : Mm} {k : DK} (q : k (.bl true) M) : EqK (.int i) (.int i) M k := eqI (by simpa using q)
theorem eqk_refl_str {i : Str} {M : Mm} {k : DK} (q : k (.bl true) M) : EqK (.str i) (.str i) M k := .of (eqD_str i i) (by simpa using q)
theorem eqk_refl_bl {i : Bool} {M : Mm} {k : DK} (q : k (.bl true) M) : EqK (.bl i) (.bl i) M k := .of (eqD_bl i i) (by simpa using q)
theorem eqk_refl_non {M : Mm} {k : DK} (q : k (.bl true) M) : EqK .non .non M k := .of eqD_non q
theorem step_same {K : PySem.W.Frag} {mg : Str → Option Value} {ad : Nat → Addr} {fd : Nat → FuncData} {cl : Nat → Addr} {P : Program} {w : World} {base : Heap} (T : Txt K mg ad fd cl) (n : Nat) (G__law_same : FnOk P w K mg base (L2.CX P w) (n + 2) (ad 5) (fd 5) ["_law_found", "_law_due"] (spD K 2 (phPrev n))) : FnOk P w K mg base (L2.CX P w) (n + 3) (ad 5) (fd 5) ["_law_found", "_law_due"] (spD K 2 (ph__law_same n)) := by
  have G__law_sort := ok__law_sort (P := P) (w := w) (base := base) T
  refine fn_D T.F__law_same sc__law_same rfl fun cdv A outer s H E hr hp ho => ⟨_, (b_cons (s_if (t_cmp (o_ne hr.units) (d_call G__law_sort (hr.mono (by omega)) rfl T.m__law_sort T.k__law_sort T.kb__law_sort_1 (by intro _ _ h _; exact h) hp (a_cons (dv 0) a_nil)) (d_call G__law_sort (hr.mono (by omega)) rfl T.m__law_sort T.k__law_sort T.kb__law_sort_1 (by intro _ _ h _; exact h) hp (a_cons (dv 1) a_nil)) (nomark _)) (b_one (s_ret d_bl)) b_nil)
  (b_cons (s_if (t_cmp o_in (d_call G__law_sort (hr.mono (by omega)) rfl T.m__law_sort T.k__law_sort T.kb__law_sort_1 (by intro _ _ h _; exact h) hp (a_cons (dv 1) a_nil)) (d_tup (a_cons d_int (a_cons d_int a_nil))) rfl) (b_one (s_ret (d_and (d_cmp (o_eq hr.units) (d_callB c_len rfl T.b_len boot_len' (a_cons (dv 0) a_nil)) (d_callB c_len rfl T.b_len boot_len' (a_cons (dv 1) a_nil)) (nomark _)) (d_one (d_callB (c_all rfl) rfl T.b_all boot_all' (a_cons (d_lc (own := [("_law_a", 2), ("_law_b", 3)]) rfl sc__law_same.nd (i_zip rfl T.b_zip (a_cons (dv 0) (a_cons (dv 1) a_nil))) (blkOk_by (own := [("_law_a", 2), ("_law_b", 3)]) (N := ["_law_found", "_law_due", "_law_a", "_law_b"]) (sc := (defScope st__law_same)) (by decide +kernel)) (gp_tup (n := 2) (gps_cons (gp_name (by decide)) (gps_cons (gp_name (by decide)) gps_nil))) (fun _ _ _ _ _ => (pg_tup (n := 2) rfl (pgs_cons (pg_name (i := 2) sc__law_same.nd rfl (Or.inl rfl)) (pgs_cons (pg_name (i := 3) sc__law_same.nd rfl (Or.inl rfl)) pgs_nil)))) (fun _ _ _ _ _ => ts_nil) (fun _ _ _ _ _ => (d_call G__law_same (hr.mono (by omega)) rfl T.m__law_same T.k__law_same T.kb__law_same_2 (by intro _ _ h _; exact h) passL (a_cons (dv 2) (a_cons (dv 3) a_nil))))) a_nil)))))) b_nil)
  (b_one (s_ret (d_cmp (o_eq hr.units) (dv 0) (dv 1) (nomark _)))))), ?_⟩
  clear hp ho hr G__law_sort
  rintro ds M k x hl ⟨u, rfl, hu, q⟩
  have seq : ∀ ds : List D, pureDs (n - 1) ds = true → 0 < n → ds.length ≤ 100000 → ∀ d ∈ zips ds ds, ∀ K' : DK, K' (.bl true) M → gTupD 2 (gsCons (gN 2) (gsCons (gN 3) gsNil)) d (wipeD (startD ["_law_found", "_law_due", "_law_a", "_law_b"] [u, u]) [2, 3]) M fun ρ1 M2 => dCall 2 (phPrev n) (fun us _ => us) (dCons (dVar 2) (dCons (dVar 3) dNil)) ρ1 M2 K' (fun _ _ _ => False) := by
    intro ds hp hn hl d hd K' hK
    rw [zips_same] at hd
    obtain ⟨e, he, rfl⟩ := List.mem_map.mp hd
    refine ⟨[e, e], rfl, rfl, e, [e], rfl, e, [], rfl, rfl, _, rfl, _, rfl, rfl, ?_⟩
    cases n with
    | zero => omega
    | succ n => exact ⟨e, rfl, pureDs_mem hp he, hK⟩
  cases u with
  | non => walk_at "go"; refine ⟨_, _, rfl, rfl, ?_⟩; walk_at "go"; refine ⟨_, _, rfl, rfl, ?_⟩; walk_at "go"; refine ⟨_, _, rfl, rfl, ?_⟩; walk_at "go"; exact eqk_refl_non q
  | bl b => walk_at "go"; refine ⟨_, _, rfl, rfl, ?_⟩; walk_at "go"; refine ⟨_, _, rfl, rfl, ?_⟩; walk_at "go"; refine ⟨_, _, rfl, rfl, ?_⟩; walk_at "go"; exact eqk_refl_bl q
  | int b => walk_at "go"; refine ⟨_, _, rfl, rfl, ?_⟩; walk_at "go"; refine ⟨_, _, rfl, rfl, ?_⟩; walk_at "go"; refine ⟨_, _, rfl, rfl, ?_⟩; walk_at "go"; (show k _ M); simpa using q
  | str b => walk_at "go"; refine ⟨_, _, rfl, rfl, ?_⟩; walk_at "go"; refine ⟨_, _, rfl, rfl, ?_⟩; walk_at "go"; refine ⟨_, _, rfl, rfl, ?_⟩; walk_at "go"; exact eqk_refl_str q
  | lst ds =>
    cases n with
    | zero => cases hu
    | succ n =>
      simp only [pureD, Bool.and_eq_true, decide_eq_true_eq] at hu
      walk_at "go"; refine ⟨_, _, rfl, rfl, ?_⟩; walk_at "go"; refine ⟨_, _, rfl, rfl, ?_⟩; walk_at "go"; refine ⟨_, _, rfl, rfl, ?_⟩; walk_at "go"
      refine iteRefl ?_
      refine ⟨_, rfl, _, rfl, ?_⟩
      have hz : (zips ds ds).length < sizeLine := by
        rw [zips_same, List.length_map]
        exact Nat.lt_of_le_of_lt hu.2 (by decide)
      refine lc_map (fun _ => .bl true) hz (seq ds hu.1 (Nat.succ_pos n) hu.2) (fun d K K' => gT2_mono K K') ?_
      refine ⟨List.replicate (zips ds ds).length true, by rw [map_const], ?_⟩
      rw [all_true]
      exact q
  | tup ds =>
    cases n with
    | zero => cases hu
    | succ n =>
      simp only [pureD, Bool.and_eq_true, decide_eq_true_eq] at hu
      walk_at "go"; refine ⟨_, _, rfl, rfl, ?_⟩; walk_at "go"; refine ⟨_, _, rfl, rfl, ?_⟩; walk_at "go"; refine ⟨_, _, rfl, rfl, ?_⟩; walk_at "go"
      refine iteRefl ?_
      refine ⟨_, rfl, _, rfl, ?_⟩
      have hz : (zips ds ds).length < sizeLine := by
        rw [zips_same, List.length_map]
        exact Nat.lt_of_le_of_lt hu.2 (by decide)
      refine lc_map (fun _ => .bl true) hz (seq ds hu.1 (Nat.succ_pos n) hu.2) (fun d K K' => gT2_mono K K') ?_
      refine ⟨List.replicate (zips ds ds).length true, by rw [map_const], ?_⟩
      rw [all_true]
      exact q
  | _ => (cases n <;> simp [pureD] at hu)
theorem ok__law_same {K : PySem.W.Frag} {mg : Str → Option Value} {ad : Nat → Addr} {fd : Nat → FuncData} {cl : Nat → Addr} {P : Program} {w : World} {base : Heap} (T : Txt K mg ad fd cl) : ∀ n : Nat, FnOk P w K mg base (L2.CX P w) (n + 3) (ad 5) (fd 5) ["_law_found", "_law_due"] (spD K 2 (ph__law_same n))
  | 0 => step_same T 0 fn_false
  | n + 1 => step_same T (n + 1) (ok__law_same T n)
theorem sameK {n : Nat} {M : Mm} {k : DK} {x : DX} {u v : D} (e : u = v) (h : pureD n u = true) (q : k (.bl true) M) : ph__law_same n [u, v] M k x := by
  subst e
  exact ⟨u, rfl, h, q⟩

end W09
set_option Elab.async false
set_option linter.all false
set_option maxRecDepth 100000
set_option maxHeartbeats 4000000
set_option pp.deepTerms false
set_option pp.deepTerms.threshold 12
set_option pp.maxSteps 4000
namespace W09
open PySem PySem.Spec PyProof.Rows L2 DL
local macro_rules | `(tactic| walk_at "sc") => `(tactic| first | assumption | rfl | exact Nat.le_of_ble_eq_true rfl | decide | omega | exact mul_small (by omega) (by omega) | exact mul_smallR (by omega) (by omega) | exact ⟨by decide, by decide, by decide⟩ | exact ⟨by omega, by assumption⟩ | exact ⟨by decide, log2_small (by decide) (by decide)⟩)
local macro_rules | `(tactic| walk_at "go1") => `(tactic| first | refine ⟨_, rfl, ?_⟩ | refine ⟨rfl, ?_⟩ | refine ⟨_, by assumption, ?_⟩ | refine ⟨_, mup_same, ?_⟩ | refine eqI ?_ | refine neI ?_ | refine iteT ?_ | refine iteF ?_ | refine ⟨(by walk_at "sc"), ?_⟩)
local macro_rules | `(tactic| walk_at "go") => `(tactic| repeat walk_at "go1")
theorem itT {c : Bool} {α : Type} {a b v : α} (h : (if c = true then a else b) = v) (e : c = true) : a = v := by rw [if_pos e] at h; exact h
theorem itF {c : Bool} {α : Type} {a b v : α} (h : (if c = true then a else b) = v) (e : c = false) : b = v := by rw [if_neg (by rw [e]; exact Bool.false_ne_true)] at h; exact h
theorem oneF_of {fs : List (Str × D)} {n : Str} {vals : List D} (h : oneF fs n = some vals) : ∃ d, fs.lookup n = some d ∧ vals = [d] := by
  unfold oneF at h
  obtain ⟨d, h1, h2⟩ := Option.map_eq_some_iff.mp h
  exact ⟨d, h1, h2.symm⟩
theorem twoF_of {fs : List (Str × D)} {n m : Str} {vals : List D} (h : twoF fs n m = some vals) : ∃ d u, fs.lookup n = some d ∧ fs.lookup m = some u ∧ vals = [d, u] := by
  unfold twoF at h
  obtain ⟨d, h1, h2⟩ := Option.bind_eq_some_iff.mp h
  obtain ⟨u, h3, h4⟩ := Option.map_eq_some_iff.mp h2
  exact ⟨d, u, h1, h3, h4.symm⟩
theorem eqC_k {c x : Str} {M : Mm} {k : DK} (q : k (.bl (eqC c x)) M) : EqK (.str c) (.str x) M k := .of (.sc rfl rfl rfl) q
def ph__law_fields (er : Nat → Addr) : Ct := fun ds M k _ => ∃ (i : Nat) (fs : List (Str × D)) (code : Str) (vals : List D), ds = [.err (er i) fs] ∧ i < 27 ∧ fs.lookup ("code" : Str) = some (.str code) ∧ DL.fieldsOf code fs = some vals ∧ vals.length ≤ 10 ∧ k (.tup vals) M
theorem ok__law_fields {K : PySem.W.Frag} {mg : Str → Option Value} {ad : Nat → Addr} {fd : Nat → FuncData} {cl : Nat → Addr} {P : Program} {w : World} {base : Heap} (T : Txt K mg ad fd cl) {er : Nat → Addr} {ge mi : Addr} (ET : ErT P w K mg base er ge mi) : FnOk P w K mg base (L2.CX P w) 1 (ad 6) (fd 6) ["_law_e"] (spD K 1 (ph__law_fields er)) := by
  refine fn_D T.F__law_fields sc__law_fields rfl fun cdv A outer s H E hr hp ho => ⟨_, (b_cons (s_if (t_cmp o_in (d_ef (er := er) (N := 27) (fun i hi => ⟨ET.ei i hi, ET.no _ (by simp) i hi⟩) (dv 0) rfl) (d_tup (a_cons d_str (a_cons d_str (a_cons d_str (a_cons d_str a_nil))))) rfl) (b_one (s_ret (d_tup (a_cons (d_ef (er := er) (N := 27) (fun i hi => ⟨ET.ei i hi, ET.no _ (by simp) i hi⟩) (dv 0) rfl) a_nil)))) b_nil)
  (b_cons (s_if (t_cmp o_in (d_ef (er := er) (N := 27) (fun i hi => ⟨ET.ei i hi, ET.no _ (by simp) i hi⟩) (dv 0) rfl) (d_tup (a_cons d_str (a_cons d_str (a_cons d_str (a_cons d_str a_nil))))) rfl) (b_one (s_ret (d_tup (a_cons (d_if (t_cmp (o_eq hr.units) (d_ef (er := er) (N := 27) (fun i hi => ⟨ET.ei i hi, ET.no _ (by simp) i hi⟩) (dv 0) rfl) d_str (nomark _)) (d_ef (er := er) (N := 27) (fun i hi => ⟨ET.ei i hi, ET.no _ (by simp) i hi⟩) (dv 0) rfl) (d_if (t_cmp (o_eq hr.units) (d_ef (er := er) (N := 27) (fun i hi => ⟨ET.ei i hi, ET.no _ (by simp) i hi⟩) (dv 0) rfl) d_str (nomark _)) (d_ef (er := er) (N := 27) (fun i hi => ⟨ET.ei i hi, ET.no _ (by simp) i hi⟩) (dv 0) rfl) (d_ef (er := er) (N := 27) (fun i hi => ⟨ET.ei i hi, ET.no _ (by simp) i hi⟩) (dv 0) rfl))) a_nil)))) b_nil)
  (b_cons (s_if (t_cmp o_in (d_ef (er := er) (N := 27) (fun i hi => ⟨ET.ei i hi, ET.no _ (by simp) i hi⟩) (dv 0) rfl) (d_tup (a_cons d_str (a_cons d_str (a_cons d_str (a_cons d_str a_nil))))) rfl) (b_one (s_ret (d_tup (a_cons (d_ef (er := er) (N := 27) (fun i hi => ⟨ET.ei i hi, ET.no _ (by simp) i hi⟩) (dv 0) rfl) a_nil)))) b_nil)
  (b_cons (s_if (t_cmp o_in (d_ef (er := er) (N := 27) (fun i hi => ⟨ET.ei i hi, ET.no _ (by simp) i hi⟩) (dv 0) rfl) (d_tup (a_cons d_str (a_cons d_str (a_cons d_str (a_cons d_str a_nil))))) rfl) (b_one (s_ret (d_tup (a_cons (d_ef (er := er) (N := 27) (fun i hi => ⟨ET.ei i hi, ET.no _ (by simp) i hi⟩) (dv 0) rfl) a_nil)))) b_nil)
  (b_cons (s_if (t_cmp o_in (d_ef (er := er) (N := 27) (fun i hi => ⟨ET.ei i hi, ET.no _ (by simp) i hi⟩) (dv 0) rfl) (d_tup (a_cons d_str (a_cons d_str a_nil))) rfl) (b_one (s_ret (d_tup (a_cons (d_ef (er := er) (N := 27) (fun i hi => ⟨ET.ei i hi, ET.no _ (by simp) i hi⟩) (dv 0) rfl) a_nil)))) b_nil)
  (b_cons (s_if (t_cmp o_in (d_ef (er := er) (N := 27) (fun i hi => ⟨ET.ei i hi, ET.no _ (by simp) i hi⟩) (dv 0) rfl) (d_tup (a_cons d_str (a_cons d_str (a_cons d_str a_nil)))) rfl) (b_one (s_ret (d_tup (a_cons (d_ef (er := er) (N := 27) (fun i hi => ⟨ET.ei i hi, ET.no _ (by simp) i hi⟩) (dv 0) rfl) (a_cons (d_ef (er := er) (N := 27) (fun i hi => ⟨ET.ei i hi, ET.no _ (by simp) i hi⟩) (dv 0) rfl) a_nil))))) b_nil)
  (b_cons (s_if (t_cmp o_in (d_ef (er := er) (N := 27) (fun i hi => ⟨ET.ei i hi, ET.no _ (by simp) i hi⟩) (dv 0) rfl) (d_tup (a_cons d_str (a_cons d_str a_nil))) rfl) (b_one (s_ret (d_tup (a_cons (d_ef (er := er) (N := 27) (fun i hi => ⟨ET.ei i hi, ET.no _ (by simp) i hi⟩) (dv 0) rfl) a_nil)))) b_nil)
  (b_one (s_ret (d_if (t_cmp (o_eq hr.units) (d_ef (er := er) (N := 27) (fun i hi => ⟨ET.ei i hi, ET.no _ (by simp) i hi⟩) (dv 0) rfl) d_str (nomark _)) (d_tup (a_cons (d_ef (er := er) (N := 27) (fun i hi => ⟨ET.ei i hi, ET.no _ (by simp) i hi⟩) (dv 0) rfl) a_nil)) (d_tup a_nil))))))))))), ?_⟩
  clear hp ho hr
  rintro ds M k x hl ⟨i, fs, code, vals, rfl, hi, hc, hv, hlen, q⟩
  have S0 : (10 : Nat) ≤ sizeLine := by decide
  have one : ∀ {n : Str} {k' : DK}, oneF fs n = some vals → k' (.tup vals) M → dTup (dCons (dEf er 27 n (dVar 0)) dNil) [some (.err (er i) fs)] M k' x := by
    intro n k' h1 h2
    obtain ⟨d, e1, rfl⟩ := oneF_of h1
    exact ⟨_, rfl, i, fs, d, rfl, hi, e1, by show 1 ≤ sizeLine; omega, h2⟩
  unfold DL.fieldsOf at hv
  refine ⟨_, rfl, i, fs, _, rfl, hi, hc, by show 4 ≤ sizeLine; omega, rfl, rfl, _, rfl, ?_⟩
  refine ite_b (fun e => ?_) (fun e => ?_)
  · replace hv := itT hv e
    exact one hv q
  replace hv := itF hv e
  refine ⟨_, rfl, i, fs, _, rfl, hi, hc, by show 4 ≤ sizeLine; omega, rfl, rfl, _, rfl, ?_⟩
  refine ite_b (fun e => ?_) (fun e => ?_)
  · replace hv := itT hv e
    refine ⟨_, rfl, i, fs, _, rfl, hi, hc, eqC_k ⟨_, rfl, ?_⟩⟩
    refine ite_b (fun e => ?_) (fun e => ?_)
    · replace hv := itT hv e
      exact one hv q
    replace hv := itF hv e
    refine ⟨_, rfl, i, fs, _, rfl, hi, hc, eqC_k ⟨_, rfl, ?_⟩⟩
    refine ite_b (fun e => ?_) (fun e => ?_)
    · replace hv := itT hv e
      exact one hv q
    · replace hv := itF hv e
      exact one hv q
  replace hv := itF hv e
  refine ⟨_, rfl, i, fs, _, rfl, hi, hc, by show 4 ≤ sizeLine; omega, rfl, rfl, _, rfl, ?_⟩
  refine ite_b (fun e => ?_) (fun e => ?_)
  · replace hv := itT hv e
    exact one hv q
  replace hv := itF hv e
  refine ⟨_, rfl, i, fs, _, rfl, hi, hc, by show 4 ≤ sizeLine; omega, rfl, rfl, _, rfl, ?_⟩
  refine ite_b (fun e => ?_) (fun e => ?_)
  · replace hv := itT hv e
    exact one hv q
  replace hv := itF hv e
  refine ⟨_, rfl, i, fs, _, rfl, hi, hc, by show 2 ≤ sizeLine; omega, rfl, rfl, _, rfl, ?_⟩
  refine ite_b (fun e => ?_) (fun e => ?_)
  · replace hv := itT hv e
    exact one hv q
  replace hv := itF hv e
  refine ⟨_, rfl, i, fs, _, rfl, hi, hc, by show 3 ≤ sizeLine; omega, rfl, rfl, _, rfl, ?_⟩
  refine ite_b (fun e => ?_) (fun e => ?_)
  · replace hv := itT hv e
    obtain ⟨d, u, e1, e2, rfl⟩ := twoF_of hv
    exact ⟨_, rfl, i, fs, d, rfl, hi, e1, _, rfl, i, fs, u, rfl, hi, e2, by show 2 ≤ sizeLine; omega, q⟩
  replace hv := itF hv e
  refine ⟨_, rfl, i, fs, _, rfl, hi, hc, by show 2 ≤ sizeLine; omega, rfl, rfl, _, rfl, ?_⟩
  refine ite_b (fun e => ?_) (fun e => ?_)
  · replace hv := itT hv e
    exact one hv q
  replace hv := itF hv e
  refine ⟨_, rfl, i, fs, _, rfl, hi, hc, eqC_k ⟨_, rfl, ?_⟩⟩
  refine ite_b (fun e => ?_) (fun e => ?_)
  · replace hv := itT hv e
    exact one hv q
  · replace hv := itF hv e
    cases hv
    exact ⟨by show 0 ≤ sizeLine; omega, q⟩

end W09
set_option Elab.async false
set_option linter.all false
set_option maxRecDepth 100000
set_option maxHeartbeats 4000000
set_option pp.deepTerms false
set_option pp.deepTerms.threshold 12
set_option pp.maxSteps 4000
namespace W09
open PySem PySem.Spec PyProof.Rows L2 DL
local macro_rules | `(tactic| walk_at "sc") => `(tactic| first | assumption | rfl | exact Nat.le_of_ble_eq_true rfl | decide | omega | exact mul_small (by omega) (by omega) | exact mul_smallR (by omega) (by omega) | exact ⟨by decide, by decide, by decide⟩ | exact ⟨by omega, by assumption⟩ | exact ⟨by decide, log2_small (by decide) (by decide)⟩)
local macro_rules | `(tactic| walk_at "go1") => `(tactic| first | refine ⟨_, rfl, ?_⟩ | refine ⟨rfl, ?_⟩ | refine ⟨_, by assumption, ?_⟩ | refine ⟨_, mup_same, ?_⟩ | refine eqI ?_ | refine neI ?_ | refine iteT ?_ | refine iteF ?_ | refine ⟨(by walk_at "sc"), ?_⟩)
local macro_rules | `(tactic| walk_at "go") => `(tactic| repeat walk_at "go1")
theorem map_get {α : Type} {f : α → D} {S : List α} {j : Nat} {d : D} (h : (S.map f)[j]? = some d) : ∃ s, S[j]? = some s ∧ d = f s := by
  rw [List.getElem?_map] at h
  cases e : S[j]? with
  | none => rw [e] at h; cases h
  | some s => rw [e] at h; cases h; exact ⟨s, rfl, rfl⟩
/-- a list or a tuple -/
def SeqD (u : D) (ds : List D) : Prop := u = .lst ds ∨ u = .tup ds
/-- a comprehension over a list of images -/
theorem lc_mapS {α : Type} {γ : DG} {ε : DE} {vs : List Nat} {ρ : DEnv} {M : Mm} {k : DK} {S : List α} {g : α → D} (f : α → D) (hl : (S.map g).length < sizeLine)
    (he : ∀ s ∈ S, ∀ K : DK, K (f s) M → γ (g s) (wipeD ρ vs) M fun ρ1 M2 => ε ρ1 M2 K (fun _ _ _ => False))
    (gm : ∀ d (K K' : DEnv → Mm → Prop), (∀ ρ M, K ρ M → K' ρ M) → γ d (wipeD ρ vs) M K → γ d (wipeD ρ vs) M K') (hk : k (.lst (S.map f)) M) : LcK γ dYes ε vs ρ (S.map g) M k := by
  refine .of hl (fun j acc M' => M' = M ∧ acc = (S.take j).map f) ⟨rfl, rfl⟩ (fun j d acc M' hd ⟨e1, e2⟩ => ?_) (fun acc M' ⟨e1, e2⟩ => ?_)
  · subst e1 e2
    obtain ⟨s, hs, rfl⟩ := map_get hd
    have hn : List.map f (List.take j S) ++ [f s] = List.map f (List.take (j + 1) S) := by
      rw [List.take_succ, hs]
      simp
    refine gm _ _ _ (fun ρ1 M2 hh => ?_) (he s (List.mem_of_getElem? hs) (fun y M4 => M4 = M' ∧ List.map f (List.take j S) ++ [y] = List.map f (List.take (j + 1) S)) ⟨rfl, hn⟩)
    unfold dYes
    dsimp only
    rw [if_pos rfl]
    exact hh
  · subst e1 e2
    rw [List.length_map, List.take_length]
    exact hk
/-- the errors' codes -/
def cds : List Str := ["InvalidRatio", "InvalidSpan", "InvalidCount", "InvalidLimit", "InvalidText", "InvalidCorners", "InvalidTiles", "InvalidDeed", "InvalidName", "DuplicateName", "SplitSide", "InvalidWall", "MarkedSide", "TooMany", "TooFar", "InvalidPlace", "InvalidRound", "LooseCorner", "Overlap", "InvalidChord", "NotJoined", "NotConvex", "InvalidWinds", "UnknownTile", "UnknownSide", "UnknownMark", "NothingLeft"]
def mks : List Str := ["TooMany", "InvalidName", "InvalidText", "InvalidPlace", "InvalidSpan", "InvalidWall", "UnknownMark"]
def cdx (i : Nat) : Str := (cds[i]?).getD ""
def bbD (t : List (List Bool)) : D := .lst (t.map fun bs => .lst (bs.map .bl))
def bbP (t : List (List Bool)) : PyData := .list (t.map fun bs => .list (bs.map .bool))
theorem toPs_bl : ∀ bs : List Bool, toPs (bs.map .bl) = some (bs.map .bool)
  | [] => rfl
  | b :: bs => by simp only [List.map_cons, toPs, toP, toPs_bl bs]
theorem toPs_bb : ∀ t : List (List Bool), toPs (t.map fun bs => .lst (bs.map .bl)) = some (t.map fun bs => .list (bs.map .bool))
  | [] => rfl
  | b :: t => by simp only [List.map_cons, toPs, toP, toPs_bl b, toPs_bb t, Option.map_some]
theorem toP_bb (t : List (List Bool)) : toP (bbD t) = some (bbP t) := by
  show (toPs _).map _ = _
  rw [toPs_bb]
  rfl
theorem eqBB {a b : D} {A B : List (List Bool)} {M : Mm} {k : DK} (ha : a = bbD A) (hb : b = bbD B) (h1 : SeqAt.shaped (bbP A) = true) (h2 : SeqAt.shaped (bbP B) = true) (h3 : PyData.eqv (bbP A) (bbP B) = true) (q : k (.bl true) M) : EqK a b M k := by
  subst ha hb
  refine eqP (toP_bb A) (toP_bb B) h1 h2 ?_
  rw [h3]
  exact q
def tKA : List (List Bool) := (List.range 27).map fun i => [decide (i = 13), decide (i = 8), decide (i = 4), decide (i = 15), decide (i = 1), decide (i = 11), decide (i = 25)]
def tEA : List (List Bool) := (List.range 27).map fun i => [decide (i < 23), decide (i < 23), decide (23 ≤ i) && decide (i < 26), decide (23 ≤ i), decide (i = 26)]
def tEB : List (List Bool) := List.replicate 23 [true, true, false, false, false] ++ List.replicate 3 [false, false, true, true, false] ++ [[false, false, false, true, true]]
def tKB : List (List Bool) := (List.range 27).map fun i => mks.map fun m => eqC (cdx i) m
/-- their fields -/
def fdx (v w : D) : List (List (Str × D)) := [(fd1 "InvalidRatio" "given") [v], (fd1 "InvalidSpan" "given") [v], (fd1 "InvalidCount" "given") [v], (fd1 "InvalidLimit" "given") [v], (fd1 "InvalidText" "line") [v], (fd1 "InvalidCorners" "at") [v], (fd1 "InvalidTiles" "at") [v], (fd1 "InvalidDeed" "index") [v], (fd1 "InvalidName" "name") [v], (fd1 "DuplicateName" "name") [v], (fd1 "SplitSide" "side") [v], (fd1 "InvalidWall" "side") [v], (fd1 "MarkedSide" "side") [v], (fd1 "TooMany" "most") [v], (fd1 "TooFar" "most") [v], (fd1 "InvalidPlace" "value") [v], (fd1 "InvalidRound" "value") [v], (fd1 "LooseCorner" "corner") [v], (fd2 "Overlap" "one" "other") [v, w], (fd2 "InvalidChord" "one" "other") [v, w], (fd2 "NotJoined" "one" "other") [v, w], (fd0 "NotConvex") [], (fd0 "InvalidWinds") [], (fd1 "UnknownTile" "name") [v], (fd1 "UnknownSide" "side") [v], (fd1 "UnknownMark" "name") [v], (fd0 "NothingLeft") []]
def evD (er : Nat → Addr) (v w : D) (i : Nat) : D := .err (er i) (((fdx v w)[i]?).getD [])
def ph__law_kinds_apart (er : Nat → Addr) : Ct := fun ds M k _ => ∃ v w : D, ds = [.lst ((List.range 27).map (evD er v w)), .lst ((List.range 27).map fun i => .str (cdx i))] ∧ k (.bl true) M
theorem ok__law_kinds_apart {K : PySem.W.Frag} {mg : Str → Option Value} {ad : Nat → Addr} {fd : Nat → FuncData} {cl : Nat → Addr} {P : Program} {w : World} {base : Heap} (T : Txt K mg ad fd cl) {er : Nat → Addr} {ge mi : Addr} (ET : ErT P w K mg base er ge mi) : FnOk P w K mg base (L2.CX P w) 1 (ad 7) (fd 7) ["_law_every", "_law_codes"] (spD K 2 (ph__law_kinds_apart er)) := by
  refine fn_D T.F__law_kinds_apart sc__law_kinds_apart rfl fun cdv A outer s H E hr hp ho => ⟨_, (b_cons (s_setLc (i := 2) (own := [("_law_e", 3)]) rfl sc__law_kinds_apart.nd rfl rfl (sw_true rfl rfl rfl (by decide +kernel)) (i_seq (dv 0)) (blkOk_by (own := [("_law_e", 3)]) (N := ["_law_every", "_law_codes", "_law_kinds", "_law_e", "_law_marks", "_law_code_z", "_law_mark_z"]) (sc := (defScope st__law_kinds_apart)) (by decide +kernel)) (gp_name (by decide)) (fun _ _ _ _ _ => (pg_name (i := 3) sc__law_kinds_apart.nd rfl (Or.inl rfl))) (fun _ _ _ _ _ => ts_nil) (fun _ _ _ _ _ => (d_lst (a_cons (d_isE (fun i => decide (i = 13)) (fun i hi => ⟨ET.ei i hi, ET.is_TooMany i hi⟩) rfl T.b_isinstance rfl ET.m_TooMany (dv 3)) (a_cons (d_isE (fun i => decide (i = 8)) (fun i hi => ⟨ET.ei i hi, ET.is_InvalidName i hi⟩) rfl T.b_isinstance rfl ET.m_InvalidName (dv 3)) (a_cons (d_isE (fun i => decide (i = 4)) (fun i hi => ⟨ET.ei i hi, ET.is_InvalidText i hi⟩) rfl T.b_isinstance rfl ET.m_InvalidText (dv 3)) (a_cons (d_isE (fun i => decide (i = 15)) (fun i hi => ⟨ET.ei i hi, ET.is_InvalidPlace i hi⟩) rfl T.b_isinstance rfl ET.m_InvalidPlace (dv 3)) (a_cons (d_isE (fun i => decide (i = 1)) (fun i hi => ⟨ET.ei i hi, ET.is_InvalidSpan i hi⟩) rfl T.b_isinstance rfl ET.m_InvalidSpan (dv 3)) (a_cons (d_isE (fun i => decide (i = 11)) (fun i hi => ⟨ET.ei i hi, ET.is_InvalidWall i hi⟩) rfl T.b_isinstance rfl ET.m_InvalidWall (dv 3)) (a_cons (d_isE (fun i => decide (i = 25)) (fun i hi => ⟨ET.ei i hi, ET.is_UnknownMark i hi⟩) rfl T.b_isinstance rfl ET.m_UnknownMark (dv 3)) a_nil))))))))))
  (b_cons (s_set (i := 4) sc__law_kinds_apart.nd rfl (Or.inr rfl) (d_lst (a_cons d_str (a_cons d_str (a_cons d_str (a_cons d_str (a_cons d_str (a_cons d_str (a_cons d_str a_nil)))))))))
  (b_one (s_ret (d_cmp (o_eq hr.units) (dv 2) (d_lc (own := [("_law_code_z", 5)]) rfl sc__law_kinds_apart.nd (i_seq (dv 1)) (blkOk_by (own := [("_law_code_z", 5)]) (N := ["_law_every", "_law_codes", "_law_kinds", "_law_e", "_law_marks", "_law_code_z", "_law_mark_z"]) (sc := (defScope st__law_kinds_apart)) (by decide +kernel)) (gp_name (by decide)) (fun _ _ _ _ _ => (pg_name (i := 5) sc__law_kinds_apart.nd rfl (Or.inr rfl) (Or.inl rfl))) (fun _ _ _ _ _ => ts_nil) (fun _ _ _ _ _ => (d_lc (own := [("_law_mark_z", 6)]) rfl sc__law_kinds_apart.nd (i_seq (dv 4)) (blkOk_by (own := [("_law_mark_z", 6)]) (N := ["_law_every", "_law_codes", "_law_kinds", "_law_e", "_law_marks", "_law_code_z", "_law_mark_z"]) (sc := _) (by kernel_rfl)) (gp_name (by decide)) (fun _ _ _ _ _ => (pg_name (i := 6) sc__law_kinds_apart.nd rfl (Or.inl rfl))) (fun _ _ _ _ _ => ts_nil) (fun _ _ _ _ _ => (d_cmp (o_eq hr.units) (dv 5) (dv 6) (nomark _)))))) (nomark _)))))), ?_⟩
  clear hp ho hr
  rintro ds M k x hl ⟨v, w, rfl, q⟩
  refine ⟨_, rfl, lc_mapS (fun i => .lst [.bl (decide (i = 13)), .bl (decide (i = 8)), .bl (decide (i = 4)), .bl (decide (i = 15)), .bl (decide (i = 1)), .bl (decide (i = 11)), .bl (decide (i = 25))]) (by rw [List.length_map, List.length_range]; decide) (fun i hi K hK => ?_) (fun d K K' => gN_mono K K') ?_⟩
  · have hi := List.mem_range.mp hi
    exact ⟨_, rfl, i, _, rfl, hi, _, rfl, i, _, rfl, hi, _, rfl, i, _, rfl, hi, _, rfl, i, _, rfl, hi, _, rfl, i, _, rfl, hi, _, rfl, i, _, rfl, hi, _, rfl, i, _, rfl, hi, Nat.le_of_ble_eq_true rfl, hK⟩
  refine ⟨Nat.le_of_ble_eq_true rfl, ?_⟩
  refine ⟨_, rfl, _, rfl, lc_mapS (fun i => .lst (mks.map fun m => .bl (eqC (cdx i) m))) (by rw [List.length_map, List.length_range]; decide) (fun i hi K hK => ?_) (fun d K K' => gN_mono K K') ?_⟩
  · exact ⟨_, rfl, lc_mapS (S := mks) (g := D.str) (fun m => .bl (eqC (cdx i) m)) (by decide) (fun m hm K hK => ⟨_, rfl, _, rfl, eqC_k hK⟩) (fun d K K' => gN_mono K K') hK⟩
  exact eqBB (A := tKA) (B := tKB) rfl rfl (by decide +kernel) (by decide +kernel) (by decide +kernel) q
def idx : List Nat := [0, 1, 2, 3, 4, 5, 6, 7, 8, 9, 10, 11, 12, 13, 14, 15, 16, 17, 23, 24, 25]
theorem idx_lt : ∀ i ∈ idx, i < 27 := by decide
theorem code_at (v w : D) : ∀ i, i < 27 → (((fdx v w)[i]?).getD []).lookup ("code" : Str) = some (.str (cdx i))
  | 0, _ => List.lookup_cons_self
  | 1, _ => List.lookup_cons_self
  | 2, _ => List.lookup_cons_self
  | 3, _ => List.lookup_cons_self
  | 4, _ => List.lookup_cons_self
  | 5, _ => List.lookup_cons_self
  | 6, _ => List.lookup_cons_self
  | 7, _ => List.lookup_cons_self
  | 8, _ => List.lookup_cons_self
  | 9, _ => List.lookup_cons_self
  | 10, _ => List.lookup_cons_self
  | 11, _ => List.lookup_cons_self
  | 12, _ => List.lookup_cons_self
  | 13, _ => List.lookup_cons_self
  | 14, _ => List.lookup_cons_self
  | 15, _ => List.lookup_cons_self
  | 16, _ => List.lookup_cons_self
  | 17, _ => List.lookup_cons_self
  | 18, _ => List.lookup_cons_self
  | 19, _ => List.lookup_cons_self
  | 20, _ => List.lookup_cons_self
  | 21, _ => List.lookup_cons_self
  | 22, _ => List.lookup_cons_self
  | 23, _ => List.lookup_cons_self
  | 24, _ => List.lookup_cons_self
  | 25, _ => List.lookup_cons_self
  | 26, _ => List.lookup_cons_self
  | i + 27, h => absurd h (by omega)
theorem flds1 (v w : D) : ∀ i ∈ idx, DL.fieldsOf (cdx i) (((fdx v w)[i]?).getD []) = some [v] := by
  intro i hi
  simp only [idx, List.mem_cons, List.not_mem_nil, or_false] at hi
  rcases hi with rfl | rfl | rfl | rfl | rfl | rfl | rfl | rfl | rfl | rfl | rfl | rfl | rfl | rfl | rfl | rfl | rfl | rfl | rfl | rfl | rfl
  · kernel_rfl
  · kernel_rfl
  · kernel_rfl
  · kernel_rfl
  · kernel_rfl
  · kernel_rfl
  · kernel_rfl
  · kernel_rfl
  · kernel_rfl
  · kernel_rfl
  · kernel_rfl
  · kernel_rfl
  · kernel_rfl
  · kernel_rfl
  · kernel_rfl
  · kernel_rfl
  · kernel_rfl
  · kernel_rfl
  · kernel_rfl
  · kernel_rfl
  · kernel_rfl
theorem flds2 (v w : D) : ∀ i ∈ [18, 19, 20], DL.fieldsOf (cdx i) (((fdx v w)[i]?).getD []) = some [v, w] := by
  intro i hi
  simp only [List.mem_cons, List.not_mem_nil, or_false] at hi
  rcases hi with rfl | rfl | rfl
  · kernel_rfl
  · kernel_rfl
  · kernel_rfl
def ph__law_errors_so (er : Nat → Addr) : Ct := fun ds M k _ => ∃ v w : D, ds = [.lst ((List.range 27).map (evD er v w)), .lst ((List.range 27).map fun i => .str (cdx i)), .lst ((List.range 18).map fun i => .tup [evD er v w i, v]), .lst ([23, 24, 25].map (evD er v w)), .lst ([18, 19, 20].map (evD er v w)), v, w] ∧ pureD 4 v = true ∧ pureD 4 w = true ∧ k (.bl true) M
theorem ok__law_errors_so {K : PySem.W.Frag} {mg : Str → Option Value} {ad : Nat → Addr} {fd : Nat → FuncData} {cl : Nat → Addr} {P : Program} {w : World} {base : Heap} (T : Txt K mg ad fd cl) {er : Nat → Addr} {ge mi : Addr} (ET : ErT P w K mg base er ge mi) : FnOk P w K mg base (L2.CX P w) 16 (ad 8) (fd 8) ["_law_every", "_law_codes", "_law_rows", "_law_lone", "_law_pairs", "_law_v", "_law_w"] (spD K 7 (ph__law_errors_so er)) := by
  have G__law_same := ok__law_same (P := P) (w := w) (base := base) T 5
  have G__law_fields := ok__law_fields (P := P) (w := w) (base := base) T ET
  have G__law_kinds_apart := ok__law_kinds_apart (P := P) (w := w) (base := base) T ET
  refine fn_D T.F__law_errors_so sc__law_errors_so rfl fun cdv A outer s H E hr hp ho => ⟨_, (b_cons (s_if (t_not (t_val (d_call G__law_same (hr.mono (by decide)) rfl T.m__law_same T.k__law_same T.kb__law_same_2 (by intro _ _ h _; exact h) hp (a_cons (d_lc (own := [("_law_e", 7)]) rfl sc__law_errors_so.nd (i_seq (dv 0)) (blkOk_by (own := [("_law_e", 7)]) (N := ["_law_every", "_law_codes", "_law_rows", "_law_lone", "_law_pairs", "_law_v", "_law_w", "_law_e", "_law_row", "_law_truths", "_law_due"]) (sc := (defScope st__law_errors_so)) (by decide +kernel)) (gp_name (by decide)) (fun _ _ _ _ _ => (pg_name (i := 7) sc__law_errors_so.nd rfl (Or.inl rfl))) (fun _ _ _ _ _ => ts_nil) (fun _ _ _ _ _ => (d_ef (er := er) (N := 27) (fun i hi => ⟨ET.ei i hi, ET.no _ (by simp) i hi⟩) (dv 7) rfl))) (a_cons (dv 1) a_nil))))) (b_one (s_ret d_bl)) b_nil)
  (b_cons (s_if (t_not (t_val (d_callB (c_all rfl) rfl T.b_all boot_all' (a_cons (d_lc (own := [("_law_row", 8)]) rfl sc__law_errors_so.nd (i_seq (d_op o_add (dv 2) (d_lc (own := [("_law_e", 7)]) rfl sc__law_errors_so.nd (i_seq (dv 3)) (blkOk_by (own := [("_law_e", 7)]) (N := ["_law_every", "_law_codes", "_law_rows", "_law_lone", "_law_pairs", "_law_v", "_law_w", "_law_e", "_law_row", "_law_truths", "_law_due"]) (sc := (defScope st__law_errors_so)) (by decide +kernel)) (gp_name (by decide)) (fun _ _ _ _ _ => (pg_name (i := 7) sc__law_errors_so.nd rfl (Or.inl rfl))) (fun _ _ _ _ _ => ts_nil) (fun _ _ _ _ _ => (d_tup (a_cons (dv 7) (a_cons (dv 5) a_nil))))))) (blkOk_by (own := [("_law_row", 8)]) (N := ["_law_every", "_law_codes", "_law_rows", "_law_lone", "_law_pairs", "_law_v", "_law_w", "_law_e", "_law_row", "_law_truths", "_law_due"]) (sc := (defScope st__law_errors_so)) (by decide +kernel)) (gp_name (by decide)) (fun _ _ _ _ _ => (pg_name (i := 8) sc__law_errors_so.nd rfl (Or.inl rfl))) (fun _ _ _ _ _ => ts_nil) (fun _ _ _ _ _ => (d_call G__law_same (hr.mono (by decide)) rfl T.m__law_same T.k__law_same T.kb__law_same_2 (by intro _ _ h _; exact h) passL (a_cons (d_call G__law_fields (hr.mono (by decide)) rfl T.m__law_fields T.k__law_fields T.kb__law_fields_1 (by intro _ _ h _; exact h) passL (a_cons (d_ix x_ix (dv 8) d_int (fun _ _ => rfl)) a_nil)) (a_cons (d_tup (a_cons (d_ix x_ix (dv 8) d_int (fun _ _ => rfl)) a_nil)) a_nil))))) a_nil)))) (b_one (s_ret d_bl)) b_nil)
  (b_cons (s_if (t_not (t_val (d_callB (c_all rfl) rfl T.b_all boot_all' (a_cons (d_lc (own := [("_law_e", 7)]) rfl sc__law_errors_so.nd (i_seq (dv 4)) (blkOk_by (own := [("_law_e", 7)]) (N := ["_law_every", "_law_codes", "_law_rows", "_law_lone", "_law_pairs", "_law_v", "_law_w", "_law_e", "_law_row", "_law_truths", "_law_due"]) (sc := (defScope st__law_errors_so)) (by decide +kernel)) (gp_name (by decide)) (fun _ _ _ _ _ => (pg_name (i := 7) sc__law_errors_so.nd rfl (Or.inl rfl))) (fun _ _ _ _ _ => ts_nil) (fun _ _ _ _ _ => (d_call G__law_same (hr.mono (by decide)) rfl T.m__law_same T.k__law_same T.kb__law_same_2 (by intro _ _ h _; exact h) passL (a_cons (d_call G__law_fields (hr.mono (by decide)) rfl T.m__law_fields T.k__law_fields T.kb__law_fields_1 (by intro _ _ h _; exact h) passL (a_cons (dv 7) a_nil)) (a_cons (d_tup (a_cons (dv 5) (a_cons (dv 6) a_nil))) a_nil))))) a_nil)))) (b_one (s_ret d_bl)) b_nil)
  (b_cons (s_setLc (i := 9) (own := [("_law_e", 7)]) rfl sc__law_errors_so.nd rfl rfl (sw_true rfl rfl rfl (by decide +kernel)) (i_seq (dv 0)) (blkOk_by (own := [("_law_e", 7)]) (N := ["_law_every", "_law_codes", "_law_rows", "_law_lone", "_law_pairs", "_law_v", "_law_w", "_law_e", "_law_row", "_law_truths", "_law_due"]) (sc := (defScope st__law_errors_so)) (by decide +kernel)) (gp_name (by decide)) (fun _ _ _ _ _ => (pg_name (i := 7) sc__law_errors_so.nd rfl (Or.inl rfl))) (fun _ _ _ _ _ => ts_nil) (fun _ _ _ _ _ => (d_lst (a_cons (d_isE (fun i => decide (i < 23)) (fun i hi => ⟨ET.ei i hi, ET.is_GustError i hi⟩) rfl T.b_isinstance rfl ET.m_GustError (dv 7)) (a_cons (d_isEB (fun i => decide (i < 23)) (fun i hi => ⟨ET.ei i hi, ET.is_ValueError i hi⟩) rfl T.b_isinstance rfl ET.m_ValueError (by decide +kernel) (dv 7)) (a_cons (d_isE (fun i => decide (23 ≤ i) && decide (i < 26)) (fun i hi => ⟨ET.ei i hi, ET.is_Missing i hi⟩) rfl T.b_isinstance rfl ET.m_Missing (dv 7)) (a_cons (d_isEB (fun i => decide (23 ≤ i)) (fun i hi => ⟨ET.ei i hi, ET.is_LookupError i hi⟩) rfl T.b_isinstance rfl ET.m_LookupError (by decide +kernel) (dv 7)) (a_cons (d_isEB (fun i => decide (i = 26)) (fun i hi => ⟨ET.ei i hi, ET.is_IndexError i hi⟩) rfl T.b_isinstance rfl ET.m_IndexError (by decide +kernel) (dv 7)) a_nil))))))))
  (b_cons (s_set (i := 10) sc__law_errors_so.nd rfl (Or.inl rfl) (d_op o_add (d_op o_mulL (d_lst (a_cons (d_lst (a_cons d_bl (a_cons d_bl (a_cons d_bl (a_cons d_bl (a_cons d_bl a_nil)))))) a_nil)) d_int) (d_op o_mulL (d_lst (a_cons (d_lst (a_cons d_bl (a_cons d_bl (a_cons d_bl (a_cons d_bl (a_cons d_bl a_nil)))))) a_nil)) d_int)))
  (b_one (s_ret (d_and (d_cmp (o_eq hr.units) (dv 9) (d_op o_add (dv 10) (d_lst (a_cons (d_lst (a_cons d_bl (a_cons d_bl (a_cons d_bl (a_cons d_bl (a_cons d_bl a_nil)))))) a_nil))) (nomark _)) (d_one (d_call G__law_kinds_apart (hr.mono (by decide)) rfl T.m__law_kinds_apart T.k__law_kinds_apart T.kb__law_kinds_apart_2 (by intro _ _ h _; exact h) hp (a_cons (dv 0) (a_cons (dv 1) a_nil)))))))))))), ?_⟩
  clear hp ho hr G__law_same G__law_fields G__law_kinds_apart
  rintro ds M k x hl ⟨v, w, rfl, pv, pw, q⟩
  refine ⟨_, rfl, lc_mapS (fun i => .str (cdx i)) (by rw [List.length_map, List.length_range]; decide) (fun i hi K hK => ⟨_, rfl, i, _, _, rfl, List.mem_range.mp hi, code_at v w i (List.mem_range.mp hi), hK⟩) (fun d K K' => gN_mono K K') ?_⟩
  refine ⟨_, rfl, rfl, sameK rfl (by decide +kernel) ⟨_, rfl, iteF ?_⟩⟩
  refine ⟨_, rfl, _, rfl, lc_mapS (fun i => .tup [evD er v w i, v]) (by rw [List.length_map]; decide) (fun i hi K hK => ⟨_, rfl, _, rfl, Nat.le_of_ble_eq_true rfl, hK⟩) (fun d K K' => gN_mono K K') ?_⟩
  refine ⟨Nat.le_of_ble_eq_true rfl, lc_mapS (S := idx) (g := fun i => .tup [evD er v w i, v]) (fun _ => .bl true) (by rw [List.length_map]; decide) (fun i hi K hK => ?_) (fun d K K' => gN_mono K K') ?_⟩
  · have h27 : i < 27 := idx_lt i hi
    have pp : pureD 5 (.tup [v]) = true := by
      simp only [pureD, pureDs, pv]
      rfl
    exact ⟨_, rfl, _, rfl, rfl, i, _, cdx i, [v], rfl, h27, code_at v w i h27, flds1 v w i hi, Nat.le_of_ble_eq_true rfl, _, rfl, _, rfl, Nat.le_of_ble_eq_true rfl, rfl, sameK rfl pp hK⟩
  refine ⟨idx.map fun _ => true, rfl, _, rfl, iteF ?_⟩
  refine ⟨_, rfl, lc_mapS (fun _ => .bl true) (by rw [List.length_map]; decide) (fun i hi K hK => ?_) (fun d K K' => gN_mono K K') ?_⟩
  · have h27 : i < 27 := by
      simp only [List.mem_cons, List.not_mem_nil, or_false] at hi
      omega
    have pp : pureD 5 (.tup [v, w]) = true := by
      simp only [pureD, pureDs, pv, pw]
      rfl
    exact ⟨_, rfl, rfl, i, _, cdx i, [v, w], rfl, h27, code_at v w i h27, flds2 v w i hi, Nat.le_of_ble_eq_true rfl, _, rfl, _, rfl, Nat.le_of_ble_eq_true rfl, rfl, sameK rfl pp hK⟩
  refine ⟨[true, true, true], rfl, _, rfl, iteF ?_⟩
  refine ⟨_, rfl, lc_mapS (fun i => .lst [.bl (decide (i < 23)), .bl (decide (i < 23)), .bl (decide (23 ≤ i) && decide (i < 26)), .bl (decide (23 ≤ i)), .bl (decide (i = 26))]) (by rw [List.length_map, List.length_range]; decide) (fun i hi K hK => ?_) (fun d K K' => gN_mono K K') ?_⟩
  · have hi := List.mem_range.mp hi
    exact ⟨_, rfl, i, _, rfl, hi, _, rfl, i, _, rfl, hi, _, rfl, i, _, rfl, hi, _, rfl, i, _, rfl, hi, _, rfl, i, _, rfl, hi, Nat.le_of_ble_eq_true rfl, hK⟩
  refine ⟨Nat.le_of_ble_eq_true rfl, Nat.le_of_ble_eq_true rfl, by decide, by decide, Nat.le_of_ble_eq_true rfl, ?_⟩
  refine ⟨Nat.le_of_ble_eq_true rfl, Nat.le_of_ble_eq_true rfl, by decide, by decide, Nat.le_of_ble_eq_true rfl, Nat.le_of_ble_eq_true rfl, ?_⟩
  refine ⟨_, rfl, _, rfl, Nat.le_of_ble_eq_true rfl, Nat.le_of_ble_eq_true rfl, Nat.le_of_ble_eq_true rfl, ?_⟩
  refine eqBB (A := tEA) (B := tEB) rfl rfl (by decide +kernel) (by decide +kernel) (by decide +kernel) ⟨_, rfl, iteT ?_⟩
  exact ⟨_, rfl, _, rfl, rfl, v, w, rfl, q⟩

end W09
set_option Elab.async false
set_option linter.all false
set_option maxRecDepth 100000
set_option maxHeartbeats 4000000
set_option pp.deepTerms false
set_option pp.deepTerms.threshold 12
set_option pp.maxSteps 4000
namespace W09
open PySem PySem.Spec PyProof.Rows L2 DL
local macro_rules | `(tactic| walk_at "sc") => `(tactic| first | assumption | rfl | exact Nat.le_of_ble_eq_true rfl | decide | omega | exact mul_small (by omega) (by omega) | exact mul_smallR (by omega) (by omega) | exact ⟨by decide, by decide, by decide⟩ | exact ⟨by omega, by assumption⟩ | exact ⟨by decide, log2_small (by decide) (by decide)⟩)
local macro_rules | `(tactic| walk_at "go1") => `(tactic| first | refine ⟨_, rfl, ?_⟩ | refine ⟨rfl, ?_⟩ | refine ⟨_, by assumption, ?_⟩ | refine ⟨_, mup_same, ?_⟩ | refine eqI ?_ | refine neI ?_ | refine iteT ?_ | refine iteF ?_ | refine ⟨(by walk_at "sc"), ?_⟩)
local macro_rules | `(tactic| walk_at "go") => `(tactic| repeat walk_at "go1")
def rowL (er : Nat → Addr) (v : D) : List D := [.tup [.err (er 0) (fd1 "InvalidRatio" "given" [v]), v], .tup [.err (er 1) (fd1 "InvalidSpan" "given" [v]), v], .tup [.err (er 2) (fd1 "InvalidCount" "given" [v]), v], .tup [.err (er 3) (fd1 "InvalidLimit" "given" [v]), v], .tup [.err (er 4) (fd1 "InvalidText" "line" [v]), v], .tup [.err (er 5) (fd1 "InvalidCorners" "at" [v]), v], .tup [.err (er 6) (fd1 "InvalidTiles" "at" [v]), v], .tup [.err (er 7) (fd1 "InvalidDeed" "index" [v]), v], .tup [.err (er 8) (fd1 "InvalidName" "name" [v]), v], .tup [.err (er 9) (fd1 "DuplicateName" "name" [v]), v], .tup [.err (er 10) (fd1 "SplitSide" "side" [v]), v], .tup [.err (er 11) (fd1 "InvalidWall" "side" [v]), v], .tup [.err (er 12) (fd1 "MarkedSide" "side" [v]), v], .tup [.err (er 13) (fd1 "TooMany" "most" [v]), v], .tup [.err (er 14) (fd1 "TooFar" "most" [v]), v], .tup [.err (er 15) (fd1 "InvalidPlace" "value" [v]), v], .tup [.err (er 16) (fd1 "InvalidRound" "value" [v]), v], .tup [.err (er 17) (fd1 "LooseCorner" "corner" [v]), v]]
theorem rowL_eq {er : Nat → Addr} {v w : D} : rowL er v = (List.range 18).map fun i => .tup [evD er v w i, v] := rfl
theorem ev_eq {er : Nat → Addr} {v w : D} : (List.range 18).map (evD er v w) ++ [18, 19, 20].map (evD er v w) ++ [.err (er 21) (fd0 "NotConvex" ([] ++ [])), .err (er 22) (fd0 "InvalidWinds" ([] ++ []))] ++ [23, 24, 25].map (evD er v w) ++ [.err (er 26) (fd0 "NothingLeft" ([] ++ []))] = (List.range 27).map (evD er v w) := rfl
def cd21 : List D := [.str "InvalidRatio", .str "InvalidSpan", .str "InvalidCount", .str "InvalidLimit", .str "InvalidText", .str "InvalidCorners", .str "InvalidTiles", .str "InvalidDeed", .str "InvalidName", .str "DuplicateName", .str "SplitSide", .str "InvalidWall", .str "MarkedSide", .str "TooMany", .str "TooFar", .str "InvalidPlace", .str "InvalidRound", .str "LooseCorner", .str "Overlap", .str "InvalidChord", .str "NotJoined"]
theorem cds_eq : cds.map D.str = (List.range 27).map fun i => D.str (cdx i) := by
  have h : cds = (List.range 27).map cdx := by decide +kernel
  rw [h, List.map_map]
  rfl
theorem cd_eq : cd21 ++ [D.str (Str.ofString "NotConvex"), D.str (Str.ofString "InvalidWinds"), D.str (Str.ofString "UnknownTile"), D.str (Str.ofString "UnknownSide"), D.str (Str.ofString "UnknownMark"), D.str (Str.ofString "NothingLeft")] = (List.range 27).map fun i => D.str (cdx i) := by
  rw [← cds_eq]
  rfl
def ph_law : Ct := fun ds M k _ => ∃ ns : List Int, ds = [.scr ns] ∧ ns.length ≤ 63 ∧ ∀ M', k (.bl true) M'
theorem ph_law_of {ns : List Int} {M : Mm} {kk : DK} {xx : DX} (h1 : ns.length ≤ 63) (h2 : ∀ z ∈ ns, Builtin.Int.intBits z ≤ 1048576) (h3 : ∀ a, M a = none) (h4 : ∀ M', kk (.bl true) M') : ph_law [.scr ns] M kk xx := ⟨ns, rfl, h1, h4⟩
theorem ok_law {K : PySem.W.Frag} {mg : Str → Option Value} {ad : Nat → Addr} {fd : Nat → FuncData} {cl : Nat → Addr} {P : Program} {w : World} {base : Heap} (T : Txt K mg ad fd cl) {er : Nat → Addr} {ge mi : Addr} (ET : ErT P w K mg base er ge mi) : FnOk P w K mg base (L2.CX P w) 18 (ad 9) (fd 9) ["_law_script"] (spD K 1 ph_law) := by
  have G__law_start := ok__law_start (P := P) (w := w) (base := base) T
  have G__law_stray := ok__law_stray (P := P) (w := w) (base := base) T
  have G__law_pick := ok__law_pick (P := P) (w := w) (base := base) T
  have G__law_errors_so := ok__law_errors_so (P := P) (w := w) (base := base) T ET
  refine fn_D T.F_law sc_law rfl fun cdv A outer s H E hr hp ho => ⟨_, (b_cons (s_set (i := 1) sc_law.nd rfl (Or.inl rfl) (d_call G__law_start (hr.mono (by decide)) rfl T.m__law_start T.k__law_start T.kb__law_start_1 (by intro _ _ h _; exact h) hp (a_cons (dv 0) a_nil)))
  (b_cons (s_par (i := 2) (j := 3) rfl sc_law.nd rfl rfl (by decide) rfl rfl (a_cons (d_call G__law_stray (hr.mono (by decide)) rfl T.m__law_stray T.k__law_stray T.kb__law_stray_1 (by intro _ _ h _; exact h) hp (a_cons (dv 1) a_nil)) (a_cons (d_call G__law_pick (hr.mono (by decide)) rfl T.m__law_pick T.k__law_pick T.kb__law_pick_2 (by intro _ _ h _; exact h) hp (a_cons (dv 1) (a_cons (d_lst (a_cons d_str (a_cons d_int (a_cons (d_tup (a_cons d_int (a_cons d_int a_nil))) (a_cons (d_lst (a_cons d_int a_nil)) (a_cons d_non a_nil)))))) a_nil))) a_nil)) rfl)
  (b_cons (s_set (i := 4) sc_law.nd rfl (Or.inl rfl) (d_lst (a_cons (d_tup (a_cons (d_err0 (flD := (fd1 "InvalidRatio" "given")) ET.e_InvalidRatio (fun r h => fr1 r h) (hr.mono (by decide)) rfl (k_cons (dv 2) k_nil)) (a_cons (dv 2) a_nil))) (a_cons (d_tup (a_cons (d_err0 (flD := (fd1 "InvalidSpan" "given")) ET.e_InvalidSpan (fun r h => fr1 r h) (hr.mono (by decide)) rfl (k_cons (dv 2) k_nil)) (a_cons (dv 2) a_nil))) (a_cons (d_tup (a_cons (d_err0 (flD := (fd1 "InvalidCount" "given")) ET.e_InvalidCount (fun r h => fr1 r h) (hr.mono (by decide)) rfl (k_cons (dv 2) k_nil)) (a_cons (dv 2) a_nil))) (a_cons (d_tup (a_cons (d_err0 (flD := (fd1 "InvalidLimit" "given")) ET.e_InvalidLimit (fun r h => fr1 r h) (hr.mono (by decide)) rfl (k_cons (dv 2) k_nil)) (a_cons (dv 2) a_nil))) a_nil))))))
  (b_cons (s_set (i := 4) sc_law.nd rfl (Or.inl rfl) (d_op o_add (dv 4) (d_lst (a_cons (d_tup (a_cons (d_err0 (flD := (fd1 "InvalidText" "line")) ET.e_InvalidText (fun r h => fr1 r h) (hr.mono (by decide)) rfl (k_cons (dv 2) k_nil)) (a_cons (dv 2) a_nil))) (a_cons (d_tup (a_cons (d_err0 (flD := (fd1 "InvalidCorners" "at")) ET.e_InvalidCorners (fun r h => fr1 r h) (hr.mono (by decide)) rfl (k_cons (dv 2) k_nil)) (a_cons (dv 2) a_nil))) (a_cons (d_tup (a_cons (d_err0 (flD := (fd1 "InvalidTiles" "at")) ET.e_InvalidTiles (fun r h => fr1 r h) (hr.mono (by decide)) rfl (k_cons (dv 2) k_nil)) (a_cons (dv 2) a_nil))) (a_cons (d_tup (a_cons (d_err0 (flD := (fd1 "InvalidDeed" "index")) ET.e_InvalidDeed (fun r h => fr1 r h) (hr.mono (by decide)) rfl (k_cons (dv 2) k_nil)) (a_cons (dv 2) a_nil))) a_nil)))))))
  (b_cons (s_set (i := 4) sc_law.nd rfl (Or.inl rfl) (d_op o_add (dv 4) (d_lst (a_cons (d_tup (a_cons (d_err0 (flD := (fd1 "InvalidName" "name")) ET.e_InvalidName (fun r h => fr1 r h) (hr.mono (by decide)) rfl (k_cons (dv 2) k_nil)) (a_cons (dv 2) a_nil))) (a_cons (d_tup (a_cons (d_err0 (flD := (fd1 "DuplicateName" "name")) ET.e_DuplicateName (fun r h => fr1 r h) (hr.mono (by decide)) rfl (k_cons (dv 2) k_nil)) (a_cons (dv 2) a_nil))) (a_cons (d_tup (a_cons (d_err0 (flD := (fd1 "SplitSide" "side")) ET.e_SplitSide (fun r h => fr1 r h) (hr.mono (by decide)) rfl (k_cons (dv 2) k_nil)) (a_cons (dv 2) a_nil))) (a_cons (d_tup (a_cons (d_err0 (flD := (fd1 "InvalidWall" "side")) ET.e_InvalidWall (fun r h => fr1 r h) (hr.mono (by decide)) rfl (k_cons (dv 2) k_nil)) (a_cons (dv 2) a_nil))) a_nil)))))))
  (b_cons (s_set (i := 4) sc_law.nd rfl (Or.inl rfl) (d_op o_add (dv 4) (d_lst (a_cons (d_tup (a_cons (d_err0 (flD := (fd1 "MarkedSide" "side")) ET.e_MarkedSide (fun r h => fr1 r h) (hr.mono (by decide)) rfl (k_cons (dv 2) k_nil)) (a_cons (dv 2) a_nil))) (a_cons (d_tup (a_cons (d_err0 (flD := (fd1 "TooMany" "most")) ET.e_TooMany (fun r h => fr1 r h) (hr.mono (by decide)) rfl (k_cons (dv 2) k_nil)) (a_cons (dv 2) a_nil))) (a_cons (d_tup (a_cons (d_err0 (flD := (fd1 "TooFar" "most")) ET.e_TooFar (fun r h => fr1 r h) (hr.mono (by decide)) rfl (k_cons (dv 2) k_nil)) (a_cons (dv 2) a_nil))) (a_cons (d_tup (a_cons (d_err0 (flD := (fd1 "InvalidPlace" "value")) ET.e_InvalidPlace (fun r h => fr1 r h) (hr.mono (by decide)) rfl (k_cons (dv 2) k_nil)) (a_cons (dv 2) a_nil))) a_nil)))))))
  (b_cut (s_set (i := 4) sc_law.nd rfl (Or.inl rfl) (d_op o_add (dv 4) (d_lst (a_cons (d_tup (a_cons (d_err0 (flD := (fd1 "InvalidRound" "value")) ET.e_InvalidRound (fun r h => fr1 r h) (hr.mono (by decide)) rfl (k_cons (dv 2) k_nil)) (a_cons (dv 2) a_nil))) (a_cons (d_tup (a_cons (d_err0 (flD := (fd1 "LooseCorner" "corner")) ET.e_LooseCorner (fun r h => fr1 r h) (hr.mono (by decide)) rfl (k_cons (dv 2) k_nil)) (a_cons (dv 2) a_nil))) a_nil)))))
  (b_cons (s_set (i := 5) sc_law.nd rfl (Or.inl rfl) (d_lst (a_cons (d_err0 (flD := (fd2 "Overlap" "one" "other")) ET.e_Overlap (fun r h => fr2 r h) (hr.mono (by decide)) rfl (k_cons (dv 2) (k_cons (dv 3) k_nil))) (a_cons (d_err (flD := (fd2 "InvalidChord" "one" "other")) ET.e_InvalidChord (fun r h => fr2 r h) (hr.mono (by decide)) (by decide) rfl (a_cons (dv 2) (a_cons (dv 3) a_nil)) k_nil) (a_cons (d_err (flD := (fd2 "NotJoined" "one" "other")) ET.e_NotJoined (fun r h => fr2 r h) (hr.mono (by decide)) (by decide) rfl (a_cons (dv 2) a_nil) (k_cons (dv 3) k_nil)) a_nil)))))
  (b_cons (s_set (i := 6) sc_law.nd rfl (Or.inl rfl) (d_lst (a_cons (d_err0 (flD := (fd1 "UnknownTile" "name")) ET.e_UnknownTile (fun r h => fr1 r h) (hr.mono (by decide)) rfl (k_cons (dv 2) k_nil)) (a_cons (d_err0 (flD := (fd1 "UnknownSide" "side")) ET.e_UnknownSide (fun r h => fr1 r h) (hr.mono (by decide)) rfl (k_cons (dv 2) k_nil)) (a_cons (d_err0 (flD := (fd1 "UnknownMark" "name")) ET.e_UnknownMark (fun r h => fr1 r h) (hr.mono (by decide)) rfl (k_cons (dv 2) k_nil)) a_nil)))))
  (b_cons (s_set (i := 7) sc_law.nd rfl (Or.inl rfl) (d_lst (a_cons d_str (a_cons d_str (a_cons d_str (a_cons d_str (a_cons d_str (a_cons d_str (a_cons d_str a_nil)))))))))
  (b_cons (s_set (i := 7) sc_law.nd rfl (Or.inl rfl) (d_op o_add (dv 7) (d_lst (a_cons d_str (a_cons d_str (a_cons d_str (a_cons d_str (a_cons d_str (a_cons d_str (a_cons d_str a_nil))))))))))
  (b_cut (s_set (i := 7) sc_law.nd rfl (Or.inl rfl) (d_op o_add (dv 7) (d_lst (a_cons d_str (a_cons d_str (a_cons d_str (a_cons d_str (a_cons d_str (a_cons d_str (a_cons d_str a_nil))))))))))
  (b_cut (s_set (i := 8) sc_law.nd rfl (Or.inl rfl) (d_op o_add (d_op o_add (d_op o_add (d_op o_add (d_lc (own := [("_law_row", 9)]) rfl sc_law.nd (i_seq (dv 4)) (blkOk_by (own := [("_law_row", 9)]) (N := ["_law_script", "_law_bag", "_law_v", "_law_w", "_law_rows", "_law_pairs", "_law_lone", "_law_codes", "_law_every", "_law_row"]) (sc := (defScope st_law)) (by decide +kernel)) (gp_name (by decide)) (fun _ _ _ _ _ => (pg_name (i := 9) sc_law.nd rfl (Or.inl rfl))) (fun _ _ _ _ _ => ts_nil) (fun _ _ _ _ _ => (d_ix x_ix (dv 9) d_int (fun _ _ => rfl)))) (dv 5)) (d_lst (a_cons (d_err0 (flD := (fd0 "NotConvex")) ET.e_NotConvex (fun r h => fr0 r h) (hr.mono (by decide)) rfl k_nil) (a_cons (d_err0 (flD := (fd0 "InvalidWinds")) ET.e_InvalidWinds (fun r h => fr0 r h) (hr.mono (by decide)) rfl k_nil) a_nil)))) (dv 6)) (d_lst (a_cons (d_err0 (flD := (fd0 "NothingLeft")) ET.e_NothingLeft (fun r h => fr0 r h) (hr.mono (by decide)) rfl k_nil) a_nil))))
  (b_cons (s_set (i := 7) sc_law.nd rfl (Or.inl rfl) (d_op o_add (dv 7) (d_lst (a_cons d_str (a_cons d_str (a_cons d_str (a_cons d_str (a_cons d_str (a_cons d_str a_nil)))))))))
  (b_one (s_ret (d_call G__law_errors_so (hr.mono (by decide)) rfl T.m__law_errors_so T.k__law_errors_so T.kb__law_errors_so_7 (by intro _ _ h _; exact h) hp (a_cons (dv 8) (a_cons (dv 7) (a_cons (dv 4) (a_cons (dv 6) (a_cons (dv 5) (a_cons (dv 2) (a_cons (dv 3) a_nil)))))))))))))))))))))))), ?_⟩
  clear hp ho hr G__law_start G__law_stray G__law_pick G__law_errors_so
  rintro ds M k x hl ⟨ns, rfl, hn, q⟩
  refine ⟨_, rfl, rfl, ns, rfl, hn, fun p b hp hb => ?_⟩
  refine ⟨_, rfl, rfl, p, b, rfl, mup_same, hb, fun v hv b1 hb1 => ?_⟩
  rw [mup_mup]
  refine ⟨_, rfl, Nat.le_of_ble_eq_true rfl, Nat.le_of_ble_eq_true rfl, Nat.le_of_ble_eq_true rfl, rfl, pickL hb1 (Nat.le_of_ble_eq_true rfl) (Nat.le_of_ble_eq_true rfl) fun w hw b2 hb2 => ?_⟩
  have pv : pureD 4 v = true := by
    simp only [strays, List.mem_cons, List.not_mem_nil, or_false] at hv
    rcases hv with rfl | rfl | rfl | rfl | rfl | rfl | rfl | rfl | rfl <;> rfl
  have pw : pureD 4 w = true := by
    simp only [List.mem_cons, List.not_mem_nil, or_false] at hw
    rcases hw with rfl | rfl | rfl | rfl | rfl <;> rfl
  clear hv hw
  refine ⟨_, _, rfl, ?_⟩
  generalize mup M p b2.mo = M2
  clear hp hb hb1 hb2
  refine ⟨_, rfl, rfl, rfl, _, rfl, Nat.le_of_ble_eq_true rfl, _, rfl, rfl, rfl, _, rfl, Nat.le_of_ble_eq_true rfl, _, rfl, rfl, rfl, _, rfl, Nat.le_of_ble_eq_true rfl, _, rfl, rfl, rfl, _, rfl, Nat.le_of_ble_eq_true rfl, Nat.le_of_ble_eq_true rfl, ?_⟩
  refine ⟨_, rfl, _, rfl, rfl, rfl, _, rfl, Nat.le_of_ble_eq_true rfl, _, rfl, rfl, rfl, _, rfl, Nat.le_of_ble_eq_true rfl, _, rfl, rfl, rfl, _, rfl, Nat.le_of_ble_eq_true rfl, _, rfl, rfl, rfl, _, rfl, Nat.le_of_ble_eq_true rfl, Nat.le_of_ble_eq_true rfl, Nat.le_of_ble_eq_true rfl, ?_⟩
  refine ⟨_, rfl, _, rfl, rfl, rfl, _, rfl, Nat.le_of_ble_eq_true rfl, _, rfl, rfl, rfl, _, rfl, Nat.le_of_ble_eq_true rfl, _, rfl, rfl, rfl, _, rfl, Nat.le_of_ble_eq_true rfl, _, rfl, rfl, rfl, _, rfl, Nat.le_of_ble_eq_true rfl, Nat.le_of_ble_eq_true rfl, Nat.le_of_ble_eq_true rfl, ?_⟩
  refine ⟨_, rfl, _, rfl, rfl, rfl, _, rfl, Nat.le_of_ble_eq_true rfl, _, rfl, rfl, rfl, _, rfl, Nat.le_of_ble_eq_true rfl, _, rfl, rfl, rfl, _, rfl, Nat.le_of_ble_eq_true rfl, _, rfl, rfl, rfl, _, rfl, Nat.le_of_ble_eq_true rfl, Nat.le_of_ble_eq_true rfl, Nat.le_of_ble_eq_true rfl, ?_⟩
  refine ⟨fun ρ M' => M2 = M' ∧ ρ = [some (.scr ns), some (.cel p), some v, some w, some (.lst (rowL er v)), none, none, none, none, none], ?_, ?_⟩
  · exact ⟨_, rfl, _, rfl, rfl, rfl, _, rfl, Nat.le_of_ble_eq_true rfl, _, rfl, rfl, rfl, _, rfl, Nat.le_of_ble_eq_true rfl, Nat.le_of_ble_eq_true rfl, Nat.le_of_ble_eq_true rfl, rfl, rfl⟩
  rintro ρ M' ⟨rfl, rfl⟩
  rw [rowL_eq (w := w)]
  refine ⟨_, rfl, _, rfl, rfl, rfl, _, rfl, _, rfl, rfl, rfl, _, rfl, _, rfl, rfl, rfl, Nat.le_of_ble_eq_true rfl, ?_⟩
  refine ⟨_, rfl, rfl, rfl, _, rfl, rfl, rfl, _, rfl, rfl, rfl, Nat.le_of_ble_eq_true rfl, ?_⟩
  refine ⟨Nat.le_of_ble_eq_true rfl, ?_⟩
  refine ⟨_, rfl, Nat.le_of_ble_eq_true rfl, Nat.le_of_ble_eq_true rfl, ?_⟩
  refine ⟨fun ρ M' => M2 = M' ∧ ρ = [some (.scr ns), some (.cel p), some v, some w, some (.lst ((List.range 18).map fun i => .tup [evD er v w i, v])), some (.lst ([18, 19, 20].map (evD er v w))), some (.lst ([23, 24, 25].map (evD er v w))), some (.lst cd21), none, none], ?_, ?_⟩
  · exact ⟨_, rfl, Nat.le_of_ble_eq_true rfl, Nat.le_of_ble_eq_true rfl, rfl, rfl⟩
  rintro ρ M' ⟨rfl, rfl⟩
  refine ⟨fun ρ M' => M2 = M' ∧ ρ = [some (.scr ns), some (.cel p), some v, some w, some (.lst ((List.range 18).map fun i => .tup [evD er v w i, v])), some (.lst ([18, 19, 20].map (evD er v w))), some (.lst ([23, 24, 25].map (evD er v w))), some (.lst cd21), some (.lst ((List.range 27).map (evD er v w))), none], ?_, ?_⟩
  · refine ⟨_, rfl, lc_mapS (evD er v w) (by rw [List.length_map, List.length_range]; decide) (fun i hi K hK => ⟨_, rfl, _, rfl, hK⟩) (fun d K K' => gN_mono K K') ?_⟩
    refine ⟨_, rfl, (by simp only [List.length_append, List.length_map, List.length_range, List.length_cons, List.length_nil]; exact Nat.le_of_ble_eq_true rfl), rfl, rfl, rfl, rfl, Nat.le_of_ble_eq_true rfl, (by simp only [List.length_append, List.length_map, List.length_range, List.length_cons, List.length_nil]; exact Nat.le_of_ble_eq_true rfl), _, rfl, (by simp only [List.length_append, List.length_map, List.length_range, List.length_cons, List.length_nil]; exact Nat.le_of_ble_eq_true rfl), rfl, rfl, Nat.le_of_ble_eq_true rfl, (by simp only [List.length_append, List.length_map, List.length_range, List.length_cons, List.length_nil]; exact Nat.le_of_ble_eq_true rfl), ?_⟩
    rw [ev_eq]
    exact ⟨rfl, rfl⟩
  rintro ρ M' ⟨rfl, rfl⟩
  refine ⟨_, rfl, Nat.le_of_ble_eq_true rfl, Nat.le_of_ble_eq_true rfl, ?_⟩
  rw [cd_eq]
  exact ⟨_, rfl, _, rfl, _, rfl, _, rfl, _, rfl, _, rfl, _, rfl, rfl, v, w, rfl, pv, pw, q _⟩

end W09
set_option Elab.async false
set_option linter.all false
set_option maxRecDepth 100000
set_option maxHeartbeats 4000000
set_option pp.deepTerms false
set_option pp.deepTerms.threshold 12
set_option pp.maxSteps 4000
namespace W09
open PySem PySem.Spec PyProof.Rows L2 DL
/-- what the written part says of an error's class -/
def oxB (K : PySem.W.Frag) (B : String) (C : Addr) : Bool := decide (PySem.W.findIn K (.ref C) "__setattr__" = some (some (.builtin "object.__setattr__"))) && (decide (PySem.W.subIn K (.ref C) (.type "BaseException") = some true) && (decide (PySem.W.typeIn K (.ref C) = some (.type "type")) && (PySem.W.keepIn K (.ref C) && ((PySem.W.clsIn K C).isSome && (decide (PySem.W.mroIn K C (.ref C) = some true) && (decide (PySem.W.ks_superIn K C C "__init__" = some (some (.builtin (B ++ ".__init__")))) && (decide (PySem.W.subIn K (.ref C) (.type B) = some true) && (decide (PySem.W.findIn K (.ref C) "__class__" = some (some (.builtin "object.__class__"))) && decide (PySem.W.mroIn K C (.type "object") = some true)))))))))
structure OxB (K : PySem.W.Frag) (B : String) (C : Addr) : Prop where
  sa : PySem.W.findIn K (.ref C) "__setattr__" = some (some (.builtin "object.__setattr__"))
  exC : PySem.W.subIn K (.ref C) (.type "BaseException") = some true
  tyC : PySem.W.typeIn K (.ref C) = some (.type "type")
  kC : PySem.W.keepIn K (.ref C) = true
  cl : (PySem.W.clsIn K C).isSome = true
  CD : PySem.W.mroIn K C (.ref C) = some true
  al : PySem.W.ks_superIn K C C "__init__" = some (some (.builtin (B ++ ".__init__")))
  VE : PySem.W.subIn K (.ref C) (.type B) = some true
  ha : PySem.W.findIn K (.ref C) "__class__" = some (some (.builtin "object.__class__"))
  hm : PySem.W.mroIn K C (.type "object") = some true
theorem oxB_ok {K : PySem.W.Frag} {B : String} {C : Addr} (h : oxB K B C = true) : OxB K B C := by
  simp only [oxB, Bool.and_eq_true, decide_eq_true_eq] at h
  obtain ⟨h1, h2, h3, h4, h5, h6, h7, h8, h9, h10⟩ := h
  exact ⟨h1, h2, h3, h4, h5, h6, h7, h8, h9, h10⟩
def noB (K : PySem.W.Frag) (C : Addr) (ns : List Str) : Bool := ns.all fun n => decide (PySem.W.findIn K (.ref C) n = some none)
theorem noB_ok {K : PySem.W.Frag} {C : Addr} {ns : List Str} (h : noB K C ns = true) : ∀ n ∈ ns, PySem.W.findIn K (.ref C) n = some none := fun n hn => of_decide_eq_true (List.all_eq_true.mp h n hn)
abbrev NOSX : List Str := ["code", "given", "line", "index", "at", "name", "side", "most", "one", "other", "value", "corner"]
def isB (K : PySem.W.Frag) (C : Addr) (cs : List (Value × Bool)) : Bool := cs.all fun c => decide (PySem.W.kitOne K (.ref C) c.1 = some c.2)
theorem isB_ok {K : PySem.W.Frag} {C : Addr} {cs : List (Value × Bool)} (h : isB K C cs = true) {c : Value} {b : Bool} (hc : (c, b) ∈ cs) : PySem.W.kitOne K (.ref C) c = some b := of_decide_eq_true (List.all_eq_true.mp h _ hc)
theorem err_InvalidRatio {P : Program} {w : World} {K : PySem.W.Frag} {mg : Str → Option Value} {base : Heap} {CR fX cdX ccX : Addr} {ocX kVX dcX pmX ctX eX clX : Value} {odX anX deX cldX : Option Addr} {slX sX cslX : Array (Option Value)} {vsX : Array Value} {fileX : Str} {tfX : Tok}
    (m : mg "InvalidRatio" = some (.ref CR)) (T : XG.OexB K "ValueError.__new__" [.type "ValueError", .type "Exception", .type "BaseException", .type "object"] CR) (iX : PySem.W.findIn K (.ref CR) "__init__" = some (some (.ref fX))) (tiX : PySem.W.typeIn K (.ref fX) = some (.type "function"))
    (lfX : K.lookup fX = some ⟨ocX, odX, .func (PySem.W.ksFn "__init__" "InvalidRatio.__init__" (defArgs st_InvalidRatio___init__) (defBody st_InvalidRatio___init__) (defScope st_InvalidRatio___init__) .none kVX dcX pmX anX (.ref cdX) ctX ccX), slX⟩)
    (lcX : K.lookup cdX = some ⟨eX, deX, .fields vsX, sX⟩) (h2X : vsX[2]? = some (.str fileX tfX)) (hfX : ((P.main.file : Str) == fileX) = true) (lccX : K.lookup ccX = some ⟨clX, cldX, .cell (some (.ref CR)), cslX⟩) (cX : PySem.W.codeIn K (.ref cdX) "InvalidRatio.__init__" = true)
    (tpX : (P.main.scope.names.lookup ("super" : Str)).isSome = false) (su : mg "super" = none) (op : PySem.W.nsIn K cStatics "thirdparty.any" = some none) (OB : OxB K "ValueError" CR) (no : ∀ n ∈ NOSX, PySem.W.findIn K (.ref CR) n = some none) : ErrF P w K mg base "InvalidRatio" CR 0 ["given"] (XI.fl1 "InvalidRatio" "given") := by
  refine ⟨m, "ValueError", _, _, _, fX, _, ["self", "given"], XG.basV, T, iX, tiX, ⟨?_, fun r1 r2 => r1.append r2⟩, XG.fn_exc1 (k := 0) ⟨⟨_, _, _, _, _, _, _, _, _, _, _, _, _, _, _, _, _, _, rfl, lfX, lcX, h2X, hfX, lccX⟩, cX, tpX⟩ ss_InvalidRatio XG.basV ⟨T, su, op, OB.cl, OB.CD, OB.al, OB.VE⟩ (no _ (by simp))  (no _ (by simp)) (by decide) (by decide) (fun _ => rfl) (fun _ => rfl) (fun _ => rfl) ⟩
  intro s us ws _ h1 h2
  match us, ws, h1, h2 with
  | [a0], [z0], _, _ => exact .of_eq rfl
theorem err_InvalidSpan {P : Program} {w : World} {K : PySem.W.Frag} {mg : Str → Option Value} {base : Heap} {CR fX cdX ccX : Addr} {ocX kVX dcX pmX ctX eX clX : Value} {odX anX deX cldX : Option Addr} {slX sX cslX : Array (Option Value)} {vsX : Array Value} {fileX : Str} {tfX : Tok}
    (m : mg "InvalidSpan" = some (.ref CR)) (T : XG.OexB K "ValueError.__new__" [.type "ValueError", .type "Exception", .type "BaseException", .type "object"] CR) (iX : PySem.W.findIn K (.ref CR) "__init__" = some (some (.ref fX))) (tiX : PySem.W.typeIn K (.ref fX) = some (.type "function"))
    (lfX : K.lookup fX = some ⟨ocX, odX, .func (PySem.W.ksFn "__init__" "InvalidSpan.__init__" (defArgs st_InvalidSpan___init__) (defBody st_InvalidSpan___init__) (defScope st_InvalidSpan___init__) .none kVX dcX pmX anX (.ref cdX) ctX ccX), slX⟩)
    (lcX : K.lookup cdX = some ⟨eX, deX, .fields vsX, sX⟩) (h2X : vsX[2]? = some (.str fileX tfX)) (hfX : ((P.main.file : Str) == fileX) = true) (lccX : K.lookup ccX = some ⟨clX, cldX, .cell (some (.ref CR)), cslX⟩) (cX : PySem.W.codeIn K (.ref cdX) "InvalidSpan.__init__" = true)
    (tpX : (P.main.scope.names.lookup ("super" : Str)).isSome = false) (su : mg "super" = none) (op : PySem.W.nsIn K cStatics "thirdparty.any" = some none) (OB : OxB K "ValueError" CR) (no : ∀ n ∈ NOSX, PySem.W.findIn K (.ref CR) n = some none) : ErrF P w K mg base "InvalidSpan" CR 0 ["given"] (XI.fl1 "InvalidSpan" "given") := by
  refine ⟨m, "ValueError", _, _, _, fX, _, ["self", "given"], XG.basV, T, iX, tiX, ⟨?_, fun r1 r2 => r1.append r2⟩, XG.fn_exc1 (k := 0) ⟨⟨_, _, _, _, _, _, _, _, _, _, _, _, _, _, _, _, _, _, rfl, lfX, lcX, h2X, hfX, lccX⟩, cX, tpX⟩ ss_InvalidSpan XG.basV ⟨T, su, op, OB.cl, OB.CD, OB.al, OB.VE⟩ (no _ (by simp))  (no _ (by simp)) (by decide) (by decide) (fun _ => rfl) (fun _ => rfl) (fun _ => rfl) ⟩
  intro s us ws _ h1 h2
  match us, ws, h1, h2 with
  | [a0], [z0], _, _ => exact .of_eq rfl
theorem err_InvalidCount {P : Program} {w : World} {K : PySem.W.Frag} {mg : Str → Option Value} {base : Heap} {CR fX cdX ccX : Addr} {ocX kVX dcX pmX ctX eX clX : Value} {odX anX deX cldX : Option Addr} {slX sX cslX : Array (Option Value)} {vsX : Array Value} {fileX : Str} {tfX : Tok}
    (m : mg "InvalidCount" = some (.ref CR)) (T : XG.OexB K "ValueError.__new__" [.type "ValueError", .type "Exception", .type "BaseException", .type "object"] CR) (iX : PySem.W.findIn K (.ref CR) "__init__" = some (some (.ref fX))) (tiX : PySem.W.typeIn K (.ref fX) = some (.type "function"))
    (lfX : K.lookup fX = some ⟨ocX, odX, .func (PySem.W.ksFn "__init__" "InvalidCount.__init__" (defArgs st_InvalidCount___init__) (defBody st_InvalidCount___init__) (defScope st_InvalidCount___init__) .none kVX dcX pmX anX (.ref cdX) ctX ccX), slX⟩)
    (lcX : K.lookup cdX = some ⟨eX, deX, .fields vsX, sX⟩) (h2X : vsX[2]? = some (.str fileX tfX)) (hfX : ((P.main.file : Str) == fileX) = true) (lccX : K.lookup ccX = some ⟨clX, cldX, .cell (some (.ref CR)), cslX⟩) (cX : PySem.W.codeIn K (.ref cdX) "InvalidCount.__init__" = true)
    (tpX : (P.main.scope.names.lookup ("super" : Str)).isSome = false) (su : mg "super" = none) (op : PySem.W.nsIn K cStatics "thirdparty.any" = some none) (OB : OxB K "ValueError" CR) (no : ∀ n ∈ NOSX, PySem.W.findIn K (.ref CR) n = some none) : ErrF P w K mg base "InvalidCount" CR 0 ["given"] (XI.fl1 "InvalidCount" "given") := by
  refine ⟨m, "ValueError", _, _, _, fX, _, ["self", "given"], XG.basV, T, iX, tiX, ⟨?_, fun r1 r2 => r1.append r2⟩, XG.fn_exc1 (k := 0) ⟨⟨_, _, _, _, _, _, _, _, _, _, _, _, _, _, _, _, _, _, rfl, lfX, lcX, h2X, hfX, lccX⟩, cX, tpX⟩ ss_InvalidCount XG.basV ⟨T, su, op, OB.cl, OB.CD, OB.al, OB.VE⟩ (no _ (by simp))  (no _ (by simp)) (by decide) (by decide) (fun _ => rfl) (fun _ => rfl) (fun _ => rfl) ⟩
  intro s us ws _ h1 h2
  match us, ws, h1, h2 with
  | [a0], [z0], _, _ => exact .of_eq rfl
theorem err_InvalidLimit {P : Program} {w : World} {K : PySem.W.Frag} {mg : Str → Option Value} {base : Heap} {CR fX cdX ccX : Addr} {ocX kVX dcX pmX ctX eX clX : Value} {odX anX deX cldX : Option Addr} {slX sX cslX : Array (Option Value)} {vsX : Array Value} {fileX : Str} {tfX : Tok}
    (m : mg "InvalidLimit" = some (.ref CR)) (T : XG.OexB K "ValueError.__new__" [.type "ValueError", .type "Exception", .type "BaseException", .type "object"] CR) (iX : PySem.W.findIn K (.ref CR) "__init__" = some (some (.ref fX))) (tiX : PySem.W.typeIn K (.ref fX) = some (.type "function"))
    (lfX : K.lookup fX = some ⟨ocX, odX, .func (PySem.W.ksFn "__init__" "InvalidLimit.__init__" (defArgs st_InvalidLimit___init__) (defBody st_InvalidLimit___init__) (defScope st_InvalidLimit___init__) .none kVX dcX pmX anX (.ref cdX) ctX ccX), slX⟩)
    (lcX : K.lookup cdX = some ⟨eX, deX, .fields vsX, sX⟩) (h2X : vsX[2]? = some (.str fileX tfX)) (hfX : ((P.main.file : Str) == fileX) = true) (lccX : K.lookup ccX = some ⟨clX, cldX, .cell (some (.ref CR)), cslX⟩) (cX : PySem.W.codeIn K (.ref cdX) "InvalidLimit.__init__" = true)
    (tpX : (P.main.scope.names.lookup ("super" : Str)).isSome = false) (su : mg "super" = none) (op : PySem.W.nsIn K cStatics "thirdparty.any" = some none) (OB : OxB K "ValueError" CR) (no : ∀ n ∈ NOSX, PySem.W.findIn K (.ref CR) n = some none) : ErrF P w K mg base "InvalidLimit" CR 0 ["given"] (XI.fl1 "InvalidLimit" "given") := by
  refine ⟨m, "ValueError", _, _, _, fX, _, ["self", "given"], XG.basV, T, iX, tiX, ⟨?_, fun r1 r2 => r1.append r2⟩, XG.fn_exc1 (k := 0) ⟨⟨_, _, _, _, _, _, _, _, _, _, _, _, _, _, _, _, _, _, rfl, lfX, lcX, h2X, hfX, lccX⟩, cX, tpX⟩ ss_InvalidLimit XG.basV ⟨T, su, op, OB.cl, OB.CD, OB.al, OB.VE⟩ (no _ (by simp))  (no _ (by simp)) (by decide) (by decide) (fun _ => rfl) (fun _ => rfl) (fun _ => rfl) ⟩
  intro s us ws _ h1 h2
  match us, ws, h1, h2 with
  | [a0], [z0], _, _ => exact .of_eq rfl
theorem err_InvalidText {P : Program} {w : World} {K : PySem.W.Frag} {mg : Str → Option Value} {base : Heap} {CR fX cdX ccX : Addr} {ocX kVX dcX pmX ctX eX clX : Value} {odX anX deX cldX : Option Addr} {slX sX cslX : Array (Option Value)} {vsX : Array Value} {fileX : Str} {tfX : Tok}
    (m : mg "InvalidText" = some (.ref CR)) (T : XG.OexB K "ValueError.__new__" [.type "ValueError", .type "Exception", .type "BaseException", .type "object"] CR) (iX : PySem.W.findIn K (.ref CR) "__init__" = some (some (.ref fX))) (tiX : PySem.W.typeIn K (.ref fX) = some (.type "function"))
    (lfX : K.lookup fX = some ⟨ocX, odX, .func (PySem.W.ksFn "__init__" "InvalidText.__init__" (defArgs st_InvalidText___init__) (defBody st_InvalidText___init__) (defScope st_InvalidText___init__) .none kVX dcX pmX anX (.ref cdX) ctX ccX), slX⟩)
    (lcX : K.lookup cdX = some ⟨eX, deX, .fields vsX, sX⟩) (h2X : vsX[2]? = some (.str fileX tfX)) (hfX : ((P.main.file : Str) == fileX) = true) (lccX : K.lookup ccX = some ⟨clX, cldX, .cell (some (.ref CR)), cslX⟩) (cX : PySem.W.codeIn K (.ref cdX) "InvalidText.__init__" = true)
    (tpX : (P.main.scope.names.lookup ("super" : Str)).isSome = false) (su : mg "super" = none) (op : PySem.W.nsIn K cStatics "thirdparty.any" = some none) (OB : OxB K "ValueError" CR) (no : ∀ n ∈ NOSX, PySem.W.findIn K (.ref CR) n = some none) : ErrF P w K mg base "InvalidText" CR 0 ["line"] (XI.fl1 "InvalidText" "line") := by
  refine ⟨m, "ValueError", _, _, _, fX, _, ["self", "line"], XG.basV, T, iX, tiX, ⟨?_, fun r1 r2 => r1.append r2⟩, XG.fn_exc1 (k := 0) ⟨⟨_, _, _, _, _, _, _, _, _, _, _, _, _, _, _, _, _, _, rfl, lfX, lcX, h2X, hfX, lccX⟩, cX, tpX⟩ ss_InvalidText XG.basV ⟨T, su, op, OB.cl, OB.CD, OB.al, OB.VE⟩ (no _ (by simp))  (no _ (by simp)) (by decide) (by decide) (fun _ => rfl) (fun _ => rfl) (fun _ => rfl) ⟩
  intro s us ws _ h1 h2
  match us, ws, h1, h2 with
  | [a0], [z0], _, _ => exact .of_eq rfl
theorem err_InvalidCorners {P : Program} {w : World} {K : PySem.W.Frag} {mg : Str → Option Value} {base : Heap} {CR fX cdX ccX : Addr} {ocX kVX dcX pmX ctX eX clX : Value} {odX anX deX cldX : Option Addr} {slX sX cslX : Array (Option Value)} {vsX : Array Value} {fileX : Str} {tfX : Tok}
    (m : mg "InvalidCorners" = some (.ref CR)) (T : XG.OexB K "ValueError.__new__" [.type "ValueError", .type "Exception", .type "BaseException", .type "object"] CR) (iX : PySem.W.findIn K (.ref CR) "__init__" = some (some (.ref fX))) (tiX : PySem.W.typeIn K (.ref fX) = some (.type "function"))
    (lfX : K.lookup fX = some ⟨ocX, odX, .func (PySem.W.ksFn "__init__" "InvalidCorners.__init__" (defArgs st_InvalidCorners___init__) (defBody st_InvalidCorners___init__) (defScope st_InvalidCorners___init__) .none kVX dcX pmX anX (.ref cdX) ctX ccX), slX⟩)
    (lcX : K.lookup cdX = some ⟨eX, deX, .fields vsX, sX⟩) (h2X : vsX[2]? = some (.str fileX tfX)) (hfX : ((P.main.file : Str) == fileX) = true) (lccX : K.lookup ccX = some ⟨clX, cldX, .cell (some (.ref CR)), cslX⟩) (cX : PySem.W.codeIn K (.ref cdX) "InvalidCorners.__init__" = true)
    (tpX : (P.main.scope.names.lookup ("super" : Str)).isSome = false) (su : mg "super" = none) (op : PySem.W.nsIn K cStatics "thirdparty.any" = some none) (OB : OxB K "ValueError" CR) (no : ∀ n ∈ NOSX, PySem.W.findIn K (.ref CR) n = some none) : ErrF P w K mg base "InvalidCorners" CR 0 ["at"] (XI.fl1 "InvalidCorners" "at") := by
  refine ⟨m, "ValueError", _, _, _, fX, _, ["self", "at"], XG.basV, T, iX, tiX, ⟨?_, fun r1 r2 => r1.append r2⟩, XG.fn_exc1 (k := 0) ⟨⟨_, _, _, _, _, _, _, _, _, _, _, _, _, _, _, _, _, _, rfl, lfX, lcX, h2X, hfX, lccX⟩, cX, tpX⟩ ss_InvalidCorners XG.basV ⟨T, su, op, OB.cl, OB.CD, OB.al, OB.VE⟩ (no _ (by simp))  (no _ (by simp)) (by decide) (by decide) (fun _ => rfl) (fun _ => rfl) (fun _ => rfl) ⟩
  intro s us ws _ h1 h2
  match us, ws, h1, h2 with
  | [a0], [z0], _, _ => exact .of_eq rfl
theorem err_InvalidTiles {P : Program} {w : World} {K : PySem.W.Frag} {mg : Str → Option Value} {base : Heap} {CR fX cdX ccX : Addr} {ocX kVX dcX pmX ctX eX clX : Value} {odX anX deX cldX : Option Addr} {slX sX cslX : Array (Option Value)} {vsX : Array Value} {fileX : Str} {tfX : Tok}
    (m : mg "InvalidTiles" = some (.ref CR)) (T : XG.OexB K "ValueError.__new__" [.type "ValueError", .type "Exception", .type "BaseException", .type "object"] CR) (iX : PySem.W.findIn K (.ref CR) "__init__" = some (some (.ref fX))) (tiX : PySem.W.typeIn K (.ref fX) = some (.type "function"))
    (lfX : K.lookup fX = some ⟨ocX, odX, .func (PySem.W.ksFn "__init__" "InvalidTiles.__init__" (defArgs st_InvalidTiles___init__) (defBody st_InvalidTiles___init__) (defScope st_InvalidTiles___init__) .none kVX dcX pmX anX (.ref cdX) ctX ccX), slX⟩)
    (lcX : K.lookup cdX = some ⟨eX, deX, .fields vsX, sX⟩) (h2X : vsX[2]? = some (.str fileX tfX)) (hfX : ((P.main.file : Str) == fileX) = true) (lccX : K.lookup ccX = some ⟨clX, cldX, .cell (some (.ref CR)), cslX⟩) (cX : PySem.W.codeIn K (.ref cdX) "InvalidTiles.__init__" = true)
    (tpX : (P.main.scope.names.lookup ("super" : Str)).isSome = false) (su : mg "super" = none) (op : PySem.W.nsIn K cStatics "thirdparty.any" = some none) (OB : OxB K "ValueError" CR) (no : ∀ n ∈ NOSX, PySem.W.findIn K (.ref CR) n = some none) : ErrF P w K mg base "InvalidTiles" CR 0 ["at"] (XI.fl1 "InvalidTiles" "at") := by
  refine ⟨m, "ValueError", _, _, _, fX, _, ["self", "at"], XG.basV, T, iX, tiX, ⟨?_, fun r1 r2 => r1.append r2⟩, XG.fn_exc1 (k := 0) ⟨⟨_, _, _, _, _, _, _, _, _, _, _, _, _, _, _, _, _, _, rfl, lfX, lcX, h2X, hfX, lccX⟩, cX, tpX⟩ ss_InvalidTiles XG.basV ⟨T, su, op, OB.cl, OB.CD, OB.al, OB.VE⟩ (no _ (by simp))  (no _ (by simp)) (by decide) (by decide) (fun _ => rfl) (fun _ => rfl) (fun _ => rfl) ⟩
  intro s us ws _ h1 h2
  match us, ws, h1, h2 with
  | [a0], [z0], _, _ => exact .of_eq rfl
theorem err_InvalidDeed {P : Program} {w : World} {K : PySem.W.Frag} {mg : Str → Option Value} {base : Heap} {CR fX cdX ccX : Addr} {ocX kVX dcX pmX ctX eX clX : Value} {odX anX deX cldX : Option Addr} {slX sX cslX : Array (Option Value)} {vsX : Array Value} {fileX : Str} {tfX : Tok}
    (m : mg "InvalidDeed" = some (.ref CR)) (T : XG.OexB K "ValueError.__new__" [.type "ValueError", .type "Exception", .type "BaseException", .type "object"] CR) (iX : PySem.W.findIn K (.ref CR) "__init__" = some (some (.ref fX))) (tiX : PySem.W.typeIn K (.ref fX) = some (.type "function"))
    (lfX : K.lookup fX = some ⟨ocX, odX, .func (PySem.W.ksFn "__init__" "InvalidDeed.__init__" (defArgs st_InvalidDeed___init__) (defBody st_InvalidDeed___init__) (defScope st_InvalidDeed___init__) .none kVX dcX pmX anX (.ref cdX) ctX ccX), slX⟩)
    (lcX : K.lookup cdX = some ⟨eX, deX, .fields vsX, sX⟩) (h2X : vsX[2]? = some (.str fileX tfX)) (hfX : ((P.main.file : Str) == fileX) = true) (lccX : K.lookup ccX = some ⟨clX, cldX, .cell (some (.ref CR)), cslX⟩) (cX : PySem.W.codeIn K (.ref cdX) "InvalidDeed.__init__" = true)
    (tpX : (P.main.scope.names.lookup ("super" : Str)).isSome = false) (su : mg "super" = none) (op : PySem.W.nsIn K cStatics "thirdparty.any" = some none) (OB : OxB K "ValueError" CR) (no : ∀ n ∈ NOSX, PySem.W.findIn K (.ref CR) n = some none) : ErrF P w K mg base "InvalidDeed" CR 0 ["index"] (XI.fl1 "InvalidDeed" "index") := by
  refine ⟨m, "ValueError", _, _, _, fX, _, ["self", "index"], XG.basV, T, iX, tiX, ⟨?_, fun r1 r2 => r1.append r2⟩, XG.fn_exc1 (k := 0) ⟨⟨_, _, _, _, _, _, _, _, _, _, _, _, _, _, _, _, _, _, rfl, lfX, lcX, h2X, hfX, lccX⟩, cX, tpX⟩ ss_InvalidDeed XG.basV ⟨T, su, op, OB.cl, OB.CD, OB.al, OB.VE⟩ (no _ (by simp))  (no _ (by simp)) (by decide) (by decide) (fun _ => rfl) (fun _ => rfl) (fun _ => rfl) ⟩
  intro s us ws _ h1 h2
  match us, ws, h1, h2 with
  | [a0], [z0], _, _ => exact .of_eq rfl
theorem err_InvalidName {P : Program} {w : World} {K : PySem.W.Frag} {mg : Str → Option Value} {base : Heap} {CR fX cdX ccX : Addr} {ocX kVX dcX pmX ctX eX clX : Value} {odX anX deX cldX : Option Addr} {slX sX cslX : Array (Option Value)} {vsX : Array Value} {fileX : Str} {tfX : Tok}
    (m : mg "InvalidName" = some (.ref CR)) (T : XG.OexB K "ValueError.__new__" [.type "ValueError", .type "Exception", .type "BaseException", .type "object"] CR) (iX : PySem.W.findIn K (.ref CR) "__init__" = some (some (.ref fX))) (tiX : PySem.W.typeIn K (.ref fX) = some (.type "function"))
    (lfX : K.lookup fX = some ⟨ocX, odX, .func (PySem.W.ksFn "__init__" "InvalidName.__init__" (defArgs st_InvalidName___init__) (defBody st_InvalidName___init__) (defScope st_InvalidName___init__) .none kVX dcX pmX anX (.ref cdX) ctX ccX), slX⟩)
    (lcX : K.lookup cdX = some ⟨eX, deX, .fields vsX, sX⟩) (h2X : vsX[2]? = some (.str fileX tfX)) (hfX : ((P.main.file : Str) == fileX) = true) (lccX : K.lookup ccX = some ⟨clX, cldX, .cell (some (.ref CR)), cslX⟩) (cX : PySem.W.codeIn K (.ref cdX) "InvalidName.__init__" = true)
    (tpX : (P.main.scope.names.lookup ("super" : Str)).isSome = false) (su : mg "super" = none) (op : PySem.W.nsIn K cStatics "thirdparty.any" = some none) (OB : OxB K "ValueError" CR) (no : ∀ n ∈ NOSX, PySem.W.findIn K (.ref CR) n = some none) : ErrF P w K mg base "InvalidName" CR 0 ["name"] (XI.fl1 "InvalidName" "name") := by
  refine ⟨m, "ValueError", _, _, _, fX, _, ["self", "name"], XG.basV, T, iX, tiX, ⟨?_, fun r1 r2 => r1.append r2⟩, XG.fn_exc1 (k := 0) ⟨⟨_, _, _, _, _, _, _, _, _, _, _, _, _, _, _, _, _, _, rfl, lfX, lcX, h2X, hfX, lccX⟩, cX, tpX⟩ ss_InvalidName XG.basV ⟨T, su, op, OB.cl, OB.CD, OB.al, OB.VE⟩ (no _ (by simp))  (no _ (by simp)) (by decide) (by decide) (fun _ => rfl) (fun _ => rfl) (fun _ => rfl) ⟩
  intro s us ws _ h1 h2
  match us, ws, h1, h2 with
  | [a0], [z0], _, _ => exact .of_eq rfl
theorem err_DuplicateName {P : Program} {w : World} {K : PySem.W.Frag} {mg : Str → Option Value} {base : Heap} {CR fX cdX ccX : Addr} {ocX kVX dcX pmX ctX eX clX : Value} {odX anX deX cldX : Option Addr} {slX sX cslX : Array (Option Value)} {vsX : Array Value} {fileX : Str} {tfX : Tok}
    (m : mg "DuplicateName" = some (.ref CR)) (T : XG.OexB K "ValueError.__new__" [.type "ValueError", .type "Exception", .type "BaseException", .type "object"] CR) (iX : PySem.W.findIn K (.ref CR) "__init__" = some (some (.ref fX))) (tiX : PySem.W.typeIn K (.ref fX) = some (.type "function"))
    (lfX : K.lookup fX = some ⟨ocX, odX, .func (PySem.W.ksFn "__init__" "DuplicateName.__init__" (defArgs st_DuplicateName___init__) (defBody st_DuplicateName___init__) (defScope st_DuplicateName___init__) .none kVX dcX pmX anX (.ref cdX) ctX ccX), slX⟩)
    (lcX : K.lookup cdX = some ⟨eX, deX, .fields vsX, sX⟩) (h2X : vsX[2]? = some (.str fileX tfX)) (hfX : ((P.main.file : Str) == fileX) = true) (lccX : K.lookup ccX = some ⟨clX, cldX, .cell (some (.ref CR)), cslX⟩) (cX : PySem.W.codeIn K (.ref cdX) "DuplicateName.__init__" = true)
    (tpX : (P.main.scope.names.lookup ("super" : Str)).isSome = false) (su : mg "super" = none) (op : PySem.W.nsIn K cStatics "thirdparty.any" = some none) (OB : OxB K "ValueError" CR) (no : ∀ n ∈ NOSX, PySem.W.findIn K (.ref CR) n = some none) : ErrF P w K mg base "DuplicateName" CR 0 ["name"] (XI.fl1 "DuplicateName" "name") := by
  refine ⟨m, "ValueError", _, _, _, fX, _, ["self", "name"], XG.basV, T, iX, tiX, ⟨?_, fun r1 r2 => r1.append r2⟩, XG.fn_exc1 (k := 0) ⟨⟨_, _, _, _, _, _, _, _, _, _, _, _, _, _, _, _, _, _, rfl, lfX, lcX, h2X, hfX, lccX⟩, cX, tpX⟩ ss_DuplicateName XG.basV ⟨T, su, op, OB.cl, OB.CD, OB.al, OB.VE⟩ (no _ (by simp))  (no _ (by simp)) (by decide) (by decide) (fun _ => rfl) (fun _ => rfl) (fun _ => rfl) ⟩
  intro s us ws _ h1 h2
  match us, ws, h1, h2 with
  | [a0], [z0], _, _ => exact .of_eq rfl
theorem err_SplitSide {P : Program} {w : World} {K : PySem.W.Frag} {mg : Str → Option Value} {base : Heap} {CR fX cdX ccX : Addr} {ocX kVX dcX pmX ctX eX clX : Value} {odX anX deX cldX : Option Addr} {slX sX cslX : Array (Option Value)} {vsX : Array Value} {fileX : Str} {tfX : Tok}
    (m : mg "SplitSide" = some (.ref CR)) (T : XG.OexB K "ValueError.__new__" [.type "ValueError", .type "Exception", .type "BaseException", .type "object"] CR) (iX : PySem.W.findIn K (.ref CR) "__init__" = some (some (.ref fX))) (tiX : PySem.W.typeIn K (.ref fX) = some (.type "function"))
    (lfX : K.lookup fX = some ⟨ocX, odX, .func (PySem.W.ksFn "__init__" "SplitSide.__init__" (defArgs st_SplitSide___init__) (defBody st_SplitSide___init__) (defScope st_SplitSide___init__) .none kVX dcX pmX anX (.ref cdX) ctX ccX), slX⟩)
    (lcX : K.lookup cdX = some ⟨eX, deX, .fields vsX, sX⟩) (h2X : vsX[2]? = some (.str fileX tfX)) (hfX : ((P.main.file : Str) == fileX) = true) (lccX : K.lookup ccX = some ⟨clX, cldX, .cell (some (.ref CR)), cslX⟩) (cX : PySem.W.codeIn K (.ref cdX) "SplitSide.__init__" = true)
    (tpX : (P.main.scope.names.lookup ("super" : Str)).isSome = false) (su : mg "super" = none) (op : PySem.W.nsIn K cStatics "thirdparty.any" = some none) (OB : OxB K "ValueError" CR) (no : ∀ n ∈ NOSX, PySem.W.findIn K (.ref CR) n = some none) : ErrF P w K mg base "SplitSide" CR 0 ["side"] (XI.fl1 "SplitSide" "side") := by
  refine ⟨m, "ValueError", _, _, _, fX, _, ["self", "side"], XG.basV, T, iX, tiX, ⟨?_, fun r1 r2 => r1.append r2⟩, XG.fn_exc1 (k := 0) ⟨⟨_, _, _, _, _, _, _, _, _, _, _, _, _, _, _, _, _, _, rfl, lfX, lcX, h2X, hfX, lccX⟩, cX, tpX⟩ ss_SplitSide XG.basV ⟨T, su, op, OB.cl, OB.CD, OB.al, OB.VE⟩ (no _ (by simp))  (no _ (by simp)) (by decide) (by decide) (fun _ => rfl) (fun _ => rfl) (fun _ => rfl) ⟩
  intro s us ws _ h1 h2
  match us, ws, h1, h2 with
  | [a0], [z0], _, _ => exact .of_eq rfl
theorem err_InvalidWall {P : Program} {w : World} {K : PySem.W.Frag} {mg : Str → Option Value} {base : Heap} {CR fX cdX ccX : Addr} {ocX kVX dcX pmX ctX eX clX : Value} {odX anX deX cldX : Option Addr} {slX sX cslX : Array (Option Value)} {vsX : Array Value} {fileX : Str} {tfX : Tok}
    (m : mg "InvalidWall" = some (.ref CR)) (T : XG.OexB K "ValueError.__new__" [.type "ValueError", .type "Exception", .type "BaseException", .type "object"] CR) (iX : PySem.W.findIn K (.ref CR) "__init__" = some (some (.ref fX))) (tiX : PySem.W.typeIn K (.ref fX) = some (.type "function"))
    (lfX : K.lookup fX = some ⟨ocX, odX, .func (PySem.W.ksFn "__init__" "InvalidWall.__init__" (defArgs st_InvalidWall___init__) (defBody st_InvalidWall___init__) (defScope st_InvalidWall___init__) .none kVX dcX pmX anX (.ref cdX) ctX ccX), slX⟩)
    (lcX : K.lookup cdX = some ⟨eX, deX, .fields vsX, sX⟩) (h2X : vsX[2]? = some (.str fileX tfX)) (hfX : ((P.main.file : Str) == fileX) = true) (lccX : K.lookup ccX = some ⟨clX, cldX, .cell (some (.ref CR)), cslX⟩) (cX : PySem.W.codeIn K (.ref cdX) "InvalidWall.__init__" = true)
    (tpX : (P.main.scope.names.lookup ("super" : Str)).isSome = false) (su : mg "super" = none) (op : PySem.W.nsIn K cStatics "thirdparty.any" = some none) (OB : OxB K "ValueError" CR) (no : ∀ n ∈ NOSX, PySem.W.findIn K (.ref CR) n = some none) : ErrF P w K mg base "InvalidWall" CR 0 ["side"] (XI.fl1 "InvalidWall" "side") := by
  refine ⟨m, "ValueError", _, _, _, fX, _, ["self", "side"], XG.basV, T, iX, tiX, ⟨?_, fun r1 r2 => r1.append r2⟩, XG.fn_exc1 (k := 0) ⟨⟨_, _, _, _, _, _, _, _, _, _, _, _, _, _, _, _, _, _, rfl, lfX, lcX, h2X, hfX, lccX⟩, cX, tpX⟩ ss_InvalidWall XG.basV ⟨T, su, op, OB.cl, OB.CD, OB.al, OB.VE⟩ (no _ (by simp))  (no _ (by simp)) (by decide) (by decide) (fun _ => rfl) (fun _ => rfl) (fun _ => rfl) ⟩
  intro s us ws _ h1 h2
  match us, ws, h1, h2 with
  | [a0], [z0], _, _ => exact .of_eq rfl
theorem err_MarkedSide {P : Program} {w : World} {K : PySem.W.Frag} {mg : Str → Option Value} {base : Heap} {CR fX cdX ccX : Addr} {ocX kVX dcX pmX ctX eX clX : Value} {odX anX deX cldX : Option Addr} {slX sX cslX : Array (Option Value)} {vsX : Array Value} {fileX : Str} {tfX : Tok}
    (m : mg "MarkedSide" = some (.ref CR)) (T : XG.OexB K "ValueError.__new__" [.type "ValueError", .type "Exception", .type "BaseException", .type "object"] CR) (iX : PySem.W.findIn K (.ref CR) "__init__" = some (some (.ref fX))) (tiX : PySem.W.typeIn K (.ref fX) = some (.type "function"))
    (lfX : K.lookup fX = some ⟨ocX, odX, .func (PySem.W.ksFn "__init__" "MarkedSide.__init__" (defArgs st_MarkedSide___init__) (defBody st_MarkedSide___init__) (defScope st_MarkedSide___init__) .none kVX dcX pmX anX (.ref cdX) ctX ccX), slX⟩)
    (lcX : K.lookup cdX = some ⟨eX, deX, .fields vsX, sX⟩) (h2X : vsX[2]? = some (.str fileX tfX)) (hfX : ((P.main.file : Str) == fileX) = true) (lccX : K.lookup ccX = some ⟨clX, cldX, .cell (some (.ref CR)), cslX⟩) (cX : PySem.W.codeIn K (.ref cdX) "MarkedSide.__init__" = true)
    (tpX : (P.main.scope.names.lookup ("super" : Str)).isSome = false) (su : mg "super" = none) (op : PySem.W.nsIn K cStatics "thirdparty.any" = some none) (OB : OxB K "ValueError" CR) (no : ∀ n ∈ NOSX, PySem.W.findIn K (.ref CR) n = some none) : ErrF P w K mg base "MarkedSide" CR 0 ["side"] (XI.fl1 "MarkedSide" "side") := by
  refine ⟨m, "ValueError", _, _, _, fX, _, ["self", "side"], XG.basV, T, iX, tiX, ⟨?_, fun r1 r2 => r1.append r2⟩, XG.fn_exc1 (k := 0) ⟨⟨_, _, _, _, _, _, _, _, _, _, _, _, _, _, _, _, _, _, rfl, lfX, lcX, h2X, hfX, lccX⟩, cX, tpX⟩ ss_MarkedSide XG.basV ⟨T, su, op, OB.cl, OB.CD, OB.al, OB.VE⟩ (no _ (by simp))  (no _ (by simp)) (by decide) (by decide) (fun _ => rfl) (fun _ => rfl) (fun _ => rfl) ⟩
  intro s us ws _ h1 h2
  match us, ws, h1, h2 with
  | [a0], [z0], _, _ => exact .of_eq rfl
theorem err_TooMany {P : Program} {w : World} {K : PySem.W.Frag} {mg : Str → Option Value} {base : Heap} {CR fX cdX ccX : Addr} {ocX kVX dcX pmX ctX eX clX : Value} {odX anX deX cldX : Option Addr} {slX sX cslX : Array (Option Value)} {vsX : Array Value} {fileX : Str} {tfX : Tok}
    (m : mg "TooMany" = some (.ref CR)) (T : XG.OexB K "ValueError.__new__" [.type "ValueError", .type "Exception", .type "BaseException", .type "object"] CR) (iX : PySem.W.findIn K (.ref CR) "__init__" = some (some (.ref fX))) (tiX : PySem.W.typeIn K (.ref fX) = some (.type "function"))
    (lfX : K.lookup fX = some ⟨ocX, odX, .func (PySem.W.ksFn "__init__" "TooMany.__init__" (defArgs st_TooMany___init__) (defBody st_TooMany___init__) (defScope st_TooMany___init__) .none kVX dcX pmX anX (.ref cdX) ctX ccX), slX⟩)
    (lcX : K.lookup cdX = some ⟨eX, deX, .fields vsX, sX⟩) (h2X : vsX[2]? = some (.str fileX tfX)) (hfX : ((P.main.file : Str) == fileX) = true) (lccX : K.lookup ccX = some ⟨clX, cldX, .cell (some (.ref CR)), cslX⟩) (cX : PySem.W.codeIn K (.ref cdX) "TooMany.__init__" = true)
    (tpX : (P.main.scope.names.lookup ("super" : Str)).isSome = false) (su : mg "super" = none) (op : PySem.W.nsIn K cStatics "thirdparty.any" = some none) (OB : OxB K "ValueError" CR) (no : ∀ n ∈ NOSX, PySem.W.findIn K (.ref CR) n = some none) : ErrF P w K mg base "TooMany" CR 0 ["most"] (XI.fl1 "TooMany" "most") := by
  refine ⟨m, "ValueError", _, _, _, fX, _, ["self", "most"], XG.basV, T, iX, tiX, ⟨?_, fun r1 r2 => r1.append r2⟩, XG.fn_exc1 (k := 0) ⟨⟨_, _, _, _, _, _, _, _, _, _, _, _, _, _, _, _, _, _, rfl, lfX, lcX, h2X, hfX, lccX⟩, cX, tpX⟩ ss_TooMany XG.basV ⟨T, su, op, OB.cl, OB.CD, OB.al, OB.VE⟩ (no _ (by simp))  (no _ (by simp)) (by decide) (by decide) (fun _ => rfl) (fun _ => rfl) (fun _ => rfl) ⟩
  intro s us ws _ h1 h2
  match us, ws, h1, h2 with
  | [a0], [z0], _, _ => exact .of_eq rfl
theorem err_TooFar {P : Program} {w : World} {K : PySem.W.Frag} {mg : Str → Option Value} {base : Heap} {CR fX cdX ccX : Addr} {ocX kVX dcX pmX ctX eX clX : Value} {odX anX deX cldX : Option Addr} {slX sX cslX : Array (Option Value)} {vsX : Array Value} {fileX : Str} {tfX : Tok}
    (m : mg "TooFar" = some (.ref CR)) (T : XG.OexB K "ValueError.__new__" [.type "ValueError", .type "Exception", .type "BaseException", .type "object"] CR) (iX : PySem.W.findIn K (.ref CR) "__init__" = some (some (.ref fX))) (tiX : PySem.W.typeIn K (.ref fX) = some (.type "function"))
    (lfX : K.lookup fX = some ⟨ocX, odX, .func (PySem.W.ksFn "__init__" "TooFar.__init__" (defArgs st_TooFar___init__) (defBody st_TooFar___init__) (defScope st_TooFar___init__) .none kVX dcX pmX anX (.ref cdX) ctX ccX), slX⟩)
    (lcX : K.lookup cdX = some ⟨eX, deX, .fields vsX, sX⟩) (h2X : vsX[2]? = some (.str fileX tfX)) (hfX : ((P.main.file : Str) == fileX) = true) (lccX : K.lookup ccX = some ⟨clX, cldX, .cell (some (.ref CR)), cslX⟩) (cX : PySem.W.codeIn K (.ref cdX) "TooFar.__init__" = true)
    (tpX : (P.main.scope.names.lookup ("super" : Str)).isSome = false) (su : mg "super" = none) (op : PySem.W.nsIn K cStatics "thirdparty.any" = some none) (OB : OxB K "ValueError" CR) (no : ∀ n ∈ NOSX, PySem.W.findIn K (.ref CR) n = some none) : ErrF P w K mg base "TooFar" CR 0 ["most"] (XI.fl1 "TooFar" "most") := by
  refine ⟨m, "ValueError", _, _, _, fX, _, ["self", "most"], XG.basV, T, iX, tiX, ⟨?_, fun r1 r2 => r1.append r2⟩, XG.fn_exc1 (k := 0) ⟨⟨_, _, _, _, _, _, _, _, _, _, _, _, _, _, _, _, _, _, rfl, lfX, lcX, h2X, hfX, lccX⟩, cX, tpX⟩ ss_TooFar XG.basV ⟨T, su, op, OB.cl, OB.CD, OB.al, OB.VE⟩ (no _ (by simp))  (no _ (by simp)) (by decide) (by decide) (fun _ => rfl) (fun _ => rfl) (fun _ => rfl) ⟩
  intro s us ws _ h1 h2
  match us, ws, h1, h2 with
  | [a0], [z0], _, _ => exact .of_eq rfl
theorem err_InvalidPlace {P : Program} {w : World} {K : PySem.W.Frag} {mg : Str → Option Value} {base : Heap} {CR fX cdX ccX : Addr} {ocX kVX dcX pmX ctX eX clX : Value} {odX anX deX cldX : Option Addr} {slX sX cslX : Array (Option Value)} {vsX : Array Value} {fileX : Str} {tfX : Tok}
    (m : mg "InvalidPlace" = some (.ref CR)) (T : XG.OexB K "ValueError.__new__" [.type "ValueError", .type "Exception", .type "BaseException", .type "object"] CR) (iX : PySem.W.findIn K (.ref CR) "__init__" = some (some (.ref fX))) (tiX : PySem.W.typeIn K (.ref fX) = some (.type "function"))
    (lfX : K.lookup fX = some ⟨ocX, odX, .func (PySem.W.ksFn "__init__" "InvalidPlace.__init__" (defArgs st_InvalidPlace___init__) (defBody st_InvalidPlace___init__) (defScope st_InvalidPlace___init__) .none kVX dcX pmX anX (.ref cdX) ctX ccX), slX⟩)
    (lcX : K.lookup cdX = some ⟨eX, deX, .fields vsX, sX⟩) (h2X : vsX[2]? = some (.str fileX tfX)) (hfX : ((P.main.file : Str) == fileX) = true) (lccX : K.lookup ccX = some ⟨clX, cldX, .cell (some (.ref CR)), cslX⟩) (cX : PySem.W.codeIn K (.ref cdX) "InvalidPlace.__init__" = true)
    (tpX : (P.main.scope.names.lookup ("super" : Str)).isSome = false) (su : mg "super" = none) (op : PySem.W.nsIn K cStatics "thirdparty.any" = some none) (OB : OxB K "ValueError" CR) (no : ∀ n ∈ NOSX, PySem.W.findIn K (.ref CR) n = some none) : ErrF P w K mg base "InvalidPlace" CR 0 ["value"] (XI.fl1 "InvalidPlace" "value") := by
  refine ⟨m, "ValueError", _, _, _, fX, _, ["self", "value"], XG.basV, T, iX, tiX, ⟨?_, fun r1 r2 => r1.append r2⟩, XG.fn_exc1 (k := 0) ⟨⟨_, _, _, _, _, _, _, _, _, _, _, _, _, _, _, _, _, _, rfl, lfX, lcX, h2X, hfX, lccX⟩, cX, tpX⟩ ss_InvalidPlace XG.basV ⟨T, su, op, OB.cl, OB.CD, OB.al, OB.VE⟩ (no _ (by simp))  (no _ (by simp)) (by decide) (by decide) (fun _ => rfl) (fun _ => rfl) (fun _ => rfl) ⟩
  intro s us ws _ h1 h2
  match us, ws, h1, h2 with
  | [a0], [z0], _, _ => exact .of_eq rfl
theorem err_InvalidRound {P : Program} {w : World} {K : PySem.W.Frag} {mg : Str → Option Value} {base : Heap} {CR fX cdX ccX : Addr} {ocX kVX dcX pmX ctX eX clX : Value} {odX anX deX cldX : Option Addr} {slX sX cslX : Array (Option Value)} {vsX : Array Value} {fileX : Str} {tfX : Tok}
    (m : mg "InvalidRound" = some (.ref CR)) (T : XG.OexB K "ValueError.__new__" [.type "ValueError", .type "Exception", .type "BaseException", .type "object"] CR) (iX : PySem.W.findIn K (.ref CR) "__init__" = some (some (.ref fX))) (tiX : PySem.W.typeIn K (.ref fX) = some (.type "function"))
    (lfX : K.lookup fX = some ⟨ocX, odX, .func (PySem.W.ksFn "__init__" "InvalidRound.__init__" (defArgs st_InvalidRound___init__) (defBody st_InvalidRound___init__) (defScope st_InvalidRound___init__) .none kVX dcX pmX anX (.ref cdX) ctX ccX), slX⟩)
    (lcX : K.lookup cdX = some ⟨eX, deX, .fields vsX, sX⟩) (h2X : vsX[2]? = some (.str fileX tfX)) (hfX : ((P.main.file : Str) == fileX) = true) (lccX : K.lookup ccX = some ⟨clX, cldX, .cell (some (.ref CR)), cslX⟩) (cX : PySem.W.codeIn K (.ref cdX) "InvalidRound.__init__" = true)
    (tpX : (P.main.scope.names.lookup ("super" : Str)).isSome = false) (su : mg "super" = none) (op : PySem.W.nsIn K cStatics "thirdparty.any" = some none) (OB : OxB K "ValueError" CR) (no : ∀ n ∈ NOSX, PySem.W.findIn K (.ref CR) n = some none) : ErrF P w K mg base "InvalidRound" CR 0 ["value"] (XI.fl1 "InvalidRound" "value") := by
  refine ⟨m, "ValueError", _, _, _, fX, _, ["self", "value"], XG.basV, T, iX, tiX, ⟨?_, fun r1 r2 => r1.append r2⟩, XG.fn_exc1 (k := 0) ⟨⟨_, _, _, _, _, _, _, _, _, _, _, _, _, _, _, _, _, _, rfl, lfX, lcX, h2X, hfX, lccX⟩, cX, tpX⟩ ss_InvalidRound XG.basV ⟨T, su, op, OB.cl, OB.CD, OB.al, OB.VE⟩ (no _ (by simp))  (no _ (by simp)) (by decide) (by decide) (fun _ => rfl) (fun _ => rfl) (fun _ => rfl) ⟩
  intro s us ws _ h1 h2
  match us, ws, h1, h2 with
  | [a0], [z0], _, _ => exact .of_eq rfl
theorem err_LooseCorner {P : Program} {w : World} {K : PySem.W.Frag} {mg : Str → Option Value} {base : Heap} {CR fX cdX ccX : Addr} {ocX kVX dcX pmX ctX eX clX : Value} {odX anX deX cldX : Option Addr} {slX sX cslX : Array (Option Value)} {vsX : Array Value} {fileX : Str} {tfX : Tok}
    (m : mg "LooseCorner" = some (.ref CR)) (T : XG.OexB K "ValueError.__new__" [.type "ValueError", .type "Exception", .type "BaseException", .type "object"] CR) (iX : PySem.W.findIn K (.ref CR) "__init__" = some (some (.ref fX))) (tiX : PySem.W.typeIn K (.ref fX) = some (.type "function"))
    (lfX : K.lookup fX = some ⟨ocX, odX, .func (PySem.W.ksFn "__init__" "LooseCorner.__init__" (defArgs st_LooseCorner___init__) (defBody st_LooseCorner___init__) (defScope st_LooseCorner___init__) .none kVX dcX pmX anX (.ref cdX) ctX ccX), slX⟩)
    (lcX : K.lookup cdX = some ⟨eX, deX, .fields vsX, sX⟩) (h2X : vsX[2]? = some (.str fileX tfX)) (hfX : ((P.main.file : Str) == fileX) = true) (lccX : K.lookup ccX = some ⟨clX, cldX, .cell (some (.ref CR)), cslX⟩) (cX : PySem.W.codeIn K (.ref cdX) "LooseCorner.__init__" = true)
    (tpX : (P.main.scope.names.lookup ("super" : Str)).isSome = false) (su : mg "super" = none) (op : PySem.W.nsIn K cStatics "thirdparty.any" = some none) (OB : OxB K "ValueError" CR) (no : ∀ n ∈ NOSX, PySem.W.findIn K (.ref CR) n = some none) : ErrF P w K mg base "LooseCorner" CR 0 ["corner"] (XI.fl1 "LooseCorner" "corner") := by
  refine ⟨m, "ValueError", _, _, _, fX, _, ["self", "corner"], XG.basV, T, iX, tiX, ⟨?_, fun r1 r2 => r1.append r2⟩, XG.fn_exc1 (k := 0) ⟨⟨_, _, _, _, _, _, _, _, _, _, _, _, _, _, _, _, _, _, rfl, lfX, lcX, h2X, hfX, lccX⟩, cX, tpX⟩ ss_LooseCorner XG.basV ⟨T, su, op, OB.cl, OB.CD, OB.al, OB.VE⟩ (no _ (by simp))  (no _ (by simp)) (by decide) (by decide) (fun _ => rfl) (fun _ => rfl) (fun _ => rfl) ⟩
  intro s us ws _ h1 h2
  match us, ws, h1, h2 with
  | [a0], [z0], _, _ => exact .of_eq rfl
theorem err_Overlap {P : Program} {w : World} {K : PySem.W.Frag} {mg : Str → Option Value} {base : Heap} {CR fX cdX ccX : Addr} {ocX kVX dcX pmX ctX eX clX : Value} {odX anX deX cldX : Option Addr} {slX sX cslX : Array (Option Value)} {vsX : Array Value} {fileX : Str} {tfX : Tok}
    (m : mg "Overlap" = some (.ref CR)) (T : XG.OexB K "ValueError.__new__" [.type "ValueError", .type "Exception", .type "BaseException", .type "object"] CR) (iX : PySem.W.findIn K (.ref CR) "__init__" = some (some (.ref fX))) (tiX : PySem.W.typeIn K (.ref fX) = some (.type "function"))
    (lfX : K.lookup fX = some ⟨ocX, odX, .func (PySem.W.ksFn "__init__" "Overlap.__init__" (defArgs st_Overlap___init__) (defBody st_Overlap___init__) (defScope st_Overlap___init__) .none kVX dcX pmX anX (.ref cdX) ctX ccX), slX⟩)
    (lcX : K.lookup cdX = some ⟨eX, deX, .fields vsX, sX⟩) (h2X : vsX[2]? = some (.str fileX tfX)) (hfX : ((P.main.file : Str) == fileX) = true) (lccX : K.lookup ccX = some ⟨clX, cldX, .cell (some (.ref CR)), cslX⟩) (cX : PySem.W.codeIn K (.ref cdX) "Overlap.__init__" = true)
    (tpX : (P.main.scope.names.lookup ("super" : Str)).isSome = false) (su : mg "super" = none) (op : PySem.W.nsIn K cStatics "thirdparty.any" = some none) (OB : OxB K "ValueError" CR) (no : ∀ n ∈ NOSX, PySem.W.findIn K (.ref CR) n = some none) : ErrF P w K mg base "Overlap" CR 0 ["one", "other"] (XI.fl2 "Overlap" "one" "other") := by
  refine ⟨m, "ValueError", _, _, _, fX, _, ["self", "one", "other"], XG.basV, T, iX, tiX, ⟨?_, fun r1 r2 => r1.append r2⟩, XG.fn_exc2 (k := 0) ⟨⟨_, _, _, _, _, _, _, _, _, _, _, _, _, _, _, _, _, _, rfl, lfX, lcX, h2X, hfX, lccX⟩, cX, tpX⟩ ss_Overlap XG.basV ⟨T, su, op, OB.cl, OB.CD, OB.al, OB.VE⟩ (no _ (by simp)) (no _ (by simp))  (no _ (by simp)) (by decide) (by decide) (by decide) (by decide) (fun _ => rfl) (fun _ => rfl) (fun _ => rfl) (fun _ => rfl) ⟩
  intro s us ws _ h1 h2
  match us, ws, h1, h2 with
  | [a0], [z0, z1], _, _ => exact .of_eq rfl
theorem err_InvalidChord {P : Program} {w : World} {K : PySem.W.Frag} {mg : Str → Option Value} {base : Heap} {CR fX cdX ccX : Addr} {ocX kVX dcX pmX ctX eX clX : Value} {odX anX deX cldX : Option Addr} {slX sX cslX : Array (Option Value)} {vsX : Array Value} {fileX : Str} {tfX : Tok}
    (m : mg "InvalidChord" = some (.ref CR)) (T : XG.OexB K "ValueError.__new__" [.type "ValueError", .type "Exception", .type "BaseException", .type "object"] CR) (iX : PySem.W.findIn K (.ref CR) "__init__" = some (some (.ref fX))) (tiX : PySem.W.typeIn K (.ref fX) = some (.type "function"))
    (lfX : K.lookup fX = some ⟨ocX, odX, .func (PySem.W.ksFn "__init__" "InvalidChord.__init__" (defArgs st_InvalidChord___init__) (defBody st_InvalidChord___init__) (defScope st_InvalidChord___init__) .none kVX dcX pmX anX (.ref cdX) ctX ccX), slX⟩)
    (lcX : K.lookup cdX = some ⟨eX, deX, .fields vsX, sX⟩) (h2X : vsX[2]? = some (.str fileX tfX)) (hfX : ((P.main.file : Str) == fileX) = true) (lccX : K.lookup ccX = some ⟨clX, cldX, .cell (some (.ref CR)), cslX⟩) (cX : PySem.W.codeIn K (.ref cdX) "InvalidChord.__init__" = true)
    (tpX : (P.main.scope.names.lookup ("super" : Str)).isSome = false) (su : mg "super" = none) (op : PySem.W.nsIn K cStatics "thirdparty.any" = some none) (OB : OxB K "ValueError" CR) (no : ∀ n ∈ NOSX, PySem.W.findIn K (.ref CR) n = some none) : ErrF P w K mg base "InvalidChord" CR 2 [] (XI.fl2 "InvalidChord" "one" "other") := by
  refine ⟨m, "ValueError", _, _, _, fX, _, ["self", "one", "other"], XG.basV, T, iX, tiX, ⟨?_, fun r1 r2 => r1.append r2⟩, XG.fn_exc2 (k := 0) ⟨⟨_, _, _, _, _, _, _, _, _, _, _, _, _, _, _, _, _, _, rfl, lfX, lcX, h2X, hfX, lccX⟩, cX, tpX⟩ ss_InvalidChord XG.basV ⟨T, su, op, OB.cl, OB.CD, OB.al, OB.VE⟩ (no _ (by simp)) (no _ (by simp))  (no _ (by simp)) (by decide) (by decide) (by decide) (by decide) (fun _ => rfl) (fun _ => rfl) (fun _ => rfl) (fun _ => rfl) ⟩
  intro s us ws _ h1 h2
  match us, ws, h1, h2 with
  | [a0, a1, a2], [], _, _ => exact .of_eq rfl
theorem err_NotJoined {P : Program} {w : World} {K : PySem.W.Frag} {mg : Str → Option Value} {base : Heap} {CR fX cdX ccX : Addr} {ocX kVX dcX pmX ctX eX clX : Value} {odX anX deX cldX : Option Addr} {slX sX cslX : Array (Option Value)} {vsX : Array Value} {fileX : Str} {tfX : Tok}
    (m : mg "NotJoined" = some (.ref CR)) (T : XG.OexB K "ValueError.__new__" [.type "ValueError", .type "Exception", .type "BaseException", .type "object"] CR) (iX : PySem.W.findIn K (.ref CR) "__init__" = some (some (.ref fX))) (tiX : PySem.W.typeIn K (.ref fX) = some (.type "function"))
    (lfX : K.lookup fX = some ⟨ocX, odX, .func (PySem.W.ksFn "__init__" "NotJoined.__init__" (defArgs st_NotJoined___init__) (defBody st_NotJoined___init__) (defScope st_NotJoined___init__) .none kVX dcX pmX anX (.ref cdX) ctX ccX), slX⟩)
    (lcX : K.lookup cdX = some ⟨eX, deX, .fields vsX, sX⟩) (h2X : vsX[2]? = some (.str fileX tfX)) (hfX : ((P.main.file : Str) == fileX) = true) (lccX : K.lookup ccX = some ⟨clX, cldX, .cell (some (.ref CR)), cslX⟩) (cX : PySem.W.codeIn K (.ref cdX) "NotJoined.__init__" = true)
    (tpX : (P.main.scope.names.lookup ("super" : Str)).isSome = false) (su : mg "super" = none) (op : PySem.W.nsIn K cStatics "thirdparty.any" = some none) (OB : OxB K "ValueError" CR) (no : ∀ n ∈ NOSX, PySem.W.findIn K (.ref CR) n = some none) : ErrF P w K mg base "NotJoined" CR 1 ["other"] (XI.fl2 "NotJoined" "one" "other") := by
  refine ⟨m, "ValueError", _, _, _, fX, _, ["self", "one", "other"], XG.basV, T, iX, tiX, ⟨?_, fun r1 r2 => r1.append r2⟩, XG.fn_exc2 (k := 0) ⟨⟨_, _, _, _, _, _, _, _, _, _, _, _, _, _, _, _, _, _, rfl, lfX, lcX, h2X, hfX, lccX⟩, cX, tpX⟩ ss_NotJoined XG.basV ⟨T, su, op, OB.cl, OB.CD, OB.al, OB.VE⟩ (no _ (by simp)) (no _ (by simp))  (no _ (by simp)) (by decide) (by decide) (by decide) (by decide) (fun _ => rfl) (fun _ => rfl) (fun _ => rfl) (fun _ => rfl) ⟩
  intro s us ws _ h1 h2
  match us, ws, h1, h2 with
  | [a0, a1], [z0], _, _ => exact .of_eq rfl
theorem err_NotConvex {P : Program} {w : World} {K : PySem.W.Frag} {mg : Str → Option Value} {base : Heap} {CR fX cdX ccX : Addr} {ocX kVX dcX pmX ctX eX clX : Value} {odX anX deX cldX : Option Addr} {slX sX cslX : Array (Option Value)} {vsX : Array Value} {fileX : Str} {tfX : Tok}
    (m : mg "NotConvex" = some (.ref CR)) (T : XG.OexB K "ValueError.__new__" [.type "ValueError", .type "Exception", .type "BaseException", .type "object"] CR) (iX : PySem.W.findIn K (.ref CR) "__init__" = some (some (.ref fX))) (tiX : PySem.W.typeIn K (.ref fX) = some (.type "function"))
    (lfX : K.lookup fX = some ⟨ocX, odX, .func (PySem.W.ksFn "__init__" "NotConvex.__init__" (defArgs st_NotConvex___init__) (defBody st_NotConvex___init__) (defScope st_NotConvex___init__) .none kVX dcX pmX anX (.ref cdX) ctX ccX), slX⟩)
    (lcX : K.lookup cdX = some ⟨eX, deX, .fields vsX, sX⟩) (h2X : vsX[2]? = some (.str fileX tfX)) (hfX : ((P.main.file : Str) == fileX) = true) (lccX : K.lookup ccX = some ⟨clX, cldX, .cell (some (.ref CR)), cslX⟩) (cX : PySem.W.codeIn K (.ref cdX) "NotConvex.__init__" = true)
    (tpX : (P.main.scope.names.lookup ("super" : Str)).isSome = false) (su : mg "super" = none) (op : PySem.W.nsIn K cStatics "thirdparty.any" = some none) (OB : OxB K "ValueError" CR) (no : ∀ n ∈ NOSX, PySem.W.findIn K (.ref CR) n = some none) : ErrF P w K mg base "NotConvex" CR 0 [] (XI.fl0 "NotConvex") := by
  refine ⟨m, "ValueError", _, _, _, fX, _, ["self"], XG.basV, T, iX, tiX, ⟨?_, fun r1 r2 => r1.append r2⟩, XG.fn_exc0 (k := 0) ⟨⟨_, _, _, _, _, _, _, _, _, _, _, _, _, _, _, _, _, _, rfl, lfX, lcX, h2X, hfX, lccX⟩, cX, tpX⟩ ss_NotConvex XG.basV ⟨T, su, op, OB.cl, OB.CD, OB.al, OB.VE⟩  (no _ (by simp)) (fun _ => rfl) (fun _ => rfl) ⟩
  intro s us ws _ h1 h2
  match us, ws, h1, h2 with
  | [a0], [], _, _ => exact .of_eq rfl
theorem err_InvalidWinds {P : Program} {w : World} {K : PySem.W.Frag} {mg : Str → Option Value} {base : Heap} {CR fX cdX ccX : Addr} {ocX kVX dcX pmX ctX eX clX : Value} {odX anX deX cldX : Option Addr} {slX sX cslX : Array (Option Value)} {vsX : Array Value} {fileX : Str} {tfX : Tok}
    (m : mg "InvalidWinds" = some (.ref CR)) (T : XG.OexB K "ValueError.__new__" [.type "ValueError", .type "Exception", .type "BaseException", .type "object"] CR) (iX : PySem.W.findIn K (.ref CR) "__init__" = some (some (.ref fX))) (tiX : PySem.W.typeIn K (.ref fX) = some (.type "function"))
    (lfX : K.lookup fX = some ⟨ocX, odX, .func (PySem.W.ksFn "__init__" "InvalidWinds.__init__" (defArgs st_InvalidWinds___init__) (defBody st_InvalidWinds___init__) (defScope st_InvalidWinds___init__) .none kVX dcX pmX anX (.ref cdX) ctX ccX), slX⟩)
    (lcX : K.lookup cdX = some ⟨eX, deX, .fields vsX, sX⟩) (h2X : vsX[2]? = some (.str fileX tfX)) (hfX : ((P.main.file : Str) == fileX) = true) (lccX : K.lookup ccX = some ⟨clX, cldX, .cell (some (.ref CR)), cslX⟩) (cX : PySem.W.codeIn K (.ref cdX) "InvalidWinds.__init__" = true)
    (tpX : (P.main.scope.names.lookup ("super" : Str)).isSome = false) (su : mg "super" = none) (op : PySem.W.nsIn K cStatics "thirdparty.any" = some none) (OB : OxB K "ValueError" CR) (no : ∀ n ∈ NOSX, PySem.W.findIn K (.ref CR) n = some none) : ErrF P w K mg base "InvalidWinds" CR 0 [] (XI.fl0 "InvalidWinds") := by
  refine ⟨m, "ValueError", _, _, _, fX, _, ["self"], XG.basV, T, iX, tiX, ⟨?_, fun r1 r2 => r1.append r2⟩, XG.fn_exc0 (k := 0) ⟨⟨_, _, _, _, _, _, _, _, _, _, _, _, _, _, _, _, _, _, rfl, lfX, lcX, h2X, hfX, lccX⟩, cX, tpX⟩ ss_InvalidWinds XG.basV ⟨T, su, op, OB.cl, OB.CD, OB.al, OB.VE⟩  (no _ (by simp)) (fun _ => rfl) (fun _ => rfl) ⟩
  intro s us ws _ h1 h2
  match us, ws, h1, h2 with
  | [a0], [], _, _ => exact .of_eq rfl
theorem err_UnknownTile {P : Program} {w : World} {K : PySem.W.Frag} {mg : Str → Option Value} {base : Heap} {CR fX cdX ccX : Addr} {ocX kVX dcX pmX ctX eX clX : Value} {odX anX deX cldX : Option Addr} {slX sX cslX : Array (Option Value)} {vsX : Array Value} {fileX : Str} {tfX : Tok}
    (m : mg "UnknownTile" = some (.ref CR)) (T : XG.OexB K "LookupError.__new__" [.type "LookupError", .type "Exception", .type "BaseException", .type "object"] CR) (iX : PySem.W.findIn K (.ref CR) "__init__" = some (some (.ref fX))) (tiX : PySem.W.typeIn K (.ref fX) = some (.type "function"))
    (lfX : K.lookup fX = some ⟨ocX, odX, .func (PySem.W.ksFn "__init__" "UnknownTile.__init__" (defArgs st_UnknownTile___init__) (defBody st_UnknownTile___init__) (defScope st_UnknownTile___init__) .none kVX dcX pmX anX (.ref cdX) ctX ccX), slX⟩)
    (lcX : K.lookup cdX = some ⟨eX, deX, .fields vsX, sX⟩) (h2X : vsX[2]? = some (.str fileX tfX)) (hfX : ((P.main.file : Str) == fileX) = true) (lccX : K.lookup ccX = some ⟨clX, cldX, .cell (some (.ref CR)), cslX⟩) (cX : PySem.W.codeIn K (.ref cdX) "UnknownTile.__init__" = true)
    (tpX : (P.main.scope.names.lookup ("super" : Str)).isSome = false) (su : mg "super" = none) (op : PySem.W.nsIn K cStatics "thirdparty.any" = some none) (OB : OxB K "LookupError" CR) (no : ∀ n ∈ NOSX, PySem.W.findIn K (.ref CR) n = some none) : ErrF P w K mg base "UnknownTile" CR 0 ["name"] (XI.fl1 "UnknownTile" "name") := by
  refine ⟨m, "LookupError", _, _, _, fX, _, ["self", "name"], XG.basL, T, iX, tiX, ⟨?_, fun r1 r2 => r1.append r2⟩, XG.fn_exc1 (k := 0) ⟨⟨_, _, _, _, _, _, _, _, _, _, _, _, _, _, _, _, _, _, rfl, lfX, lcX, h2X, hfX, lccX⟩, cX, tpX⟩ ss_UnknownTile XG.basL ⟨T, su, op, OB.cl, OB.CD, OB.al, OB.VE⟩ (no _ (by simp))  (no _ (by simp)) (by decide) (by decide) (fun _ => rfl) (fun _ => rfl) (fun _ => rfl) ⟩
  intro s us ws _ h1 h2
  match us, ws, h1, h2 with
  | [a0], [z0], _, _ => exact .of_eq rfl
theorem err_UnknownSide {P : Program} {w : World} {K : PySem.W.Frag} {mg : Str → Option Value} {base : Heap} {CR fX cdX ccX : Addr} {ocX kVX dcX pmX ctX eX clX : Value} {odX anX deX cldX : Option Addr} {slX sX cslX : Array (Option Value)} {vsX : Array Value} {fileX : Str} {tfX : Tok}
    (m : mg "UnknownSide" = some (.ref CR)) (T : XG.OexB K "LookupError.__new__" [.type "LookupError", .type "Exception", .type "BaseException", .type "object"] CR) (iX : PySem.W.findIn K (.ref CR) "__init__" = some (some (.ref fX))) (tiX : PySem.W.typeIn K (.ref fX) = some (.type "function"))
    (lfX : K.lookup fX = some ⟨ocX, odX, .func (PySem.W.ksFn "__init__" "UnknownSide.__init__" (defArgs st_UnknownSide___init__) (defBody st_UnknownSide___init__) (defScope st_UnknownSide___init__) .none kVX dcX pmX anX (.ref cdX) ctX ccX), slX⟩)
    (lcX : K.lookup cdX = some ⟨eX, deX, .fields vsX, sX⟩) (h2X : vsX[2]? = some (.str fileX tfX)) (hfX : ((P.main.file : Str) == fileX) = true) (lccX : K.lookup ccX = some ⟨clX, cldX, .cell (some (.ref CR)), cslX⟩) (cX : PySem.W.codeIn K (.ref cdX) "UnknownSide.__init__" = true)
    (tpX : (P.main.scope.names.lookup ("super" : Str)).isSome = false) (su : mg "super" = none) (op : PySem.W.nsIn K cStatics "thirdparty.any" = some none) (OB : OxB K "LookupError" CR) (no : ∀ n ∈ NOSX, PySem.W.findIn K (.ref CR) n = some none) : ErrF P w K mg base "UnknownSide" CR 0 ["side"] (XI.fl1 "UnknownSide" "side") := by
  refine ⟨m, "LookupError", _, _, _, fX, _, ["self", "side"], XG.basL, T, iX, tiX, ⟨?_, fun r1 r2 => r1.append r2⟩, XG.fn_exc1 (k := 0) ⟨⟨_, _, _, _, _, _, _, _, _, _, _, _, _, _, _, _, _, _, rfl, lfX, lcX, h2X, hfX, lccX⟩, cX, tpX⟩ ss_UnknownSide XG.basL ⟨T, su, op, OB.cl, OB.CD, OB.al, OB.VE⟩ (no _ (by simp))  (no _ (by simp)) (by decide) (by decide) (fun _ => rfl) (fun _ => rfl) (fun _ => rfl) ⟩
  intro s us ws _ h1 h2
  match us, ws, h1, h2 with
  | [a0], [z0], _, _ => exact .of_eq rfl
theorem err_UnknownMark {P : Program} {w : World} {K : PySem.W.Frag} {mg : Str → Option Value} {base : Heap} {CR fX cdX ccX : Addr} {ocX kVX dcX pmX ctX eX clX : Value} {odX anX deX cldX : Option Addr} {slX sX cslX : Array (Option Value)} {vsX : Array Value} {fileX : Str} {tfX : Tok}
    (m : mg "UnknownMark" = some (.ref CR)) (T : XG.OexB K "LookupError.__new__" [.type "LookupError", .type "Exception", .type "BaseException", .type "object"] CR) (iX : PySem.W.findIn K (.ref CR) "__init__" = some (some (.ref fX))) (tiX : PySem.W.typeIn K (.ref fX) = some (.type "function"))
    (lfX : K.lookup fX = some ⟨ocX, odX, .func (PySem.W.ksFn "__init__" "UnknownMark.__init__" (defArgs st_UnknownMark___init__) (defBody st_UnknownMark___init__) (defScope st_UnknownMark___init__) .none kVX dcX pmX anX (.ref cdX) ctX ccX), slX⟩)
    (lcX : K.lookup cdX = some ⟨eX, deX, .fields vsX, sX⟩) (h2X : vsX[2]? = some (.str fileX tfX)) (hfX : ((P.main.file : Str) == fileX) = true) (lccX : K.lookup ccX = some ⟨clX, cldX, .cell (some (.ref CR)), cslX⟩) (cX : PySem.W.codeIn K (.ref cdX) "UnknownMark.__init__" = true)
    (tpX : (P.main.scope.names.lookup ("super" : Str)).isSome = false) (su : mg "super" = none) (op : PySem.W.nsIn K cStatics "thirdparty.any" = some none) (OB : OxB K "LookupError" CR) (no : ∀ n ∈ NOSX, PySem.W.findIn K (.ref CR) n = some none) : ErrF P w K mg base "UnknownMark" CR 0 ["name"] (XI.fl1 "UnknownMark" "name") := by
  refine ⟨m, "LookupError", _, _, _, fX, _, ["self", "name"], XG.basL, T, iX, tiX, ⟨?_, fun r1 r2 => r1.append r2⟩, XG.fn_exc1 (k := 0) ⟨⟨_, _, _, _, _, _, _, _, _, _, _, _, _, _, _, _, _, _, rfl, lfX, lcX, h2X, hfX, lccX⟩, cX, tpX⟩ ss_UnknownMark XG.basL ⟨T, su, op, OB.cl, OB.CD, OB.al, OB.VE⟩ (no _ (by simp))  (no _ (by simp)) (by decide) (by decide) (fun _ => rfl) (fun _ => rfl) (fun _ => rfl) ⟩
  intro s us ws _ h1 h2
  match us, ws, h1, h2 with
  | [a0], [z0], _, _ => exact .of_eq rfl
theorem err_NothingLeft {P : Program} {w : World} {K : PySem.W.Frag} {mg : Str → Option Value} {base : Heap} {CR fX cdX ccX : Addr} {ocX kVX dcX pmX ctX eX clX : Value} {odX anX deX cldX : Option Addr} {slX sX cslX : Array (Option Value)} {vsX : Array Value} {fileX : Str} {tfX : Tok}
    (m : mg "NothingLeft" = some (.ref CR)) (T : XG.OexB K "IndexError.__new__" [.type "IndexError", .type "LookupError", .type "Exception", .type "BaseException", .type "object"] CR) (iX : PySem.W.findIn K (.ref CR) "__init__" = some (some (.ref fX))) (tiX : PySem.W.typeIn K (.ref fX) = some (.type "function"))
    (lfX : K.lookup fX = some ⟨ocX, odX, .func (PySem.W.ksFn "__init__" "NothingLeft.__init__" (defArgs st_NothingLeft___init__) (defBody st_NothingLeft___init__) (defScope st_NothingLeft___init__) .none kVX dcX pmX anX (.ref cdX) ctX ccX), slX⟩)
    (lcX : K.lookup cdX = some ⟨eX, deX, .fields vsX, sX⟩) (h2X : vsX[2]? = some (.str fileX tfX)) (hfX : ((P.main.file : Str) == fileX) = true) (lccX : K.lookup ccX = some ⟨clX, cldX, .cell (some (.ref CR)), cslX⟩) (cX : PySem.W.codeIn K (.ref cdX) "NothingLeft.__init__" = true)
    (tpX : (P.main.scope.names.lookup ("super" : Str)).isSome = false) (su : mg "super" = none) (op : PySem.W.nsIn K cStatics "thirdparty.any" = some none) (OB : OxB K "IndexError" CR) (no : ∀ n ∈ NOSX, PySem.W.findIn K (.ref CR) n = some none) : ErrF P w K mg base "NothingLeft" CR 0 [] (XI.fl0 "NothingLeft") := by
  refine ⟨m, "IndexError", _, _, _, fX, _, ["self"], XG.basI, T, iX, tiX, ⟨?_, fun r1 r2 => r1.append r2⟩, XG.fn_exc0 (k := 0) ⟨⟨_, _, _, _, _, _, _, _, _, _, _, _, _, _, _, _, _, _, rfl, lfX, lcX, h2X, hfX, lccX⟩, cX, tpX⟩ ss_NothingLeft XG.basI ⟨T, su, op, OB.cl, OB.CD, OB.al, OB.VE⟩  (no _ (by simp)) (fun _ => rfl) (fun _ => rfl) ⟩
  intro s us ws _ h1 h2
  match us, ws, h1, h2 with
  | [a0], [], _, _ => exact .of_eq rfl

end W09
set_option Elab.async false
set_option linter.all false
set_option maxRecDepth 100000
set_option maxHeartbeats 2000000
/-! own Hook: what the module's names reach, read once behind the kernel's run of the top -/
namespace HK
open PySem PySem.Spec PyProof.Rows L2
/-- the objects that an object names -/
def refsK (o : Obj) : List Addr := match o.data with
  | .seq its _ => its.toList.flatMap He.refV
  | .dict es _ => es.toList.flatMap fun e => He.refV e.val
  | .func fd => He.refV fd.code ++ (He.refV fd.defaults ++ (He.refV fd.kwdefaults ++ fd.closure.map (·.2)))
  | .cls cd => cd.ns :: cd.mro.flatMap He.refV
  | .cell (some v) => He.refV v
  | .fields vs => (match o.cls with
    | .type n => if n = "property" ∨ n = "staticmethod" ∨ n = "classmethod" then vs.toList.flatMap He.refV else []
    | _ => [])
  | _ => []
def lvls (g : Addr → Option Obj) : Nat → List Addr → List Addr
  | 0, as => as
  | n + 1, as => as ++ lvls g n (as.flatMap fun a => match g a with
    | some o => refsK o
    | none => [])
def frK (g : Addr → Option Obj) : PySem.W.Frag := He.frG g (cStatics :: lvls g 5 [mainGlobals])
/-! ### addresses by names -/
def recAt (K : PySem.W.Frag) (p : Addr) (n : String) : Addr := match PySem.W.recIn K p n with
  | some (.ref f :: _) => f
  | _ => 0
def recTl (K : PySem.W.Frag) (p : Addr) (n : String) : List Value := match PySem.W.recIn K p n with
  | some (_ :: r) => r
  | _ => []
def fdAt (K : PySem.W.Frag) (f : Addr) : FuncData := match K.lookup f with
  | some ⟨_, _, .func fd, _⟩ => fd
  | _ => default
def adV : Value → Addr
  | .ref a => a
  | _ => 0
def cdAt (K : PySem.W.Frag) (f : Addr) : Addr := adV (fdAt K f).code
def dfAt (K : PySem.W.Frag) (f : Addr) : Addr := adV (fdAt K f).defaults
def kwAt (K : PySem.W.Frag) (f : Addr) : Addr := adV (fdAt K f).kwdefaults
def ccAt (K : PySem.W.Frag) (f : Addr) : Addr := match (fdAt K f).closure with
  | (_, c) :: _ => c
  | _ => 0
def fsAt (K : PySem.W.Frag) (c : Addr) : Array Value := match K.lookup c with
  | some ⟨_, _, .fields vs, _⟩ => vs
  | _ => #[]
def tbAt (K : PySem.W.Frag) (c : Addr) : Addr := adV ((fsAt K c)[11]?.getD .none)
/-! ### functions -/
abbrev FnV : Type := Option (Str × Str × Arguments × FuncBody × Scope × Addr × List Str × Addr)
def fnAt (K : PySem.W.Frag) (a : Addr) : FnV := match K.lookup a with
  | some ⟨_, _, .func fd, _⟩ => some (fd.name, fd.qualname, fd.params, fd.body, fd.scope, fd.globals, fd.closure.map (·.1), fd.builtins)
  | _ => none
structure Df where
  at_ : PySem.W.Frag → Addr
  name : Str
  qual : Str
  params : Arguments
  body : List Stmt
  scope : Scope
  clo : List Str := []
def Df.val (d : Df) : FnV := some (d.name, d.qual, d.params, .stmts d.body, d.scope, mainGlobals, d.clo, builtinsNs)
def Df.ok (K : PySem.W.Frag) (d : Df) : Bool := PySem.W.codeIn K (fdAt K (d.at_ K)).code d.qual
theorem fn0 {K : PySem.W.Frag} {d : Df} (e : fnAt K (d.at_ K) = d.val) (hc : d.clo = []) : ∃ oc od osl, K.lookup (d.at_ K) = some ⟨oc, od, .func (PySem.W.fnOf d.name d.qual d.params d.body d.scope (fdAt K (d.at_ K)).defaults (fdAt K (d.at_ K)).kwdefaults (fdAt K (d.at_ K)).doc (fdAt K (d.at_ K)).pyModule (fdAt K (d.at_ K)).annotations (fdAt K (d.at_ K)).code (fdAt K (d.at_ K)).closureTuple), osl⟩ := by
  unfold fnAt at e
  unfold fdAt
  cases q : K.lookup (d.at_ K) with
  | none => rw [q] at e; cases e
  | some o =>
    obtain ⟨oc, od, dt, osl⟩ := o
    rw [q] at e
    cases dt with
    | func fd =>
      obtain ⟨n1, n2, n3, n4, n5, n6, n7, n8, n9, n10, n11, n12, n13, n14, n15⟩ := fd
      have e2 : (some (n1, n2, n3, n4, n5, n6, n7.map (·.1), n15) : FnV) = some (d.name, d.qual, d.params, .stmts d.body, d.scope, mainGlobals, d.clo, builtinsNs) := e
      rw [hc] at e2
      simp only [Option.some.injEq, Prod.mk.injEq, List.map_eq_nil_iff] at e2
      obtain ⟨h1, h2, h3, h4, h5, h6, h7, h8⟩ := e2
      subst h1 h2 h3 h4 h5 h6 h7 h8
      exact ⟨oc, od, osl, rfl⟩
    | _ => cases e
theorem fn1 {K : PySem.W.Frag} {d : Df} {n : Str} (e : fnAt K (d.at_ K) = d.val) (hc : d.clo = [n]) : ∃ oc od osl, K.lookup (d.at_ K) = some ⟨oc, od, .func (PySem.W.fnX d.name d.qual d.params d.body d.scope [(n, ccAt K (d.at_ K))] (fdAt K (d.at_ K)).defaults (fdAt K (d.at_ K)).kwdefaults (fdAt K (d.at_ K)).doc (fdAt K (d.at_ K)).pyModule (fdAt K (d.at_ K)).annotations (fdAt K (d.at_ K)).code (fdAt K (d.at_ K)).closureTuple), osl⟩ := by
  unfold fnAt at e
  unfold ccAt fdAt
  cases q : K.lookup (d.at_ K) with
  | none => rw [q] at e; cases e
  | some o =>
    obtain ⟨oc, od, dt, osl⟩ := o
    rw [q] at e
    cases dt with
    | func fd =>
      obtain ⟨n1, n2, n3, n4, n5, n6, n7, n8, n9, n10, n11, n12, n13, n14, n15⟩ := fd
      have e2 : (some (n1, n2, n3, n4, n5, n6, n7.map (·.1), n15) : FnV) = some (d.name, d.qual, d.params, .stmts d.body, d.scope, mainGlobals, d.clo, builtinsNs) := e
      rw [hc] at e2
      simp only [Option.some.injEq, Prod.mk.injEq] at e2
      obtain ⟨h1, h2, h3, h4, h5, h6, h7, h8⟩ := e2
      subst h1 h2 h3 h4 h5 h6 h8
      match n7, h7 with
      | [(m, c)], h7 =>
        obtain rfl : m = n := by simpa using h7
        exact ⟨oc, od, osl, rfl⟩
    | _ => cases e
/-! ### the Hook -/
abbrev Al : Type := Bool × List FnV
def obsK (fs : List (List (PySem.W.Frag → Bool))) (ds : List Df) (K : PySem.W.Frag) : Al := ((fs.all fun ch => ch.all fun f => f K) && ds.all fun d => d.ok K, ds.map fun d => fnAt K (d.at_ K))
def valK (ds : List Df) : Al := (true, ds.map Df.val)
def Says (fs : List (List (PySem.W.Frag → Bool))) (ds : List Df) (K : PySem.W.Frag) : Prop := obsK fs ds K = valK ds
def hookK (fs : List (List (PySem.W.Frag → Bool))) (ds : List Df) : PySem.W.Hook where
  α := Al
  obs := fun s => obsK fs ds (frK s.heap.get?)
  val := fun _ => valK ds
  says := fun _ h => ∃ K : PySem.W.Frag, K.In h ∧ Says fs ds K
  of := fun _ _ e => ⟨_, He.frG_in, e⟩
  keeps := fun _ _ _ ⟨K, hK, c⟩ k => ⟨K, PySem.W.Frag.In.keeps hK k, c⟩
def obK (fs : List (List (PySem.W.Frag → Bool))) (ds : List Df) (s : PySem.W.SharedT) : Al := obsK fs ds (frK (HandSHeadRun.getT s))
theorem obK_eq (fs : List (List (PySem.W.Frag → Bool))) (ds : List Df) (s : PySem.W.SharedT) : obK fs ds s = (hookK fs ds).obs s.abs := by
  have e : HandSHeadRun.getT s = s.abs.heap.get? := funext (HandSHeadRun.getT_eq s)
  show obsK fs ds (frK (HandSHeadRun.getT s)) = obsK fs ds (frK s.abs.heap.get?)
  rw [e]
section
variable {fs : List (List (PySem.W.Frag → Bool))} {ds : List Df} {K : PySem.W.Frag}
theorem Says.fact (c : Says fs ds K) (i j : Nat) {ch : List (PySem.W.Frag → Bool)} {f : PySem.W.Frag → Bool} (h : fs[i]? = some ch) (h2 : ch[j]? = some f) : f K = true := by
  have c1 := (He.ba (show ((fs.all fun ch => ch.all fun f => f K) && ds.all fun d => d.ok K) = true from congrArg (fun z : Al => z.1) c)).1
  exact List.all_eq_true.mp (List.all_eq_true.mp c1 ch (List.mem_of_getElem? h)) f (List.mem_of_getElem? h2)
theorem Says.ok (c : Says fs ds K) (i : Nat) {d : Df} (h : ds[i]? = some d) : d.ok K = true := by
  have c1 := (He.ba (show ((fs.all fun ch => ch.all fun f => f K) && ds.all fun d => d.ok K) = true from congrArg (fun z : Al => z.1) c)).2
  exact List.all_eq_true.mp c1 d (List.mem_of_getElem? h)
theorem Says.val (c : Says fs ds K) (i : Nat) {d : Df} (h : ds[i]? = some d) : fnAt K (d.at_ K) = d.val := by
  have e : ds.map (fun d => fnAt K (d.at_ K)) = ds.map Df.val := congrArg (fun z : Al => z.2) c
  have e2 : (ds.map fun d => fnAt K (d.at_ K))[i]? = (ds.map Df.val)[i]? := by rw [e]
  rw [List.getElem?_map, List.getElem?_map, h] at e2
  exact Option.some.inj e2
/-- a def, its defaults, its code -/
theorem Says.fn (c : Says fs ds K) (i : Nat) {d : Df} {dV kV cdv : Value} (h : ds[i]? = some d) (hc : d.clo = []) (h1 : (fdAt K (d.at_ K)).defaults = dV) (h2 : (fdAt K (d.at_ K)).kwdefaults = kV) (h3 : (fdAt K (d.at_ K)).code = cdv) :
    (∃ oc od osl doc pm an ct, K.lookup (d.at_ K) = some ⟨oc, od, .func (PySem.W.fnOf d.name d.qual d.params d.body d.scope dV kV doc pm an cdv ct), osl⟩) ∧ PySem.W.codeIn K cdv d.qual = true := by
  subst h1 h2 h3
  obtain ⟨oc, od, osl, e⟩ := fn0 (c.val i h) hc
  exact ⟨⟨oc, od, osl, _, _, _, _, e⟩, c.ok i h⟩
theorem Says.fnC (c : Says fs ds K) (i : Nat) {d : Df} {n : Str} {dV kV cdv : Value} (h : ds[i]? = some d) (hc : d.clo = [n]) (h1 : (fdAt K (d.at_ K)).defaults = dV) (h2 : (fdAt K (d.at_ K)).kwdefaults = kV) (h3 : (fdAt K (d.at_ K)).code = cdv) :
    (∃ oc od osl doc pm an ct, K.lookup (d.at_ K) = some ⟨oc, od, .func (PySem.W.fnX d.name d.qual d.params d.body d.scope [(n, ccAt K (d.at_ K))] dV kV doc pm an cdv ct), osl⟩) ∧ PySem.W.codeIn K cdv d.qual = true := by
  subst h1 h2 h3
  obtain ⟨oc, od, osl, e⟩ := fn1 (c.val i h) hc
  exact ⟨⟨oc, od, osl, _, _, _, _, e⟩, c.ok i h⟩
end
/-! ### a code object, a tuple of defaults -/
def isFields (K : PySem.W.Frag) (c : Addr) : Bool := match K.lookup c with
  | some ⟨_, _, .fields _, _⟩ => true
  | _ => false
theorem isFields_ok {K : PySem.W.Frag} {c : Addr} (h : isFields K c = true) : ∃ e dd sl, K.lookup c = some ⟨e, dd, .fields (fsAt K c), sl⟩ := by
  unfold isFields at h
  unfold fsAt
  cases q : K.lookup c with
  | none => rw [q] at h; cases h
  | some o =>
    obtain ⟨oc, od, dt, osl⟩ := o
    rw [q] at h
    cases dt with
    | fields vs => exact ⟨oc, od, osl, rfl⟩
    | _ => cases h
def seqAt (K : PySem.W.Frag) (T : Addr) : Option (List Value) := match K.lookup T with
  | some ⟨_, _, .seq its _, _⟩ => some its.toList
  | _ => none
theorem seqAt_ok {K : PySem.W.Frag} {T : Addr} {us : List Value} (h : seqAt K T = some us) : ∃ o d n s, K.lookup T = some ⟨o, d, .seq us.toArray n, s⟩ := by
  unfold seqAt at h
  cases q : K.lookup T with
  | none => rw [q] at h; cases h
  | some o =>
    obtain ⟨oc, od, dt, osl⟩ := o
    rw [q] at h
    cases dt with
    | seq its n =>
      cases h
      exact ⟨oc, od, n, osl, rfl⟩
    | _ => cases h
/-! ### own errors -/
def exB (K : PySem.W.Frag) (C : Addr) (bmB : List Value) (newId : String) : Bool := match K.lookup C with
  | some ⟨.type t, _, .cls cd, sl⟩ => (match cd.mro, sl.toList with
    | .ref C' :: bm, [_, _, _, _, some (.builtin n), _] => t == "type" && (C' == C && (n == newId && ((!cd.hasDel) && (cd.hasDict && PySem.W.excTail bmB bm))))
    | _, _ => false)
  | _ => false
theorem exB_ok {K : PySem.W.Frag} {C : Addr} {bmB : List Value} {newId : String} (q : exB K C bmB newId = true) : ∃ nm qn N bs bm sn sub ab col dd k0 k1 k2 k3 k5,
    K.lookup C = some (excClassObj nm qn C N bs bm true sn sub ab col dd k0 k1 k2 k3 k5 newId) ∧ PySem.W.excTail bmB bm = true := by
  unfold exB at q
  split at q
  · rename_i tn dd cd sl ho
    split at q
    · rename_i C' bm k0 k1 k2 k3 n k5 hm hs
      simp only [Bool.and_eq_true, beq_iff_eq, Bool.not_eq_true'] at q
      obtain ⟨rfl, rfl, rfl, hdel, hdi, ht⟩ := q
      obtain ⟨nm, bs, mro, ns, qn, hd, sn, sub, ab, col, del⟩ := cd
      dsimp only at hm hdel hdi
      subst hm hdel hdi
      have hsl : sl = #[k0, k1, k2, k3, some (.builtin n), k5] := by
        obtain ⟨l⟩ := sl
        simp only at hs
        rw [hs]
      subst hsl
      exact ⟨_, _, _, _, _, _, _, _, _, _, _, _, _, _, _, ho, ht⟩
    · cases q
  · cases q
def fileB (K : PySem.W.Frag) (file : Str) (c : Addr) : Bool := match ((fsAt K c)[2]? : Option Value) with
  | some (.str f _) => file == f
  | _ => false
theorem fileB_ok {K : PySem.W.Frag} {file : Str} {c : Addr} (h : fileB K file c = true) : ∃ f t, (fsAt K c)[2]? = some (.str f t) ∧ (file == f) = true := by
  unfold fileB at h
  split at h
  · rename_i f t e
    exact ⟨f, t, e, h⟩
  · cases h
def cellB (K : PySem.W.Frag) (c C : Addr) : Bool := match K.lookup c with
  | some ⟨_, _, .cell (some (.ref C')), _⟩ => C' == C
  | _ => false
theorem cellB_ok {K : PySem.W.Frag} {c C : Addr} (h : cellB K c C = true) : ∃ e d s, K.lookup c = some ⟨e, d, .cell (some (.ref C)), s⟩ := by
  unfold cellB at h
  split at h
  · rename_i e d C' s ho
    cases beq_iff_eq.mp h
    exact ⟨_, _, _, ho⟩
  · cases h
def tkV : Value → Tok
  | .int _ t => t
  | .str _ t => t
  | _ => default
def nsV (K : PySem.W.Frag) (D : Addr) (x : Str) : Value := match PySem.W.nsIn K D x with
  | some (some v) => v
  | _ => .none
def seqV (K : PySem.W.Frag) (T : Addr) (i : Nat) : Value := ((seqAt K T).getD []).getD i .none
def etB (K : PySem.W.Frag) (T : Addr) : Bool := match K.lookup T with
  | some ⟨.type t, _, .seq its _, _⟩ => t == "tuple" && its.toList.isEmpty
  | _ => false
theorem etB_ok {K : PySem.W.Frag} {T : Addr} (h : etB K T = true) : ∃ d n s, K.lookup T = some ⟨.type "tuple", d, .seq #[] n, s⟩ := by
  unfold etB at h
  split at h
  · rename_i t d its n s ho
    simp only [Bool.and_eq_true, beq_iff_eq, List.isEmpty_iff] at h
    obtain ⟨rfl, h2⟩ := h
    obtain ⟨l⟩ := its
    simp only at h2
    subst h2
    exact ⟨_, _, _, ho⟩
  · cases h
theorem noB {K : PySem.W.Frag} {P : Addr} (h : (K.lookup P).isNone = true) : K.lookup P = none := Option.isNone_iff_eq_none.mp h
theorem dB {p : Prop} [Decidable p] (h : decide p = true) : p := of_decide_eq_true h
end HK
namespace DL
open PySem PySem.Spec PyProof.Rows L2
theorem walk_DE {l : PySem.W.OpenLaw} {k : Nat} {q : Program} {loose : List Str} {XP : (Str → Option Value) → Heap → Prop} {YP : World → Heap → Prop} {d : DefRec} {φ : Ct} {x : Str}
    (hn : l.most = some 63) (hdf : d.params.defaults = []) (hr : Room k callerA)
    (hφ : ∀ (ns : List Int) (M : Mm) (kk : DK) (xx : DX), ns.length ≤ 63 → (∀ z ∈ ns, Builtin.Int.intBits z ≤ 1048576) → (∀ a, M a = none) → (∀ M', kk (.bl true) M') → φ [.scr ns] M kk xx)
    (F : ∀ (w : World) (mg : Str → Option Value) (fa : Addr) (h : Heap), YP w h → h.Ns mainGlobals mg → mg d.name = some (.ref fa) →
      ∃ (K : PySem.W.Frag) (_ : K.In h) (fd : FuncData), (∀ (s : Shared) (u : Value), BindsTo s fd ⟨[u], []⟩ [(x, u)]) ∧
        ∀ base : Heap, K.In base → base.Ns mainGlobals mg → FnOk l.prog w K mg base (L2.CX l.prog w) k fa fd [x] (spD K 1 φ)) :
    PySem.W.WalkO q loose XP YP l.row.toRowW d [] (fun f vs => PySem.call f vs) := by
  refine Att.attach_callB hn hdf fun w s₀ s₁ mg mb fa o pm cd doc a vs ns G Y ho hd hcd hmg hobj hints hlen hbits hg => ?_
  obtain ⟨K, KX, fd, hb, hF⟩ := F w mg fa _ Y G.T.g hmg
  refine law_call (sp := spD K 1 φ) KX G.T.g G.T.b G.T.builtins G.T.nolimit hg hobj hints (Nat.le_trans hlen (by decide)) hr hF hb (fun H hO hS => ?_) fun H e s' h => ?_
  · exact ⟨⟨H, H, fun _ => none⟩, [.scr ns], fun d _ => d = .bl true, fun _ _ _ => False, rfl, ⟨Same.refl _, nofun, nofun⟩, .cons (.scr hS) .nil, rfl,
      hφ ns _ _ _ hlen hbits (fun _ => rfl) (fun _ => rfl), fun d t e _ _ v r => by subst e; cases r; rfl, fun C fs t h => h.elim⟩
  · obtain ⟨_, _, _, _, _, _, _, _, _, _, _, _, z⟩ := h
    exact z
theorem walk_DTsE {l : PySem.W.OpenLaw} {k : Nat} {q : Program} {loose : List Str} {XP : (Str → Option Value) → Heap → Prop} {YP : World → Heap → Prop} {d : DefRec} {φ : List Addr → Ct} {x : Str} (qs : List Str)
    (hn : l.most = some 63) (hdf : d.params.defaults = []) (hr : Room k callerA)
    (hφ : ∀ (Ps : List Addr) (ns : List Int) (M : Mm) (kk : DK) (xx : DX), ns.length ≤ 63 → (∀ z ∈ ns, Builtin.Int.intBits z ≤ 1048576) → Ps.Nodup → Ps.length = qs.length → (∀ (i : Nat) (P : Addr) (q0 : Str), Ps[i]? = some P → qs[i]? = some q0 → M P = some (.tbl q0)) → (∀ a, a ∉ Ps → M a = none) → (∀ M', kk (.bl true) M') → φ Ps [.scr ns] M kk xx)
    (F : ∀ (w : World) (mg : Str → Option Value) (fa : Addr) (h : Heap), YP w h → h.Ns mainGlobals mg → mg d.name = some (.ref fa) →
      ∃ (K : PySem.W.Frag) (_ : K.In h) (fd : FuncData) (cs : List (Addr × Addr)), (cs.map (·.2)).Nodup ∧ cs.length = qs.length ∧
        (∀ p ∈ cs, K.lookup p.2 = none ∧ PySem.W.codeHdIn K p.1 p.2 = true ∧ ∃ (nm : Str) (f : Addr) (o : Obj) (fd : FuncData) (e : Value) (dd : Option Addr) (vs : Array Value) (sl : Array (Option Value)), ((recsOf q).any fun e => e.name == nm) = true ∧ mg nm = some (.ref f) ∧ K.lookup f = some o ∧ o.data = .func fd ∧ fd.code = .ref p.1 ∧ K.lookup p.1 = some ⟨e, dd, .fields vs, sl⟩ ∧ vs[11]? = some (.ref p.2)) ∧
        (∀ (s : Shared) (u : Value), BindsTo s fd ⟨[u], []⟩ [(x, u)]) ∧
        ∀ base : Heap, K.In base → base.Ns mainGlobals mg → (∀ p ∈ cs, LamX.TabB base mg p.1 p.2) → FnOk l.prog w K mg base (L2.CX l.prog w) k fa fd [x] (spD K 1 (φ (cs.map (·.2))))) :
    PySem.W.WalkO q loose XP YP l.row.toRowW d [] (fun f vs => PySem.call f vs) := by
  refine Att.attach_callB hn hdf fun w s₀ s₁ mg mb fa o pm cd doc a vs ns G Y ho hd hcd hmg hobj hints hlen hbits hg => ?_
  obtain ⟨K, KX, fd, cs, hnd, hcl, hcs, hb, hF⟩ := F w mg fa s₁.heap Y G.T.g hmg
  have hP : ∀ p ∈ cs, s₁.heap.get? p.2 = some { cls := .none, data := .fields #[] } := fun p hp => by
    obtain ⟨_, _, nm, f, o1, fd1, e, dd, vs1, sl, hrec, hm, k1, k2, k3, k4, k5⟩ := hcs p hp
    obtain ⟨dL, hm', hn1⟩ := List.any_eq_true.mp hrec
    have hn2 : dL.name = nm := beq_iff_eq.mp hn1
    obtain ⟨a', o', fd', c', P', h1, h2, h3, h4, h5, h6⟩ := G.T.tab dL hm'
    rw [hn2, hm] at h1
    cases h1
    have g1 := KX _ _ k1
    rw [g1] at h2
    cases h2
    rw [k2] at h3
    cases h3
    rw [k3] at h4
    cases h4
    obtain ⟨⟨oc, vc, e1, _, e3, e4⟩, hP⟩ := h6
    have g2 := KX _ _ k4
    rw [g2] at e1
    cases e1
    cases e3
    rw [k5] at e4
    cases e4
    exact hP
  refine LamX.law_callTs (sp := spD K 1 (φ (cs.map (·.2)))) (x := x) (cs := cs) KX G.T.g G.T.b G.T.builtins G.T.nolimit hg hP (fun p hp => (hcs p hp).1) (fun p hp => PySem.W.codeHd_of_K KX (hcs p hp).2.1) G.T.bmain hobj hints (Nat.le_trans hlen (by decide)) hr hF hb (fun H hT hS => ?_) fun H e s' h => by
    obtain ⟨_, _, _, _, _, _, _, _, _, _, _, _, z⟩ := h
    exact z
  -- the state: the tables change, the rest stays
  let tb : Addr → Option MO := fun b => ((cs.map (·.2)).zip qs).lookup b |>.map MO.tbl
  have tb_none : ∀ b, b ∉ cs.map (·.2) → tb b = none := fun b hb => by
    have : ((cs.map (·.2)).zip qs).lookup b = none := by
      rw [List.lookup_eq_none_iff]
      intro p hp
      have : p.1 ∈ cs.map (·.2) := (List.of_mem_zip hp).1
      simp only [bne_iff_ne, ne_eq, beq_eq_false_iff_ne]
      intro e
      exact hb (e ▸ this)
    show (List.lookup b _).map MO.tbl = none
    rw [this]; rfl
  have look : ∀ (Ps : List Addr) (qs : List Str), Ps.Nodup → ∀ (i : Nat) (P : Addr) (q0 : Str), Ps[i]? = some P → qs[i]? = some q0 → (Ps.zip qs).lookup P = some q0 := by
    intro Ps
    induction Ps with
    | nil => intro qs _ i P q0 h; simp at h
    | cons A Ps ih =>
      intro qs hnd i P q0 h1 h2
      cases qs with
      | nil => simp at h2
      | cons B qs =>
        cases i with
        | zero =>
          simp at h1 h2
          subst h1 h2
          simp [List.lookup_cons]
        | succ i =>
          simp only [List.getElem?_cons_succ] at h1 h2
          have hne : P ≠ A := fun e => by
            rw [e] at h1
            exact (List.nodup_cons.mp hnd).1 (List.mem_of_getElem? h1)
          rw [List.zip_cons_cons, List.lookup_cons, beq_false_of_ne hne]
          exact ih qs (List.nodup_cons.mp hnd).2 i P q0 h1 h2
  have eT : ∀ b mo, tb b = some mo → ∃ q0, mo = .tbl q0 ∧ H b = some (.tbl #[]) ∧ b ∈ cs.map (·.2) := fun b mo z => by
    by_cases hb : b ∈ cs.map (·.2)
    · obtain ⟨p, hp, rfl⟩ := List.mem_map.mp hb
      have z' : (List.lookup p.2 ((cs.map (·.2)).zip qs)).map MO.tbl = some mo := z
      cases hq : List.lookup p.2 ((cs.map (·.2)).zip qs) with
      | none => rw [hq] at z'; cases z'
      | some q0 =>
        rw [hq] at z'
        cases z'
        exact ⟨q0, rfl, hT p hp, hb⟩
    · rw [tb_none b hb] at z; cases z
  have ne : ∀ u, H a = some u → (∀ ps, u ≠ .tbl ps) → a ∉ cs.map (·.2) := fun u e1 e2 z => by
    obtain ⟨p, hp, z2⟩ := List.mem_map.mp z
    rw [← z2, hT p hp] at e1
    exact e2 _ (Option.some.inj e1).symm
  have hG : ∀ u, H a = some u → (∀ ps, u ≠ .tbl ps) → (fun b => if b ∈ cs.map (·.2) then none else H b : Hp) a = some u := fun u e1 e2 => by
    show (if a ∈ cs.map (·.2) then none else H a) = some u
    rw [if_neg (ne u e1 e2)]
    exact e1
  have hS2 : SqL K (fun b => if b ∈ cs.map (·.2) then none else H b) a (ns.map V.int) := by
    rcases hS with (z | ⟨o2, z⟩) | z
    · exact .inl (.inl (hG _ z fun ps y => by cases y))
    · exact .inl (.inr ⟨o2, hG _ z fun ps y => by cases y⟩)
    · exact .inr z
  refine ⟨⟨H, fun b => if b ∈ cs.map (·.2) then none else H b, tb⟩, [.scr ns], fun d _ => d = .bl true, fun _ _ _ => False, rfl, ⟨fun b u z => ?_, fun b mo z => ?_, fun b mo z => ?_⟩, .cons (.scr hS2) .nil, rfl,
    hφ (cs.map (·.2)) ns _ _ _ hlen hbits hnd (by rw [List.length_map]; exact hcl) (fun i P q0 h1 h2 => ?_) (fun b hb => tb_none b hb) (fun _ => rfl), fun d t e _ _ v r => by subst e; cases r; rfl, fun C fs t h => h.elim⟩
  · have z' : (if b ∈ cs.map (·.2) then none else H b) = some u := z
    split at z'
    · cases z'
    · exact z'
  · obtain ⟨_, _, _, hb⟩ := eT b mo z
    show (if b ∈ cs.map (·.2) then none else H b) = none
    rw [if_pos hb]
  · obtain ⟨q0, rfl, eP, _⟩ := eT b mo z
    show MRep _ _ (H b) _
    rw [eP]
    exact ⟨#[], rfl, True.intro, fun pos cv hc => by simp [codeAmong] at hc⟩
  · show (List.lookup P _).map MO.tbl = some _
    rw [look _ _ hnd i P q0 h1 h2]
    rfl

end DL
set_option Elab.async false
set_option linter.all false
set_option maxRecDepth 100000
set_option maxHeartbeats 4000000
set_option pp.deepTerms false
set_option pp.deepTerms.threshold 12
set_option pp.maxSteps 4000
namespace W09
open PySem PySem.Spec PyProof.Rows L2 DL
theorem all_mk {l : PySem.W.OpenLaw} {w : World} {K : PySem.W.Frag} {h : Heap} {mg : Str → Option Value} {fa f0 f1 f2 f3 f4 f5 f6 f7 f8 f9  : Addr} (X : K.In h) (G : h.Ns mainGlobals mg) (hfa : mg "law" = some (.ref fa))
    {od0 an0 od1 an1 od2 an2 od3 an3 od4 an4 od5 an5 od6 an6 od7 an7 od8 an8 od9 an9 : Option Addr} {sl0 sl1 sl2 sl3 sl4 sl5 sl6 sl7 sl8 sl9 : Array (Option Value)} {oc0 dc0 pm0 cd0 ct0 oc1 dc1 pm1 cd1 ct1 oc2 dc2 pm2 cd2 ct2 oc3 dc3 pm3 cd3 ct3 oc4 dc4 pm4 cd4 ct4 oc5 dc5 pm5 cd5 ct5 oc6 dc6 pm6 cd6 ct6 oc7 dc7 pm7 cd7 ct7 oc8 dc8 pm8 cd8 ct8 oc9 dc9 pm9 cd9 ct9 : Value}
    {kV0 : Value} {kV1 : Value} {kV2 : Value} {kV3 : Value} {kV4 : Value} {kV5 : Value} {kV6 : Value} {kV7 : Value} {kV8 : Value} {kV9 : Value}
    {GE MI : Addr}
    {CX0 fX0 cdX0 ccX0 : Addr} {ocX0 kVX0 dcX0 pmX0 ctX0 eX0 clX0 : Value} {odX0 anX0 deX0 cldX0 : Option Addr} {slX0 sX0 cslX0 : Array (Option Value)} {vsX0 : Array Value} {fileX0 : Str} {tfX0 : Tok} {nmX0 : _} {qX0 : _} {NX0 : _} {bsX0 : _} {bmX0 : _} {snX0 : _} {subX0 : _} {abX0 : _} {colX0 : _} {ddX0 : _} {k0X0 : _} {k1X0 : _} {k2X0 : _} {k3X0 : _} {k5X0 : _}
    {CX1 fX1 cdX1 ccX1 : Addr} {ocX1 kVX1 dcX1 pmX1 ctX1 eX1 clX1 : Value} {odX1 anX1 deX1 cldX1 : Option Addr} {slX1 sX1 cslX1 : Array (Option Value)} {vsX1 : Array Value} {fileX1 : Str} {tfX1 : Tok} {nmX1 : _} {qX1 : _} {NX1 : _} {bsX1 : _} {bmX1 : _} {snX1 : _} {subX1 : _} {abX1 : _} {colX1 : _} {ddX1 : _} {k0X1 : _} {k1X1 : _} {k2X1 : _} {k3X1 : _} {k5X1 : _}
    {CX2 fX2 cdX2 ccX2 : Addr} {ocX2 kVX2 dcX2 pmX2 ctX2 eX2 clX2 : Value} {odX2 anX2 deX2 cldX2 : Option Addr} {slX2 sX2 cslX2 : Array (Option Value)} {vsX2 : Array Value} {fileX2 : Str} {tfX2 : Tok} {nmX2 : _} {qX2 : _} {NX2 : _} {bsX2 : _} {bmX2 : _} {snX2 : _} {subX2 : _} {abX2 : _} {colX2 : _} {ddX2 : _} {k0X2 : _} {k1X2 : _} {k2X2 : _} {k3X2 : _} {k5X2 : _}
    {CX3 fX3 cdX3 ccX3 : Addr} {ocX3 kVX3 dcX3 pmX3 ctX3 eX3 clX3 : Value} {odX3 anX3 deX3 cldX3 : Option Addr} {slX3 sX3 cslX3 : Array (Option Value)} {vsX3 : Array Value} {fileX3 : Str} {tfX3 : Tok} {nmX3 : _} {qX3 : _} {NX3 : _} {bsX3 : _} {bmX3 : _} {snX3 : _} {subX3 : _} {abX3 : _} {colX3 : _} {ddX3 : _} {k0X3 : _} {k1X3 : _} {k2X3 : _} {k3X3 : _} {k5X3 : _}
    {CX4 fX4 cdX4 ccX4 : Addr} {ocX4 kVX4 dcX4 pmX4 ctX4 eX4 clX4 : Value} {odX4 anX4 deX4 cldX4 : Option Addr} {slX4 sX4 cslX4 : Array (Option Value)} {vsX4 : Array Value} {fileX4 : Str} {tfX4 : Tok} {nmX4 : _} {qX4 : _} {NX4 : _} {bsX4 : _} {bmX4 : _} {snX4 : _} {subX4 : _} {abX4 : _} {colX4 : _} {ddX4 : _} {k0X4 : _} {k1X4 : _} {k2X4 : _} {k3X4 : _} {k5X4 : _}
    {CX5 fX5 cdX5 ccX5 : Addr} {ocX5 kVX5 dcX5 pmX5 ctX5 eX5 clX5 : Value} {odX5 anX5 deX5 cldX5 : Option Addr} {slX5 sX5 cslX5 : Array (Option Value)} {vsX5 : Array Value} {fileX5 : Str} {tfX5 : Tok} {nmX5 : _} {qX5 : _} {NX5 : _} {bsX5 : _} {bmX5 : _} {snX5 : _} {subX5 : _} {abX5 : _} {colX5 : _} {ddX5 : _} {k0X5 : _} {k1X5 : _} {k2X5 : _} {k3X5 : _} {k5X5 : _}
    {CX6 fX6 cdX6 ccX6 : Addr} {ocX6 kVX6 dcX6 pmX6 ctX6 eX6 clX6 : Value} {odX6 anX6 deX6 cldX6 : Option Addr} {slX6 sX6 cslX6 : Array (Option Value)} {vsX6 : Array Value} {fileX6 : Str} {tfX6 : Tok} {nmX6 : _} {qX6 : _} {NX6 : _} {bsX6 : _} {bmX6 : _} {snX6 : _} {subX6 : _} {abX6 : _} {colX6 : _} {ddX6 : _} {k0X6 : _} {k1X6 : _} {k2X6 : _} {k3X6 : _} {k5X6 : _}
    {CX7 fX7 cdX7 ccX7 : Addr} {ocX7 kVX7 dcX7 pmX7 ctX7 eX7 clX7 : Value} {odX7 anX7 deX7 cldX7 : Option Addr} {slX7 sX7 cslX7 : Array (Option Value)} {vsX7 : Array Value} {fileX7 : Str} {tfX7 : Tok} {nmX7 : _} {qX7 : _} {NX7 : _} {bsX7 : _} {bmX7 : _} {snX7 : _} {subX7 : _} {abX7 : _} {colX7 : _} {ddX7 : _} {k0X7 : _} {k1X7 : _} {k2X7 : _} {k3X7 : _} {k5X7 : _}
    {CX8 fX8 cdX8 ccX8 : Addr} {ocX8 kVX8 dcX8 pmX8 ctX8 eX8 clX8 : Value} {odX8 anX8 deX8 cldX8 : Option Addr} {slX8 sX8 cslX8 : Array (Option Value)} {vsX8 : Array Value} {fileX8 : Str} {tfX8 : Tok} {nmX8 : _} {qX8 : _} {NX8 : _} {bsX8 : _} {bmX8 : _} {snX8 : _} {subX8 : _} {abX8 : _} {colX8 : _} {ddX8 : _} {k0X8 : _} {k1X8 : _} {k2X8 : _} {k3X8 : _} {k5X8 : _}
    {CX9 fX9 cdX9 ccX9 : Addr} {ocX9 kVX9 dcX9 pmX9 ctX9 eX9 clX9 : Value} {odX9 anX9 deX9 cldX9 : Option Addr} {slX9 sX9 cslX9 : Array (Option Value)} {vsX9 : Array Value} {fileX9 : Str} {tfX9 : Tok} {nmX9 : _} {qX9 : _} {NX9 : _} {bsX9 : _} {bmX9 : _} {snX9 : _} {subX9 : _} {abX9 : _} {colX9 : _} {ddX9 : _} {k0X9 : _} {k1X9 : _} {k2X9 : _} {k3X9 : _} {k5X9 : _}
    {CX10 fX10 cdX10 ccX10 : Addr} {ocX10 kVX10 dcX10 pmX10 ctX10 eX10 clX10 : Value} {odX10 anX10 deX10 cldX10 : Option Addr} {slX10 sX10 cslX10 : Array (Option Value)} {vsX10 : Array Value} {fileX10 : Str} {tfX10 : Tok} {nmX10 : _} {qX10 : _} {NX10 : _} {bsX10 : _} {bmX10 : _} {snX10 : _} {subX10 : _} {abX10 : _} {colX10 : _} {ddX10 : _} {k0X10 : _} {k1X10 : _} {k2X10 : _} {k3X10 : _} {k5X10 : _}
    {CX11 fX11 cdX11 ccX11 : Addr} {ocX11 kVX11 dcX11 pmX11 ctX11 eX11 clX11 : Value} {odX11 anX11 deX11 cldX11 : Option Addr} {slX11 sX11 cslX11 : Array (Option Value)} {vsX11 : Array Value} {fileX11 : Str} {tfX11 : Tok} {nmX11 : _} {qX11 : _} {NX11 : _} {bsX11 : _} {bmX11 : _} {snX11 : _} {subX11 : _} {abX11 : _} {colX11 : _} {ddX11 : _} {k0X11 : _} {k1X11 : _} {k2X11 : _} {k3X11 : _} {k5X11 : _}
    {CX12 fX12 cdX12 ccX12 : Addr} {ocX12 kVX12 dcX12 pmX12 ctX12 eX12 clX12 : Value} {odX12 anX12 deX12 cldX12 : Option Addr} {slX12 sX12 cslX12 : Array (Option Value)} {vsX12 : Array Value} {fileX12 : Str} {tfX12 : Tok} {nmX12 : _} {qX12 : _} {NX12 : _} {bsX12 : _} {bmX12 : _} {snX12 : _} {subX12 : _} {abX12 : _} {colX12 : _} {ddX12 : _} {k0X12 : _} {k1X12 : _} {k2X12 : _} {k3X12 : _} {k5X12 : _}
    {CX13 fX13 cdX13 ccX13 : Addr} {ocX13 kVX13 dcX13 pmX13 ctX13 eX13 clX13 : Value} {odX13 anX13 deX13 cldX13 : Option Addr} {slX13 sX13 cslX13 : Array (Option Value)} {vsX13 : Array Value} {fileX13 : Str} {tfX13 : Tok} {nmX13 : _} {qX13 : _} {NX13 : _} {bsX13 : _} {bmX13 : _} {snX13 : _} {subX13 : _} {abX13 : _} {colX13 : _} {ddX13 : _} {k0X13 : _} {k1X13 : _} {k2X13 : _} {k3X13 : _} {k5X13 : _}
    {CX14 fX14 cdX14 ccX14 : Addr} {ocX14 kVX14 dcX14 pmX14 ctX14 eX14 clX14 : Value} {odX14 anX14 deX14 cldX14 : Option Addr} {slX14 sX14 cslX14 : Array (Option Value)} {vsX14 : Array Value} {fileX14 : Str} {tfX14 : Tok} {nmX14 : _} {qX14 : _} {NX14 : _} {bsX14 : _} {bmX14 : _} {snX14 : _} {subX14 : _} {abX14 : _} {colX14 : _} {ddX14 : _} {k0X14 : _} {k1X14 : _} {k2X14 : _} {k3X14 : _} {k5X14 : _}
    {CX15 fX15 cdX15 ccX15 : Addr} {ocX15 kVX15 dcX15 pmX15 ctX15 eX15 clX15 : Value} {odX15 anX15 deX15 cldX15 : Option Addr} {slX15 sX15 cslX15 : Array (Option Value)} {vsX15 : Array Value} {fileX15 : Str} {tfX15 : Tok} {nmX15 : _} {qX15 : _} {NX15 : _} {bsX15 : _} {bmX15 : _} {snX15 : _} {subX15 : _} {abX15 : _} {colX15 : _} {ddX15 : _} {k0X15 : _} {k1X15 : _} {k2X15 : _} {k3X15 : _} {k5X15 : _}
    {CX16 fX16 cdX16 ccX16 : Addr} {ocX16 kVX16 dcX16 pmX16 ctX16 eX16 clX16 : Value} {odX16 anX16 deX16 cldX16 : Option Addr} {slX16 sX16 cslX16 : Array (Option Value)} {vsX16 : Array Value} {fileX16 : Str} {tfX16 : Tok} {nmX16 : _} {qX16 : _} {NX16 : _} {bsX16 : _} {bmX16 : _} {snX16 : _} {subX16 : _} {abX16 : _} {colX16 : _} {ddX16 : _} {k0X16 : _} {k1X16 : _} {k2X16 : _} {k3X16 : _} {k5X16 : _}
    {CX17 fX17 cdX17 ccX17 : Addr} {ocX17 kVX17 dcX17 pmX17 ctX17 eX17 clX17 : Value} {odX17 anX17 deX17 cldX17 : Option Addr} {slX17 sX17 cslX17 : Array (Option Value)} {vsX17 : Array Value} {fileX17 : Str} {tfX17 : Tok} {nmX17 : _} {qX17 : _} {NX17 : _} {bsX17 : _} {bmX17 : _} {snX17 : _} {subX17 : _} {abX17 : _} {colX17 : _} {ddX17 : _} {k0X17 : _} {k1X17 : _} {k2X17 : _} {k3X17 : _} {k5X17 : _}
    {CX18 fX18 cdX18 ccX18 : Addr} {ocX18 kVX18 dcX18 pmX18 ctX18 eX18 clX18 : Value} {odX18 anX18 deX18 cldX18 : Option Addr} {slX18 sX18 cslX18 : Array (Option Value)} {vsX18 : Array Value} {fileX18 : Str} {tfX18 : Tok} {nmX18 : _} {qX18 : _} {NX18 : _} {bsX18 : _} {bmX18 : _} {snX18 : _} {subX18 : _} {abX18 : _} {colX18 : _} {ddX18 : _} {k0X18 : _} {k1X18 : _} {k2X18 : _} {k3X18 : _} {k5X18 : _}
    {CX19 fX19 cdX19 ccX19 : Addr} {ocX19 kVX19 dcX19 pmX19 ctX19 eX19 clX19 : Value} {odX19 anX19 deX19 cldX19 : Option Addr} {slX19 sX19 cslX19 : Array (Option Value)} {vsX19 : Array Value} {fileX19 : Str} {tfX19 : Tok} {nmX19 : _} {qX19 : _} {NX19 : _} {bsX19 : _} {bmX19 : _} {snX19 : _} {subX19 : _} {abX19 : _} {colX19 : _} {ddX19 : _} {k0X19 : _} {k1X19 : _} {k2X19 : _} {k3X19 : _} {k5X19 : _}
    {CX20 fX20 cdX20 ccX20 : Addr} {ocX20 kVX20 dcX20 pmX20 ctX20 eX20 clX20 : Value} {odX20 anX20 deX20 cldX20 : Option Addr} {slX20 sX20 cslX20 : Array (Option Value)} {vsX20 : Array Value} {fileX20 : Str} {tfX20 : Tok} {nmX20 : _} {qX20 : _} {NX20 : _} {bsX20 : _} {bmX20 : _} {snX20 : _} {subX20 : _} {abX20 : _} {colX20 : _} {ddX20 : _} {k0X20 : _} {k1X20 : _} {k2X20 : _} {k3X20 : _} {k5X20 : _}
    {CX21 fX21 cdX21 ccX21 : Addr} {ocX21 kVX21 dcX21 pmX21 ctX21 eX21 clX21 : Value} {odX21 anX21 deX21 cldX21 : Option Addr} {slX21 sX21 cslX21 : Array (Option Value)} {vsX21 : Array Value} {fileX21 : Str} {tfX21 : Tok} {nmX21 : _} {qX21 : _} {NX21 : _} {bsX21 : _} {bmX21 : _} {snX21 : _} {subX21 : _} {abX21 : _} {colX21 : _} {ddX21 : _} {k0X21 : _} {k1X21 : _} {k2X21 : _} {k3X21 : _} {k5X21 : _}
    {CX22 fX22 cdX22 ccX22 : Addr} {ocX22 kVX22 dcX22 pmX22 ctX22 eX22 clX22 : Value} {odX22 anX22 deX22 cldX22 : Option Addr} {slX22 sX22 cslX22 : Array (Option Value)} {vsX22 : Array Value} {fileX22 : Str} {tfX22 : Tok} {nmX22 : _} {qX22 : _} {NX22 : _} {bsX22 : _} {bmX22 : _} {snX22 : _} {subX22 : _} {abX22 : _} {colX22 : _} {ddX22 : _} {k0X22 : _} {k1X22 : _} {k2X22 : _} {k3X22 : _} {k5X22 : _}
    {CX23 fX23 cdX23 ccX23 : Addr} {ocX23 kVX23 dcX23 pmX23 ctX23 eX23 clX23 : Value} {odX23 anX23 deX23 cldX23 : Option Addr} {slX23 sX23 cslX23 : Array (Option Value)} {vsX23 : Array Value} {fileX23 : Str} {tfX23 : Tok} {nmX23 : _} {qX23 : _} {NX23 : _} {bsX23 : _} {bmX23 : _} {snX23 : _} {subX23 : _} {abX23 : _} {colX23 : _} {ddX23 : _} {k0X23 : _} {k1X23 : _} {k2X23 : _} {k3X23 : _} {k5X23 : _}
    {CX24 fX24 cdX24 ccX24 : Addr} {ocX24 kVX24 dcX24 pmX24 ctX24 eX24 clX24 : Value} {odX24 anX24 deX24 cldX24 : Option Addr} {slX24 sX24 cslX24 : Array (Option Value)} {vsX24 : Array Value} {fileX24 : Str} {tfX24 : Tok} {nmX24 : _} {qX24 : _} {NX24 : _} {bsX24 : _} {bmX24 : _} {snX24 : _} {subX24 : _} {abX24 : _} {colX24 : _} {ddX24 : _} {k0X24 : _} {k1X24 : _} {k2X24 : _} {k3X24 : _} {k5X24 : _}
    {CX25 fX25 cdX25 ccX25 : Addr} {ocX25 kVX25 dcX25 pmX25 ctX25 eX25 clX25 : Value} {odX25 anX25 deX25 cldX25 : Option Addr} {slX25 sX25 cslX25 : Array (Option Value)} {vsX25 : Array Value} {fileX25 : Str} {tfX25 : Tok} {nmX25 : _} {qX25 : _} {NX25 : _} {bsX25 : _} {bmX25 : _} {snX25 : _} {subX25 : _} {abX25 : _} {colX25 : _} {ddX25 : _} {k0X25 : _} {k1X25 : _} {k2X25 : _} {k3X25 : _} {k5X25 : _}
    {CX26 fX26 cdX26 ccX26 : Addr} {ocX26 kVX26 dcX26 pmX26 ctX26 eX26 clX26 : Value} {odX26 anX26 deX26 cldX26 : Option Addr} {slX26 sX26 cslX26 : Array (Option Value)} {vsX26 : Array Value} {fileX26 : Str} {tfX26 : Tok} {nmX26 : _} {qX26 : _} {NX26 : _} {bsX26 : _} {bmX26 : _} {snX26 : _} {subX26 : _} {abX26 : _} {colX26 : _} {ddX26 : _} {k0X26 : _} {k1X26 : _} {k2X26 : _} {k3X26 : _} {k5X26 : _}
    (hn : PySem.W.specialIn K (.builtin "object.__class__") "__get__" = some (some (.builtin "getset_descriptor.__get__")))
    (htk : PySem.W.takesIn K (.builtin "object.__class__") = some true)
    (a0 : PySem.W.nsIn K mainGlobals "_law_start" = some (some (.ref f0)))
    (l0 : K.lookup f0 = some ⟨oc0, od0, .func (PySem.W.fnOf "_law_start" "_law_start" (defArgs st__law_start) (defBody st__law_start) (defScope st__law_start) .none kV0 dc0 pm0 an0 cd0 ct0), sl0⟩)
    (c0 : PySem.W.codeIn K cd0 "_law_start" = true)
    (k0 : PySem.W.keepIn K (.ref f0) = true)
    (a1 : PySem.W.nsIn K mainGlobals "_law_pull" = some (some (.ref f1)))
    (l1 : K.lookup f1 = some ⟨oc1, od1, .func (PySem.W.fnOf "_law_pull" "_law_pull" (defArgs st__law_pull) (defBody st__law_pull) (defScope st__law_pull) .none kV1 dc1 pm1 an1 cd1 ct1), sl1⟩)
    (c1 : PySem.W.codeIn K cd1 "_law_pull" = true)
    (k1 : PySem.W.keepIn K (.ref f1) = true)
    (a2 : PySem.W.nsIn K mainGlobals "_law_pick" = some (some (.ref f2)))
    (l2 : K.lookup f2 = some ⟨oc2, od2, .func (PySem.W.fnOf "_law_pick" "_law_pick" (defArgs st__law_pick) (defBody st__law_pick) (defScope st__law_pick) .none kV2 dc2 pm2 an2 cd2 ct2), sl2⟩)
    (c2 : PySem.W.codeIn K cd2 "_law_pick" = true)
    (k2 : PySem.W.keepIn K (.ref f2) = true)
    (a3 : PySem.W.nsIn K mainGlobals "_law_stray" = some (some (.ref f3)))
    (l3 : K.lookup f3 = some ⟨oc3, od3, .func (PySem.W.fnOf "_law_stray" "_law_stray" (defArgs st__law_stray) (defBody st__law_stray) (defScope st__law_stray) .none kV3 dc3 pm3 an3 cd3 ct3), sl3⟩)
    (c3 : PySem.W.codeIn K cd3 "_law_stray" = true)
    (k3 : PySem.W.keepIn K (.ref f3) = true)
    (a4 : PySem.W.nsIn K mainGlobals "_law_sort" = some (some (.ref f4)))
    (l4 : K.lookup f4 = some ⟨oc4, od4, .func (PySem.W.fnOf "_law_sort" "_law_sort" (defArgs st__law_sort) (defBody st__law_sort) (defScope st__law_sort) .none kV4 dc4 pm4 an4 cd4 ct4), sl4⟩)
    (c4 : PySem.W.codeIn K cd4 "_law_sort" = true)
    (k4 : PySem.W.keepIn K (.ref f4) = true)
    (a5 : PySem.W.nsIn K mainGlobals "_law_same" = some (some (.ref f5)))
    (l5 : K.lookup f5 = some ⟨oc5, od5, .func (PySem.W.fnOf "_law_same" "_law_same" (defArgs st__law_same) (defBody st__law_same) (defScope st__law_same) .none kV5 dc5 pm5 an5 cd5 ct5), sl5⟩)
    (c5 : PySem.W.codeIn K cd5 "_law_same" = true)
    (k5 : PySem.W.keepIn K (.ref f5) = true)
    (a6 : PySem.W.nsIn K mainGlobals "_law_fields" = some (some (.ref f6)))
    (l6 : K.lookup f6 = some ⟨oc6, od6, .func (PySem.W.fnOf "_law_fields" "_law_fields" (defArgs st__law_fields) (defBody st__law_fields) (defScope st__law_fields) .none kV6 dc6 pm6 an6 cd6 ct6), sl6⟩)
    (c6 : PySem.W.codeIn K cd6 "_law_fields" = true)
    (k6 : PySem.W.keepIn K (.ref f6) = true)
    (a7 : PySem.W.nsIn K mainGlobals "_law_kinds_apart" = some (some (.ref f7)))
    (l7 : K.lookup f7 = some ⟨oc7, od7, .func (PySem.W.fnOf "_law_kinds_apart" "_law_kinds_apart" (defArgs st__law_kinds_apart) (defBody st__law_kinds_apart) (defScope st__law_kinds_apart) .none kV7 dc7 pm7 an7 cd7 ct7), sl7⟩)
    (c7 : PySem.W.codeIn K cd7 "_law_kinds_apart" = true)
    (k7 : PySem.W.keepIn K (.ref f7) = true)
    (a8 : PySem.W.nsIn K mainGlobals "_law_errors_so" = some (some (.ref f8)))
    (l8 : K.lookup f8 = some ⟨oc8, od8, .func (PySem.W.fnOf "_law_errors_so" "_law_errors_so" (defArgs st__law_errors_so) (defBody st__law_errors_so) (defScope st__law_errors_so) .none kV8 dc8 pm8 an8 cd8 ct8), sl8⟩)
    (c8 : PySem.W.codeIn K cd8 "_law_errors_so" = true)
    (k8 : PySem.W.keepIn K (.ref f8) = true)
    (a9 : PySem.W.nsIn K mainGlobals "law" = some (some (.ref f9)))
    (l9 : K.lookup f9 = some ⟨oc9, od9, .func (PySem.W.fnOf "law" "law" (defArgs st_law) (defBody st_law) (defScope st_law) .none kV9 dc9 pm9 an9 cd9 ct9), sl9⟩)
    (c9 : PySem.W.codeIn K cd9 "law" = true)
    (k9 : PySem.W.keepIn K (.ref f9) = true)
    (b_IndexError : PySem.W.nsIn K mainGlobals "IndexError" = some none)
    (b_LookupError : PySem.W.nsIn K mainGlobals "LookupError" = some none)
    (b_ValueError : PySem.W.nsIn K mainGlobals "ValueError" = some none)
    (b_all : PySem.W.nsIn K mainGlobals "all" = some none)
    (b_bool : PySem.W.nsIn K mainGlobals "bool" = some none)
    (b_int : PySem.W.nsIn K mainGlobals "int" = some none)
    (b_isinstance : PySem.W.nsIn K mainGlobals "isinstance" = some none)
    (b_len : PySem.W.nsIn K mainGlobals "len" = some none)
    (b_list : PySem.W.nsIn K mainGlobals "list" = some none)
    (b_str : PySem.W.nsIn K mainGlobals "str" = some none)
    (b_tuple : PySem.W.nsIn K mainGlobals "tuple" = some none)
    (b_zip : PySem.W.nsIn K mainGlobals "zip" = some none)
    (gG : PySem.W.nsIn K mainGlobals "GustError" = some (some (.ref GE)))
    (gM : PySem.W.nsIn K mainGlobals "Missing" = some (some (.ref MI)))
    (gValueError : PySem.W.nsIn K mainGlobals "ValueError" = some none)
    (gLookupError : PySem.W.nsIn K mainGlobals "LookupError" = some none)
    (gIndexError : PySem.W.nsIn K mainGlobals "IndexError" = some none)
    (suX : PySem.W.nsIn K mainGlobals "super" = some none)
    (opX : PySem.W.nsIn K cStatics "thirdparty.any" = some none)
    (tpX : (l.prog.main.scope.names.lookup ("super" : Str)).isSome = false)
    (aX0 : PySem.W.nsIn K mainGlobals "InvalidRatio" = some (some (.ref CX0)))
    (lX0 : K.lookup CX0 = some (excClassObj nmX0 qX0 CX0 NX0 bsX0 bmX0 true snX0 subX0 abX0 colX0 ddX0 k0X0 k1X0 k2X0 k3X0 k5X0 "ValueError.__new__"))
    (rvX0 : PySem.W.excTail [.type "ValueError", .type "Exception", .type "BaseException", .type "object"] bmX0 = true)
    (obX0 : oxB K "ValueError" CX0 = true)
    (iX0 : PySem.W.findIn K (.ref CX0) "__init__" = some (some (.ref fX0)))
    (tiX0 : PySem.W.typeIn K (.ref fX0) = some (.type "function"))
    (lfX0 : K.lookup fX0 = some ⟨ocX0, odX0, .func (PySem.W.ksFn "__init__" "InvalidRatio.__init__" (defArgs st_InvalidRatio___init__) (defBody st_InvalidRatio___init__) (defScope st_InvalidRatio___init__) .none kVX0 dcX0 pmX0 anX0 (.ref cdX0) ctX0 ccX0), slX0⟩)
    (lcX0 : K.lookup cdX0 = some ⟨eX0, deX0, .fields vsX0, sX0⟩)
    (h2X0 : vsX0[2]? = some (.str fileX0 tfX0))
    (hfX0 : ((l.prog.main.file : Str) == fileX0) = true)
    (lccX0 : K.lookup ccX0 = some ⟨clX0, cldX0, .cell (some (.ref CX0)), cslX0⟩)
    (cc'X0 : PySem.W.codeIn K (.ref cdX0) "InvalidRatio.__init__" = true)
    (xfX0 : xfB K CX0 = true)
    (noX0 : noB K CX0 NOSX = true)
    (aX1 : PySem.W.nsIn K mainGlobals "InvalidSpan" = some (some (.ref CX1)))
    (lX1 : K.lookup CX1 = some (excClassObj nmX1 qX1 CX1 NX1 bsX1 bmX1 true snX1 subX1 abX1 colX1 ddX1 k0X1 k1X1 k2X1 k3X1 k5X1 "ValueError.__new__"))
    (rvX1 : PySem.W.excTail [.type "ValueError", .type "Exception", .type "BaseException", .type "object"] bmX1 = true)
    (obX1 : oxB K "ValueError" CX1 = true)
    (iX1 : PySem.W.findIn K (.ref CX1) "__init__" = some (some (.ref fX1)))
    (tiX1 : PySem.W.typeIn K (.ref fX1) = some (.type "function"))
    (lfX1 : K.lookup fX1 = some ⟨ocX1, odX1, .func (PySem.W.ksFn "__init__" "InvalidSpan.__init__" (defArgs st_InvalidSpan___init__) (defBody st_InvalidSpan___init__) (defScope st_InvalidSpan___init__) .none kVX1 dcX1 pmX1 anX1 (.ref cdX1) ctX1 ccX1), slX1⟩)
    (lcX1 : K.lookup cdX1 = some ⟨eX1, deX1, .fields vsX1, sX1⟩)
    (h2X1 : vsX1[2]? = some (.str fileX1 tfX1))
    (hfX1 : ((l.prog.main.file : Str) == fileX1) = true)
    (lccX1 : K.lookup ccX1 = some ⟨clX1, cldX1, .cell (some (.ref CX1)), cslX1⟩)
    (cc'X1 : PySem.W.codeIn K (.ref cdX1) "InvalidSpan.__init__" = true)
    (xfX1 : xfB K CX1 = true)
    (noX1 : noB K CX1 NOSX = true)
    (aX2 : PySem.W.nsIn K mainGlobals "InvalidCount" = some (some (.ref CX2)))
    (lX2 : K.lookup CX2 = some (excClassObj nmX2 qX2 CX2 NX2 bsX2 bmX2 true snX2 subX2 abX2 colX2 ddX2 k0X2 k1X2 k2X2 k3X2 k5X2 "ValueError.__new__"))
    (rvX2 : PySem.W.excTail [.type "ValueError", .type "Exception", .type "BaseException", .type "object"] bmX2 = true)
    (obX2 : oxB K "ValueError" CX2 = true)
    (iX2 : PySem.W.findIn K (.ref CX2) "__init__" = some (some (.ref fX2)))
    (tiX2 : PySem.W.typeIn K (.ref fX2) = some (.type "function"))
    (lfX2 : K.lookup fX2 = some ⟨ocX2, odX2, .func (PySem.W.ksFn "__init__" "InvalidCount.__init__" (defArgs st_InvalidCount___init__) (defBody st_InvalidCount___init__) (defScope st_InvalidCount___init__) .none kVX2 dcX2 pmX2 anX2 (.ref cdX2) ctX2 ccX2), slX2⟩)
    (lcX2 : K.lookup cdX2 = some ⟨eX2, deX2, .fields vsX2, sX2⟩)
    (h2X2 : vsX2[2]? = some (.str fileX2 tfX2))
    (hfX2 : ((l.prog.main.file : Str) == fileX2) = true)
    (lccX2 : K.lookup ccX2 = some ⟨clX2, cldX2, .cell (some (.ref CX2)), cslX2⟩)
    (cc'X2 : PySem.W.codeIn K (.ref cdX2) "InvalidCount.__init__" = true)
    (xfX2 : xfB K CX2 = true)
    (noX2 : noB K CX2 NOSX = true)
    (aX3 : PySem.W.nsIn K mainGlobals "InvalidLimit" = some (some (.ref CX3)))
    (lX3 : K.lookup CX3 = some (excClassObj nmX3 qX3 CX3 NX3 bsX3 bmX3 true snX3 subX3 abX3 colX3 ddX3 k0X3 k1X3 k2X3 k3X3 k5X3 "ValueError.__new__"))
    (rvX3 : PySem.W.excTail [.type "ValueError", .type "Exception", .type "BaseException", .type "object"] bmX3 = true)
    (obX3 : oxB K "ValueError" CX3 = true)
    (iX3 : PySem.W.findIn K (.ref CX3) "__init__" = some (some (.ref fX3)))
    (tiX3 : PySem.W.typeIn K (.ref fX3) = some (.type "function"))
    (lfX3 : K.lookup fX3 = some ⟨ocX3, odX3, .func (PySem.W.ksFn "__init__" "InvalidLimit.__init__" (defArgs st_InvalidLimit___init__) (defBody st_InvalidLimit___init__) (defScope st_InvalidLimit___init__) .none kVX3 dcX3 pmX3 anX3 (.ref cdX3) ctX3 ccX3), slX3⟩)
    (lcX3 : K.lookup cdX3 = some ⟨eX3, deX3, .fields vsX3, sX3⟩)
    (h2X3 : vsX3[2]? = some (.str fileX3 tfX3))
    (hfX3 : ((l.prog.main.file : Str) == fileX3) = true)
    (lccX3 : K.lookup ccX3 = some ⟨clX3, cldX3, .cell (some (.ref CX3)), cslX3⟩)
    (cc'X3 : PySem.W.codeIn K (.ref cdX3) "InvalidLimit.__init__" = true)
    (xfX3 : xfB K CX3 = true)
    (noX3 : noB K CX3 NOSX = true)
    (aX4 : PySem.W.nsIn K mainGlobals "InvalidText" = some (some (.ref CX4)))
    (lX4 : K.lookup CX4 = some (excClassObj nmX4 qX4 CX4 NX4 bsX4 bmX4 true snX4 subX4 abX4 colX4 ddX4 k0X4 k1X4 k2X4 k3X4 k5X4 "ValueError.__new__"))
    (rvX4 : PySem.W.excTail [.type "ValueError", .type "Exception", .type "BaseException", .type "object"] bmX4 = true)
    (obX4 : oxB K "ValueError" CX4 = true)
    (iX4 : PySem.W.findIn K (.ref CX4) "__init__" = some (some (.ref fX4)))
    (tiX4 : PySem.W.typeIn K (.ref fX4) = some (.type "function"))
    (lfX4 : K.lookup fX4 = some ⟨ocX4, odX4, .func (PySem.W.ksFn "__init__" "InvalidText.__init__" (defArgs st_InvalidText___init__) (defBody st_InvalidText___init__) (defScope st_InvalidText___init__) .none kVX4 dcX4 pmX4 anX4 (.ref cdX4) ctX4 ccX4), slX4⟩)
    (lcX4 : K.lookup cdX4 = some ⟨eX4, deX4, .fields vsX4, sX4⟩)
    (h2X4 : vsX4[2]? = some (.str fileX4 tfX4))
    (hfX4 : ((l.prog.main.file : Str) == fileX4) = true)
    (lccX4 : K.lookup ccX4 = some ⟨clX4, cldX4, .cell (some (.ref CX4)), cslX4⟩)
    (cc'X4 : PySem.W.codeIn K (.ref cdX4) "InvalidText.__init__" = true)
    (xfX4 : xfB K CX4 = true)
    (noX4 : noB K CX4 NOSX = true)
    (aX5 : PySem.W.nsIn K mainGlobals "InvalidCorners" = some (some (.ref CX5)))
    (lX5 : K.lookup CX5 = some (excClassObj nmX5 qX5 CX5 NX5 bsX5 bmX5 true snX5 subX5 abX5 colX5 ddX5 k0X5 k1X5 k2X5 k3X5 k5X5 "ValueError.__new__"))
    (rvX5 : PySem.W.excTail [.type "ValueError", .type "Exception", .type "BaseException", .type "object"] bmX5 = true)
    (obX5 : oxB K "ValueError" CX5 = true)
    (iX5 : PySem.W.findIn K (.ref CX5) "__init__" = some (some (.ref fX5)))
    (tiX5 : PySem.W.typeIn K (.ref fX5) = some (.type "function"))
    (lfX5 : K.lookup fX5 = some ⟨ocX5, odX5, .func (PySem.W.ksFn "__init__" "InvalidCorners.__init__" (defArgs st_InvalidCorners___init__) (defBody st_InvalidCorners___init__) (defScope st_InvalidCorners___init__) .none kVX5 dcX5 pmX5 anX5 (.ref cdX5) ctX5 ccX5), slX5⟩)
    (lcX5 : K.lookup cdX5 = some ⟨eX5, deX5, .fields vsX5, sX5⟩)
    (h2X5 : vsX5[2]? = some (.str fileX5 tfX5))
    (hfX5 : ((l.prog.main.file : Str) == fileX5) = true)
    (lccX5 : K.lookup ccX5 = some ⟨clX5, cldX5, .cell (some (.ref CX5)), cslX5⟩)
    (cc'X5 : PySem.W.codeIn K (.ref cdX5) "InvalidCorners.__init__" = true)
    (xfX5 : xfB K CX5 = true)
    (noX5 : noB K CX5 NOSX = true)
    (aX6 : PySem.W.nsIn K mainGlobals "InvalidTiles" = some (some (.ref CX6)))
    (lX6 : K.lookup CX6 = some (excClassObj nmX6 qX6 CX6 NX6 bsX6 bmX6 true snX6 subX6 abX6 colX6 ddX6 k0X6 k1X6 k2X6 k3X6 k5X6 "ValueError.__new__"))
    (rvX6 : PySem.W.excTail [.type "ValueError", .type "Exception", .type "BaseException", .type "object"] bmX6 = true)
    (obX6 : oxB K "ValueError" CX6 = true)
    (iX6 : PySem.W.findIn K (.ref CX6) "__init__" = some (some (.ref fX6)))
    (tiX6 : PySem.W.typeIn K (.ref fX6) = some (.type "function"))
    (lfX6 : K.lookup fX6 = some ⟨ocX6, odX6, .func (PySem.W.ksFn "__init__" "InvalidTiles.__init__" (defArgs st_InvalidTiles___init__) (defBody st_InvalidTiles___init__) (defScope st_InvalidTiles___init__) .none kVX6 dcX6 pmX6 anX6 (.ref cdX6) ctX6 ccX6), slX6⟩)
    (lcX6 : K.lookup cdX6 = some ⟨eX6, deX6, .fields vsX6, sX6⟩)
    (h2X6 : vsX6[2]? = some (.str fileX6 tfX6))
    (hfX6 : ((l.prog.main.file : Str) == fileX6) = true)
    (lccX6 : K.lookup ccX6 = some ⟨clX6, cldX6, .cell (some (.ref CX6)), cslX6⟩)
    (cc'X6 : PySem.W.codeIn K (.ref cdX6) "InvalidTiles.__init__" = true)
    (xfX6 : xfB K CX6 = true)
    (noX6 : noB K CX6 NOSX = true)
    (aX7 : PySem.W.nsIn K mainGlobals "InvalidDeed" = some (some (.ref CX7)))
    (lX7 : K.lookup CX7 = some (excClassObj nmX7 qX7 CX7 NX7 bsX7 bmX7 true snX7 subX7 abX7 colX7 ddX7 k0X7 k1X7 k2X7 k3X7 k5X7 "ValueError.__new__"))
    (rvX7 : PySem.W.excTail [.type "ValueError", .type "Exception", .type "BaseException", .type "object"] bmX7 = true)
    (obX7 : oxB K "ValueError" CX7 = true)
    (iX7 : PySem.W.findIn K (.ref CX7) "__init__" = some (some (.ref fX7)))
    (tiX7 : PySem.W.typeIn K (.ref fX7) = some (.type "function"))
    (lfX7 : K.lookup fX7 = some ⟨ocX7, odX7, .func (PySem.W.ksFn "__init__" "InvalidDeed.__init__" (defArgs st_InvalidDeed___init__) (defBody st_InvalidDeed___init__) (defScope st_InvalidDeed___init__) .none kVX7 dcX7 pmX7 anX7 (.ref cdX7) ctX7 ccX7), slX7⟩)
    (lcX7 : K.lookup cdX7 = some ⟨eX7, deX7, .fields vsX7, sX7⟩)
    (h2X7 : vsX7[2]? = some (.str fileX7 tfX7))
    (hfX7 : ((l.prog.main.file : Str) == fileX7) = true)
    (lccX7 : K.lookup ccX7 = some ⟨clX7, cldX7, .cell (some (.ref CX7)), cslX7⟩)
    (cc'X7 : PySem.W.codeIn K (.ref cdX7) "InvalidDeed.__init__" = true)
    (xfX7 : xfB K CX7 = true)
    (noX7 : noB K CX7 NOSX = true)
    (aX8 : PySem.W.nsIn K mainGlobals "InvalidName" = some (some (.ref CX8)))
    (lX8 : K.lookup CX8 = some (excClassObj nmX8 qX8 CX8 NX8 bsX8 bmX8 true snX8 subX8 abX8 colX8 ddX8 k0X8 k1X8 k2X8 k3X8 k5X8 "ValueError.__new__"))
    (rvX8 : PySem.W.excTail [.type "ValueError", .type "Exception", .type "BaseException", .type "object"] bmX8 = true)
    (obX8 : oxB K "ValueError" CX8 = true)
    (iX8 : PySem.W.findIn K (.ref CX8) "__init__" = some (some (.ref fX8)))
    (tiX8 : PySem.W.typeIn K (.ref fX8) = some (.type "function"))
    (lfX8 : K.lookup fX8 = some ⟨ocX8, odX8, .func (PySem.W.ksFn "__init__" "InvalidName.__init__" (defArgs st_InvalidName___init__) (defBody st_InvalidName___init__) (defScope st_InvalidName___init__) .none kVX8 dcX8 pmX8 anX8 (.ref cdX8) ctX8 ccX8), slX8⟩)
    (lcX8 : K.lookup cdX8 = some ⟨eX8, deX8, .fields vsX8, sX8⟩)
    (h2X8 : vsX8[2]? = some (.str fileX8 tfX8))
    (hfX8 : ((l.prog.main.file : Str) == fileX8) = true)
    (lccX8 : K.lookup ccX8 = some ⟨clX8, cldX8, .cell (some (.ref CX8)), cslX8⟩)
    (cc'X8 : PySem.W.codeIn K (.ref cdX8) "InvalidName.__init__" = true)
    (xfX8 : xfB K CX8 = true)
    (noX8 : noB K CX8 NOSX = true)
    (aX9 : PySem.W.nsIn K mainGlobals "DuplicateName" = some (some (.ref CX9)))
    (lX9 : K.lookup CX9 = some (excClassObj nmX9 qX9 CX9 NX9 bsX9 bmX9 true snX9 subX9 abX9 colX9 ddX9 k0X9 k1X9 k2X9 k3X9 k5X9 "ValueError.__new__"))
    (rvX9 : PySem.W.excTail [.type "ValueError", .type "Exception", .type "BaseException", .type "object"] bmX9 = true)
    (obX9 : oxB K "ValueError" CX9 = true)
    (iX9 : PySem.W.findIn K (.ref CX9) "__init__" = some (some (.ref fX9)))
    (tiX9 : PySem.W.typeIn K (.ref fX9) = some (.type "function"))
    (lfX9 : K.lookup fX9 = some ⟨ocX9, odX9, .func (PySem.W.ksFn "__init__" "DuplicateName.__init__" (defArgs st_DuplicateName___init__) (defBody st_DuplicateName___init__) (defScope st_DuplicateName___init__) .none kVX9 dcX9 pmX9 anX9 (.ref cdX9) ctX9 ccX9), slX9⟩)
    (lcX9 : K.lookup cdX9 = some ⟨eX9, deX9, .fields vsX9, sX9⟩)
    (h2X9 : vsX9[2]? = some (.str fileX9 tfX9))
    (hfX9 : ((l.prog.main.file : Str) == fileX9) = true)
    (lccX9 : K.lookup ccX9 = some ⟨clX9, cldX9, .cell (some (.ref CX9)), cslX9⟩)
    (cc'X9 : PySem.W.codeIn K (.ref cdX9) "DuplicateName.__init__" = true)
    (xfX9 : xfB K CX9 = true)
    (noX9 : noB K CX9 NOSX = true)
    (aX10 : PySem.W.nsIn K mainGlobals "SplitSide" = some (some (.ref CX10)))
    (lX10 : K.lookup CX10 = some (excClassObj nmX10 qX10 CX10 NX10 bsX10 bmX10 true snX10 subX10 abX10 colX10 ddX10 k0X10 k1X10 k2X10 k3X10 k5X10 "ValueError.__new__"))
    (rvX10 : PySem.W.excTail [.type "ValueError", .type "Exception", .type "BaseException", .type "object"] bmX10 = true)
    (obX10 : oxB K "ValueError" CX10 = true)
    (iX10 : PySem.W.findIn K (.ref CX10) "__init__" = some (some (.ref fX10)))
    (tiX10 : PySem.W.typeIn K (.ref fX10) = some (.type "function"))
    (lfX10 : K.lookup fX10 = some ⟨ocX10, odX10, .func (PySem.W.ksFn "__init__" "SplitSide.__init__" (defArgs st_SplitSide___init__) (defBody st_SplitSide___init__) (defScope st_SplitSide___init__) .none kVX10 dcX10 pmX10 anX10 (.ref cdX10) ctX10 ccX10), slX10⟩)
    (lcX10 : K.lookup cdX10 = some ⟨eX10, deX10, .fields vsX10, sX10⟩)
    (h2X10 : vsX10[2]? = some (.str fileX10 tfX10))
    (hfX10 : ((l.prog.main.file : Str) == fileX10) = true)
    (lccX10 : K.lookup ccX10 = some ⟨clX10, cldX10, .cell (some (.ref CX10)), cslX10⟩)
    (cc'X10 : PySem.W.codeIn K (.ref cdX10) "SplitSide.__init__" = true)
    (xfX10 : xfB K CX10 = true)
    (noX10 : noB K CX10 NOSX = true)
    (aX11 : PySem.W.nsIn K mainGlobals "InvalidWall" = some (some (.ref CX11)))
    (lX11 : K.lookup CX11 = some (excClassObj nmX11 qX11 CX11 NX11 bsX11 bmX11 true snX11 subX11 abX11 colX11 ddX11 k0X11 k1X11 k2X11 k3X11 k5X11 "ValueError.__new__"))
    (rvX11 : PySem.W.excTail [.type "ValueError", .type "Exception", .type "BaseException", .type "object"] bmX11 = true)
    (obX11 : oxB K "ValueError" CX11 = true)
    (iX11 : PySem.W.findIn K (.ref CX11) "__init__" = some (some (.ref fX11)))
    (tiX11 : PySem.W.typeIn K (.ref fX11) = some (.type "function"))
    (lfX11 : K.lookup fX11 = some ⟨ocX11, odX11, .func (PySem.W.ksFn "__init__" "InvalidWall.__init__" (defArgs st_InvalidWall___init__) (defBody st_InvalidWall___init__) (defScope st_InvalidWall___init__) .none kVX11 dcX11 pmX11 anX11 (.ref cdX11) ctX11 ccX11), slX11⟩)
    (lcX11 : K.lookup cdX11 = some ⟨eX11, deX11, .fields vsX11, sX11⟩)
    (h2X11 : vsX11[2]? = some (.str fileX11 tfX11))
    (hfX11 : ((l.prog.main.file : Str) == fileX11) = true)
    (lccX11 : K.lookup ccX11 = some ⟨clX11, cldX11, .cell (some (.ref CX11)), cslX11⟩)
    (cc'X11 : PySem.W.codeIn K (.ref cdX11) "InvalidWall.__init__" = true)
    (xfX11 : xfB K CX11 = true)
    (noX11 : noB K CX11 NOSX = true)
    (aX12 : PySem.W.nsIn K mainGlobals "MarkedSide" = some (some (.ref CX12)))
    (lX12 : K.lookup CX12 = some (excClassObj nmX12 qX12 CX12 NX12 bsX12 bmX12 true snX12 subX12 abX12 colX12 ddX12 k0X12 k1X12 k2X12 k3X12 k5X12 "ValueError.__new__"))
    (rvX12 : PySem.W.excTail [.type "ValueError", .type "Exception", .type "BaseException", .type "object"] bmX12 = true)
    (obX12 : oxB K "ValueError" CX12 = true)
    (iX12 : PySem.W.findIn K (.ref CX12) "__init__" = some (some (.ref fX12)))
    (tiX12 : PySem.W.typeIn K (.ref fX12) = some (.type "function"))
    (lfX12 : K.lookup fX12 = some ⟨ocX12, odX12, .func (PySem.W.ksFn "__init__" "MarkedSide.__init__" (defArgs st_MarkedSide___init__) (defBody st_MarkedSide___init__) (defScope st_MarkedSide___init__) .none kVX12 dcX12 pmX12 anX12 (.ref cdX12) ctX12 ccX12), slX12⟩)
    (lcX12 : K.lookup cdX12 = some ⟨eX12, deX12, .fields vsX12, sX12⟩)
    (h2X12 : vsX12[2]? = some (.str fileX12 tfX12))
    (hfX12 : ((l.prog.main.file : Str) == fileX12) = true)
    (lccX12 : K.lookup ccX12 = some ⟨clX12, cldX12, .cell (some (.ref CX12)), cslX12⟩)
    (cc'X12 : PySem.W.codeIn K (.ref cdX12) "MarkedSide.__init__" = true)
    (xfX12 : xfB K CX12 = true)
    (noX12 : noB K CX12 NOSX = true)
    (aX13 : PySem.W.nsIn K mainGlobals "TooMany" = some (some (.ref CX13)))
    (lX13 : K.lookup CX13 = some (excClassObj nmX13 qX13 CX13 NX13 bsX13 bmX13 true snX13 subX13 abX13 colX13 ddX13 k0X13 k1X13 k2X13 k3X13 k5X13 "ValueError.__new__"))
    (rvX13 : PySem.W.excTail [.type "ValueError", .type "Exception", .type "BaseException", .type "object"] bmX13 = true)
    (obX13 : oxB K "ValueError" CX13 = true)
    (iX13 : PySem.W.findIn K (.ref CX13) "__init__" = some (some (.ref fX13)))
    (tiX13 : PySem.W.typeIn K (.ref fX13) = some (.type "function"))
    (lfX13 : K.lookup fX13 = some ⟨ocX13, odX13, .func (PySem.W.ksFn "__init__" "TooMany.__init__" (defArgs st_TooMany___init__) (defBody st_TooMany___init__) (defScope st_TooMany___init__) .none kVX13 dcX13 pmX13 anX13 (.ref cdX13) ctX13 ccX13), slX13⟩)
    (lcX13 : K.lookup cdX13 = some ⟨eX13, deX13, .fields vsX13, sX13⟩)
    (h2X13 : vsX13[2]? = some (.str fileX13 tfX13))
    (hfX13 : ((l.prog.main.file : Str) == fileX13) = true)
    (lccX13 : K.lookup ccX13 = some ⟨clX13, cldX13, .cell (some (.ref CX13)), cslX13⟩)
    (cc'X13 : PySem.W.codeIn K (.ref cdX13) "TooMany.__init__" = true)
    (xfX13 : xfB K CX13 = true)
    (noX13 : noB K CX13 NOSX = true)
    (aX14 : PySem.W.nsIn K mainGlobals "TooFar" = some (some (.ref CX14)))
    (lX14 : K.lookup CX14 = some (excClassObj nmX14 qX14 CX14 NX14 bsX14 bmX14 true snX14 subX14 abX14 colX14 ddX14 k0X14 k1X14 k2X14 k3X14 k5X14 "ValueError.__new__"))
    (rvX14 : PySem.W.excTail [.type "ValueError", .type "Exception", .type "BaseException", .type "object"] bmX14 = true)
    (obX14 : oxB K "ValueError" CX14 = true)
    (iX14 : PySem.W.findIn K (.ref CX14) "__init__" = some (some (.ref fX14)))
    (tiX14 : PySem.W.typeIn K (.ref fX14) = some (.type "function"))
    (lfX14 : K.lookup fX14 = some ⟨ocX14, odX14, .func (PySem.W.ksFn "__init__" "TooFar.__init__" (defArgs st_TooFar___init__) (defBody st_TooFar___init__) (defScope st_TooFar___init__) .none kVX14 dcX14 pmX14 anX14 (.ref cdX14) ctX14 ccX14), slX14⟩)
    (lcX14 : K.lookup cdX14 = some ⟨eX14, deX14, .fields vsX14, sX14⟩)
    (h2X14 : vsX14[2]? = some (.str fileX14 tfX14))
    (hfX14 : ((l.prog.main.file : Str) == fileX14) = true)
    (lccX14 : K.lookup ccX14 = some ⟨clX14, cldX14, .cell (some (.ref CX14)), cslX14⟩)
    (cc'X14 : PySem.W.codeIn K (.ref cdX14) "TooFar.__init__" = true)
    (xfX14 : xfB K CX14 = true)
    (noX14 : noB K CX14 NOSX = true)
    (aX15 : PySem.W.nsIn K mainGlobals "InvalidPlace" = some (some (.ref CX15)))
    (lX15 : K.lookup CX15 = some (excClassObj nmX15 qX15 CX15 NX15 bsX15 bmX15 true snX15 subX15 abX15 colX15 ddX15 k0X15 k1X15 k2X15 k3X15 k5X15 "ValueError.__new__"))
    (rvX15 : PySem.W.excTail [.type "ValueError", .type "Exception", .type "BaseException", .type "object"] bmX15 = true)
    (obX15 : oxB K "ValueError" CX15 = true)
    (iX15 : PySem.W.findIn K (.ref CX15) "__init__" = some (some (.ref fX15)))
    (tiX15 : PySem.W.typeIn K (.ref fX15) = some (.type "function"))
    (lfX15 : K.lookup fX15 = some ⟨ocX15, odX15, .func (PySem.W.ksFn "__init__" "InvalidPlace.__init__" (defArgs st_InvalidPlace___init__) (defBody st_InvalidPlace___init__) (defScope st_InvalidPlace___init__) .none kVX15 dcX15 pmX15 anX15 (.ref cdX15) ctX15 ccX15), slX15⟩)
    (lcX15 : K.lookup cdX15 = some ⟨eX15, deX15, .fields vsX15, sX15⟩)
    (h2X15 : vsX15[2]? = some (.str fileX15 tfX15))
    (hfX15 : ((l.prog.main.file : Str) == fileX15) = true)
    (lccX15 : K.lookup ccX15 = some ⟨clX15, cldX15, .cell (some (.ref CX15)), cslX15⟩)
    (cc'X15 : PySem.W.codeIn K (.ref cdX15) "InvalidPlace.__init__" = true)
    (xfX15 : xfB K CX15 = true)
    (noX15 : noB K CX15 NOSX = true)
    (aX16 : PySem.W.nsIn K mainGlobals "InvalidRound" = some (some (.ref CX16)))
    (lX16 : K.lookup CX16 = some (excClassObj nmX16 qX16 CX16 NX16 bsX16 bmX16 true snX16 subX16 abX16 colX16 ddX16 k0X16 k1X16 k2X16 k3X16 k5X16 "ValueError.__new__"))
    (rvX16 : PySem.W.excTail [.type "ValueError", .type "Exception", .type "BaseException", .type "object"] bmX16 = true)
    (obX16 : oxB K "ValueError" CX16 = true)
    (iX16 : PySem.W.findIn K (.ref CX16) "__init__" = some (some (.ref fX16)))
    (tiX16 : PySem.W.typeIn K (.ref fX16) = some (.type "function"))
    (lfX16 : K.lookup fX16 = some ⟨ocX16, odX16, .func (PySem.W.ksFn "__init__" "InvalidRound.__init__" (defArgs st_InvalidRound___init__) (defBody st_InvalidRound___init__) (defScope st_InvalidRound___init__) .none kVX16 dcX16 pmX16 anX16 (.ref cdX16) ctX16 ccX16), slX16⟩)
    (lcX16 : K.lookup cdX16 = some ⟨eX16, deX16, .fields vsX16, sX16⟩)
    (h2X16 : vsX16[2]? = some (.str fileX16 tfX16))
    (hfX16 : ((l.prog.main.file : Str) == fileX16) = true)
    (lccX16 : K.lookup ccX16 = some ⟨clX16, cldX16, .cell (some (.ref CX16)), cslX16⟩)
    (cc'X16 : PySem.W.codeIn K (.ref cdX16) "InvalidRound.__init__" = true)
    (xfX16 : xfB K CX16 = true)
    (noX16 : noB K CX16 NOSX = true)
    (aX17 : PySem.W.nsIn K mainGlobals "LooseCorner" = some (some (.ref CX17)))
    (lX17 : K.lookup CX17 = some (excClassObj nmX17 qX17 CX17 NX17 bsX17 bmX17 true snX17 subX17 abX17 colX17 ddX17 k0X17 k1X17 k2X17 k3X17 k5X17 "ValueError.__new__"))
    (rvX17 : PySem.W.excTail [.type "ValueError", .type "Exception", .type "BaseException", .type "object"] bmX17 = true)
    (obX17 : oxB K "ValueError" CX17 = true)
    (iX17 : PySem.W.findIn K (.ref CX17) "__init__" = some (some (.ref fX17)))
    (tiX17 : PySem.W.typeIn K (.ref fX17) = some (.type "function"))
    (lfX17 : K.lookup fX17 = some ⟨ocX17, odX17, .func (PySem.W.ksFn "__init__" "LooseCorner.__init__" (defArgs st_LooseCorner___init__) (defBody st_LooseCorner___init__) (defScope st_LooseCorner___init__) .none kVX17 dcX17 pmX17 anX17 (.ref cdX17) ctX17 ccX17), slX17⟩)
    (lcX17 : K.lookup cdX17 = some ⟨eX17, deX17, .fields vsX17, sX17⟩)
    (h2X17 : vsX17[2]? = some (.str fileX17 tfX17))
    (hfX17 : ((l.prog.main.file : Str) == fileX17) = true)
    (lccX17 : K.lookup ccX17 = some ⟨clX17, cldX17, .cell (some (.ref CX17)), cslX17⟩)
    (cc'X17 : PySem.W.codeIn K (.ref cdX17) "LooseCorner.__init__" = true)
    (xfX17 : xfB K CX17 = true)
    (noX17 : noB K CX17 NOSX = true)
    (aX18 : PySem.W.nsIn K mainGlobals "Overlap" = some (some (.ref CX18)))
    (lX18 : K.lookup CX18 = some (excClassObj nmX18 qX18 CX18 NX18 bsX18 bmX18 true snX18 subX18 abX18 colX18 ddX18 k0X18 k1X18 k2X18 k3X18 k5X18 "ValueError.__new__"))
    (rvX18 : PySem.W.excTail [.type "ValueError", .type "Exception", .type "BaseException", .type "object"] bmX18 = true)
    (obX18 : oxB K "ValueError" CX18 = true)
    (iX18 : PySem.W.findIn K (.ref CX18) "__init__" = some (some (.ref fX18)))
    (tiX18 : PySem.W.typeIn K (.ref fX18) = some (.type "function"))
    (lfX18 : K.lookup fX18 = some ⟨ocX18, odX18, .func (PySem.W.ksFn "__init__" "Overlap.__init__" (defArgs st_Overlap___init__) (defBody st_Overlap___init__) (defScope st_Overlap___init__) .none kVX18 dcX18 pmX18 anX18 (.ref cdX18) ctX18 ccX18), slX18⟩)
    (lcX18 : K.lookup cdX18 = some ⟨eX18, deX18, .fields vsX18, sX18⟩)
    (h2X18 : vsX18[2]? = some (.str fileX18 tfX18))
    (hfX18 : ((l.prog.main.file : Str) == fileX18) = true)
    (lccX18 : K.lookup ccX18 = some ⟨clX18, cldX18, .cell (some (.ref CX18)), cslX18⟩)
    (cc'X18 : PySem.W.codeIn K (.ref cdX18) "Overlap.__init__" = true)
    (xfX18 : xfB K CX18 = true)
    (noX18 : noB K CX18 NOSX = true)
    (aX19 : PySem.W.nsIn K mainGlobals "InvalidChord" = some (some (.ref CX19)))
    (lX19 : K.lookup CX19 = some (excClassObj nmX19 qX19 CX19 NX19 bsX19 bmX19 true snX19 subX19 abX19 colX19 ddX19 k0X19 k1X19 k2X19 k3X19 k5X19 "ValueError.__new__"))
    (rvX19 : PySem.W.excTail [.type "ValueError", .type "Exception", .type "BaseException", .type "object"] bmX19 = true)
    (obX19 : oxB K "ValueError" CX19 = true)
    (iX19 : PySem.W.findIn K (.ref CX19) "__init__" = some (some (.ref fX19)))
    (tiX19 : PySem.W.typeIn K (.ref fX19) = some (.type "function"))
    (lfX19 : K.lookup fX19 = some ⟨ocX19, odX19, .func (PySem.W.ksFn "__init__" "InvalidChord.__init__" (defArgs st_InvalidChord___init__) (defBody st_InvalidChord___init__) (defScope st_InvalidChord___init__) .none kVX19 dcX19 pmX19 anX19 (.ref cdX19) ctX19 ccX19), slX19⟩)
    (lcX19 : K.lookup cdX19 = some ⟨eX19, deX19, .fields vsX19, sX19⟩)
    (h2X19 : vsX19[2]? = some (.str fileX19 tfX19))
    (hfX19 : ((l.prog.main.file : Str) == fileX19) = true)
    (lccX19 : K.lookup ccX19 = some ⟨clX19, cldX19, .cell (some (.ref CX19)), cslX19⟩)
    (cc'X19 : PySem.W.codeIn K (.ref cdX19) "InvalidChord.__init__" = true)
    (xfX19 : xfB K CX19 = true)
    (noX19 : noB K CX19 NOSX = true)
    (aX20 : PySem.W.nsIn K mainGlobals "NotJoined" = some (some (.ref CX20)))
    (lX20 : K.lookup CX20 = some (excClassObj nmX20 qX20 CX20 NX20 bsX20 bmX20 true snX20 subX20 abX20 colX20 ddX20 k0X20 k1X20 k2X20 k3X20 k5X20 "ValueError.__new__"))
    (rvX20 : PySem.W.excTail [.type "ValueError", .type "Exception", .type "BaseException", .type "object"] bmX20 = true)
    (obX20 : oxB K "ValueError" CX20 = true)
    (iX20 : PySem.W.findIn K (.ref CX20) "__init__" = some (some (.ref fX20)))
    (tiX20 : PySem.W.typeIn K (.ref fX20) = some (.type "function"))
    (lfX20 : K.lookup fX20 = some ⟨ocX20, odX20, .func (PySem.W.ksFn "__init__" "NotJoined.__init__" (defArgs st_NotJoined___init__) (defBody st_NotJoined___init__) (defScope st_NotJoined___init__) .none kVX20 dcX20 pmX20 anX20 (.ref cdX20) ctX20 ccX20), slX20⟩)
    (lcX20 : K.lookup cdX20 = some ⟨eX20, deX20, .fields vsX20, sX20⟩)
    (h2X20 : vsX20[2]? = some (.str fileX20 tfX20))
    (hfX20 : ((l.prog.main.file : Str) == fileX20) = true)
    (lccX20 : K.lookup ccX20 = some ⟨clX20, cldX20, .cell (some (.ref CX20)), cslX20⟩)
    (cc'X20 : PySem.W.codeIn K (.ref cdX20) "NotJoined.__init__" = true)
    (xfX20 : xfB K CX20 = true)
    (noX20 : noB K CX20 NOSX = true)
    (aX21 : PySem.W.nsIn K mainGlobals "NotConvex" = some (some (.ref CX21)))
    (lX21 : K.lookup CX21 = some (excClassObj nmX21 qX21 CX21 NX21 bsX21 bmX21 true snX21 subX21 abX21 colX21 ddX21 k0X21 k1X21 k2X21 k3X21 k5X21 "ValueError.__new__"))
    (rvX21 : PySem.W.excTail [.type "ValueError", .type "Exception", .type "BaseException", .type "object"] bmX21 = true)
    (obX21 : oxB K "ValueError" CX21 = true)
    (iX21 : PySem.W.findIn K (.ref CX21) "__init__" = some (some (.ref fX21)))
    (tiX21 : PySem.W.typeIn K (.ref fX21) = some (.type "function"))
    (lfX21 : K.lookup fX21 = some ⟨ocX21, odX21, .func (PySem.W.ksFn "__init__" "NotConvex.__init__" (defArgs st_NotConvex___init__) (defBody st_NotConvex___init__) (defScope st_NotConvex___init__) .none kVX21 dcX21 pmX21 anX21 (.ref cdX21) ctX21 ccX21), slX21⟩)
    (lcX21 : K.lookup cdX21 = some ⟨eX21, deX21, .fields vsX21, sX21⟩)
    (h2X21 : vsX21[2]? = some (.str fileX21 tfX21))
    (hfX21 : ((l.prog.main.file : Str) == fileX21) = true)
    (lccX21 : K.lookup ccX21 = some ⟨clX21, cldX21, .cell (some (.ref CX21)), cslX21⟩)
    (cc'X21 : PySem.W.codeIn K (.ref cdX21) "NotConvex.__init__" = true)
    (xfX21 : xfB K CX21 = true)
    (noX21 : noB K CX21 NOSX = true)
    (aX22 : PySem.W.nsIn K mainGlobals "InvalidWinds" = some (some (.ref CX22)))
    (lX22 : K.lookup CX22 = some (excClassObj nmX22 qX22 CX22 NX22 bsX22 bmX22 true snX22 subX22 abX22 colX22 ddX22 k0X22 k1X22 k2X22 k3X22 k5X22 "ValueError.__new__"))
    (rvX22 : PySem.W.excTail [.type "ValueError", .type "Exception", .type "BaseException", .type "object"] bmX22 = true)
    (obX22 : oxB K "ValueError" CX22 = true)
    (iX22 : PySem.W.findIn K (.ref CX22) "__init__" = some (some (.ref fX22)))
    (tiX22 : PySem.W.typeIn K (.ref fX22) = some (.type "function"))
    (lfX22 : K.lookup fX22 = some ⟨ocX22, odX22, .func (PySem.W.ksFn "__init__" "InvalidWinds.__init__" (defArgs st_InvalidWinds___init__) (defBody st_InvalidWinds___init__) (defScope st_InvalidWinds___init__) .none kVX22 dcX22 pmX22 anX22 (.ref cdX22) ctX22 ccX22), slX22⟩)
    (lcX22 : K.lookup cdX22 = some ⟨eX22, deX22, .fields vsX22, sX22⟩)
    (h2X22 : vsX22[2]? = some (.str fileX22 tfX22))
    (hfX22 : ((l.prog.main.file : Str) == fileX22) = true)
    (lccX22 : K.lookup ccX22 = some ⟨clX22, cldX22, .cell (some (.ref CX22)), cslX22⟩)
    (cc'X22 : PySem.W.codeIn K (.ref cdX22) "InvalidWinds.__init__" = true)
    (xfX22 : xfB K CX22 = true)
    (noX22 : noB K CX22 NOSX = true)
    (aX23 : PySem.W.nsIn K mainGlobals "UnknownTile" = some (some (.ref CX23)))
    (lX23 : K.lookup CX23 = some (excClassObj nmX23 qX23 CX23 NX23 bsX23 bmX23 true snX23 subX23 abX23 colX23 ddX23 k0X23 k1X23 k2X23 k3X23 k5X23 "LookupError.__new__"))
    (rvX23 : PySem.W.excTail [.type "LookupError", .type "Exception", .type "BaseException", .type "object"] bmX23 = true)
    (obX23 : oxB K "LookupError" CX23 = true)
    (iX23 : PySem.W.findIn K (.ref CX23) "__init__" = some (some (.ref fX23)))
    (tiX23 : PySem.W.typeIn K (.ref fX23) = some (.type "function"))
    (lfX23 : K.lookup fX23 = some ⟨ocX23, odX23, .func (PySem.W.ksFn "__init__" "UnknownTile.__init__" (defArgs st_UnknownTile___init__) (defBody st_UnknownTile___init__) (defScope st_UnknownTile___init__) .none kVX23 dcX23 pmX23 anX23 (.ref cdX23) ctX23 ccX23), slX23⟩)
    (lcX23 : K.lookup cdX23 = some ⟨eX23, deX23, .fields vsX23, sX23⟩)
    (h2X23 : vsX23[2]? = some (.str fileX23 tfX23))
    (hfX23 : ((l.prog.main.file : Str) == fileX23) = true)
    (lccX23 : K.lookup ccX23 = some ⟨clX23, cldX23, .cell (some (.ref CX23)), cslX23⟩)
    (cc'X23 : PySem.W.codeIn K (.ref cdX23) "UnknownTile.__init__" = true)
    (xfX23 : xfB K CX23 = true)
    (noX23 : noB K CX23 NOSX = true)
    (aX24 : PySem.W.nsIn K mainGlobals "UnknownSide" = some (some (.ref CX24)))
    (lX24 : K.lookup CX24 = some (excClassObj nmX24 qX24 CX24 NX24 bsX24 bmX24 true snX24 subX24 abX24 colX24 ddX24 k0X24 k1X24 k2X24 k3X24 k5X24 "LookupError.__new__"))
    (rvX24 : PySem.W.excTail [.type "LookupError", .type "Exception", .type "BaseException", .type "object"] bmX24 = true)
    (obX24 : oxB K "LookupError" CX24 = true)
    (iX24 : PySem.W.findIn K (.ref CX24) "__init__" = some (some (.ref fX24)))
    (tiX24 : PySem.W.typeIn K (.ref fX24) = some (.type "function"))
    (lfX24 : K.lookup fX24 = some ⟨ocX24, odX24, .func (PySem.W.ksFn "__init__" "UnknownSide.__init__" (defArgs st_UnknownSide___init__) (defBody st_UnknownSide___init__) (defScope st_UnknownSide___init__) .none kVX24 dcX24 pmX24 anX24 (.ref cdX24) ctX24 ccX24), slX24⟩)
    (lcX24 : K.lookup cdX24 = some ⟨eX24, deX24, .fields vsX24, sX24⟩)
    (h2X24 : vsX24[2]? = some (.str fileX24 tfX24))
    (hfX24 : ((l.prog.main.file : Str) == fileX24) = true)
    (lccX24 : K.lookup ccX24 = some ⟨clX24, cldX24, .cell (some (.ref CX24)), cslX24⟩)
    (cc'X24 : PySem.W.codeIn K (.ref cdX24) "UnknownSide.__init__" = true)
    (xfX24 : xfB K CX24 = true)
    (noX24 : noB K CX24 NOSX = true)
    (aX25 : PySem.W.nsIn K mainGlobals "UnknownMark" = some (some (.ref CX25)))
    (lX25 : K.lookup CX25 = some (excClassObj nmX25 qX25 CX25 NX25 bsX25 bmX25 true snX25 subX25 abX25 colX25 ddX25 k0X25 k1X25 k2X25 k3X25 k5X25 "LookupError.__new__"))
    (rvX25 : PySem.W.excTail [.type "LookupError", .type "Exception", .type "BaseException", .type "object"] bmX25 = true)
    (obX25 : oxB K "LookupError" CX25 = true)
    (iX25 : PySem.W.findIn K (.ref CX25) "__init__" = some (some (.ref fX25)))
    (tiX25 : PySem.W.typeIn K (.ref fX25) = some (.type "function"))
    (lfX25 : K.lookup fX25 = some ⟨ocX25, odX25, .func (PySem.W.ksFn "__init__" "UnknownMark.__init__" (defArgs st_UnknownMark___init__) (defBody st_UnknownMark___init__) (defScope st_UnknownMark___init__) .none kVX25 dcX25 pmX25 anX25 (.ref cdX25) ctX25 ccX25), slX25⟩)
    (lcX25 : K.lookup cdX25 = some ⟨eX25, deX25, .fields vsX25, sX25⟩)
    (h2X25 : vsX25[2]? = some (.str fileX25 tfX25))
    (hfX25 : ((l.prog.main.file : Str) == fileX25) = true)
    (lccX25 : K.lookup ccX25 = some ⟨clX25, cldX25, .cell (some (.ref CX25)), cslX25⟩)
    (cc'X25 : PySem.W.codeIn K (.ref cdX25) "UnknownMark.__init__" = true)
    (xfX25 : xfB K CX25 = true)
    (noX25 : noB K CX25 NOSX = true)
    (aX26 : PySem.W.nsIn K mainGlobals "NothingLeft" = some (some (.ref CX26)))
    (lX26 : K.lookup CX26 = some (excClassObj nmX26 qX26 CX26 NX26 bsX26 bmX26 true snX26 subX26 abX26 colX26 ddX26 k0X26 k1X26 k2X26 k3X26 k5X26 "IndexError.__new__"))
    (rvX26 : PySem.W.excTail [.type "IndexError", .type "LookupError", .type "Exception", .type "BaseException", .type "object"] bmX26 = true)
    (obX26 : oxB K "IndexError" CX26 = true)
    (iX26 : PySem.W.findIn K (.ref CX26) "__init__" = some (some (.ref fX26)))
    (tiX26 : PySem.W.typeIn K (.ref fX26) = some (.type "function"))
    (lfX26 : K.lookup fX26 = some ⟨ocX26, odX26, .func (PySem.W.ksFn "__init__" "NothingLeft.__init__" (defArgs st_NothingLeft___init__) (defBody st_NothingLeft___init__) (defScope st_NothingLeft___init__) .none kVX26 dcX26 pmX26 anX26 (.ref cdX26) ctX26 ccX26), slX26⟩)
    (lcX26 : K.lookup cdX26 = some ⟨eX26, deX26, .fields vsX26, sX26⟩)
    (h2X26 : vsX26[2]? = some (.str fileX26 tfX26))
    (hfX26 : ((l.prog.main.file : Str) == fileX26) = true)
    (lccX26 : K.lookup ccX26 = some ⟨clX26, cldX26, .cell (some (.ref CX26)), cslX26⟩)
    (cc'X26 : PySem.W.codeIn K (.ref cdX26) "NothingLeft.__init__" = true)
    (xfX26 : xfB K CX26 = true)
    (noX26 : noB K CX26 NOSX = true)
    (isX0 : isB K CX0 [((.ref CX13), false), ((.ref CX8), false), ((.ref CX4), false), ((.ref CX15), false), ((.ref CX1), false), ((.ref CX11), false), ((.ref CX25), false), ((.ref GE), true), ((.type "ValueError"), true), ((.ref MI), false), ((.type "LookupError"), false), ((.type "IndexError"), false)] = true)
    (isX1 : isB K CX1 [((.ref CX13), false), ((.ref CX8), false), ((.ref CX4), false), ((.ref CX15), false), ((.ref CX1), true), ((.ref CX11), false), ((.ref CX25), false), ((.ref GE), true), ((.type "ValueError"), true), ((.ref MI), false), ((.type "LookupError"), false), ((.type "IndexError"), false)] = true)
    (isX2 : isB K CX2 [((.ref CX13), false), ((.ref CX8), false), ((.ref CX4), false), ((.ref CX15), false), ((.ref CX1), false), ((.ref CX11), false), ((.ref CX25), false), ((.ref GE), true), ((.type "ValueError"), true), ((.ref MI), false), ((.type "LookupError"), false), ((.type "IndexError"), false)] = true)
    (isX3 : isB K CX3 [((.ref CX13), false), ((.ref CX8), false), ((.ref CX4), false), ((.ref CX15), false), ((.ref CX1), false), ((.ref CX11), false), ((.ref CX25), false), ((.ref GE), true), ((.type "ValueError"), true), ((.ref MI), false), ((.type "LookupError"), false), ((.type "IndexError"), false)] = true)
    (isX4 : isB K CX4 [((.ref CX13), false), ((.ref CX8), false), ((.ref CX4), true), ((.ref CX15), false), ((.ref CX1), false), ((.ref CX11), false), ((.ref CX25), false), ((.ref GE), true), ((.type "ValueError"), true), ((.ref MI), false), ((.type "LookupError"), false), ((.type "IndexError"), false)] = true)
    (isX5 : isB K CX5 [((.ref CX13), false), ((.ref CX8), false), ((.ref CX4), false), ((.ref CX15), false), ((.ref CX1), false), ((.ref CX11), false), ((.ref CX25), false), ((.ref GE), true), ((.type "ValueError"), true), ((.ref MI), false), ((.type "LookupError"), false), ((.type "IndexError"), false)] = true)
    (isX6 : isB K CX6 [((.ref CX13), false), ((.ref CX8), false), ((.ref CX4), false), ((.ref CX15), false), ((.ref CX1), false), ((.ref CX11), false), ((.ref CX25), false), ((.ref GE), true), ((.type "ValueError"), true), ((.ref MI), false), ((.type "LookupError"), false), ((.type "IndexError"), false)] = true)
    (isX7 : isB K CX7 [((.ref CX13), false), ((.ref CX8), false), ((.ref CX4), false), ((.ref CX15), false), ((.ref CX1), false), ((.ref CX11), false), ((.ref CX25), false), ((.ref GE), true), ((.type "ValueError"), true), ((.ref MI), false), ((.type "LookupError"), false), ((.type "IndexError"), false)] = true)
    (isX8 : isB K CX8 [((.ref CX13), false), ((.ref CX8), true), ((.ref CX4), false), ((.ref CX15), false), ((.ref CX1), false), ((.ref CX11), false), ((.ref CX25), false), ((.ref GE), true), ((.type "ValueError"), true), ((.ref MI), false), ((.type "LookupError"), false), ((.type "IndexError"), false)] = true)
    (isX9 : isB K CX9 [((.ref CX13), false), ((.ref CX8), false), ((.ref CX4), false), ((.ref CX15), false), ((.ref CX1), false), ((.ref CX11), false), ((.ref CX25), false), ((.ref GE), true), ((.type "ValueError"), true), ((.ref MI), false), ((.type "LookupError"), false), ((.type "IndexError"), false)] = true)
    (isX10 : isB K CX10 [((.ref CX13), false), ((.ref CX8), false), ((.ref CX4), false), ((.ref CX15), false), ((.ref CX1), false), ((.ref CX11), false), ((.ref CX25), false), ((.ref GE), true), ((.type "ValueError"), true), ((.ref MI), false), ((.type "LookupError"), false), ((.type "IndexError"), false)] = true)
    (isX11 : isB K CX11 [((.ref CX13), false), ((.ref CX8), false), ((.ref CX4), false), ((.ref CX15), false), ((.ref CX1), false), ((.ref CX11), true), ((.ref CX25), false), ((.ref GE), true), ((.type "ValueError"), true), ((.ref MI), false), ((.type "LookupError"), false), ((.type "IndexError"), false)] = true)
    (isX12 : isB K CX12 [((.ref CX13), false), ((.ref CX8), false), ((.ref CX4), false), ((.ref CX15), false), ((.ref CX1), false), ((.ref CX11), false), ((.ref CX25), false), ((.ref GE), true), ((.type "ValueError"), true), ((.ref MI), false), ((.type "LookupError"), false), ((.type "IndexError"), false)] = true)
    (isX13 : isB K CX13 [((.ref CX13), true), ((.ref CX8), false), ((.ref CX4), false), ((.ref CX15), false), ((.ref CX1), false), ((.ref CX11), false), ((.ref CX25), false), ((.ref GE), true), ((.type "ValueError"), true), ((.ref MI), false), ((.type "LookupError"), false), ((.type "IndexError"), false)] = true)
    (isX14 : isB K CX14 [((.ref CX13), false), ((.ref CX8), false), ((.ref CX4), false), ((.ref CX15), false), ((.ref CX1), false), ((.ref CX11), false), ((.ref CX25), false), ((.ref GE), true), ((.type "ValueError"), true), ((.ref MI), false), ((.type "LookupError"), false), ((.type "IndexError"), false)] = true)
    (isX15 : isB K CX15 [((.ref CX13), false), ((.ref CX8), false), ((.ref CX4), false), ((.ref CX15), true), ((.ref CX1), false), ((.ref CX11), false), ((.ref CX25), false), ((.ref GE), true), ((.type "ValueError"), true), ((.ref MI), false), ((.type "LookupError"), false), ((.type "IndexError"), false)] = true)
    (isX16 : isB K CX16 [((.ref CX13), false), ((.ref CX8), false), ((.ref CX4), false), ((.ref CX15), false), ((.ref CX1), false), ((.ref CX11), false), ((.ref CX25), false), ((.ref GE), true), ((.type "ValueError"), true), ((.ref MI), false), ((.type "LookupError"), false), ((.type "IndexError"), false)] = true)
    (isX17 : isB K CX17 [((.ref CX13), false), ((.ref CX8), false), ((.ref CX4), false), ((.ref CX15), false), ((.ref CX1), false), ((.ref CX11), false), ((.ref CX25), false), ((.ref GE), true), ((.type "ValueError"), true), ((.ref MI), false), ((.type "LookupError"), false), ((.type "IndexError"), false)] = true)
    (isX18 : isB K CX18 [((.ref CX13), false), ((.ref CX8), false), ((.ref CX4), false), ((.ref CX15), false), ((.ref CX1), false), ((.ref CX11), false), ((.ref CX25), false), ((.ref GE), true), ((.type "ValueError"), true), ((.ref MI), false), ((.type "LookupError"), false), ((.type "IndexError"), false)] = true)
    (isX19 : isB K CX19 [((.ref CX13), false), ((.ref CX8), false), ((.ref CX4), false), ((.ref CX15), false), ((.ref CX1), false), ((.ref CX11), false), ((.ref CX25), false), ((.ref GE), true), ((.type "ValueError"), true), ((.ref MI), false), ((.type "LookupError"), false), ((.type "IndexError"), false)] = true)
    (isX20 : isB K CX20 [((.ref CX13), false), ((.ref CX8), false), ((.ref CX4), false), ((.ref CX15), false), ((.ref CX1), false), ((.ref CX11), false), ((.ref CX25), false), ((.ref GE), true), ((.type "ValueError"), true), ((.ref MI), false), ((.type "LookupError"), false), ((.type "IndexError"), false)] = true)
    (isX21 : isB K CX21 [((.ref CX13), false), ((.ref CX8), false), ((.ref CX4), false), ((.ref CX15), false), ((.ref CX1), false), ((.ref CX11), false), ((.ref CX25), false), ((.ref GE), true), ((.type "ValueError"), true), ((.ref MI), false), ((.type "LookupError"), false), ((.type "IndexError"), false)] = true)
    (isX22 : isB K CX22 [((.ref CX13), false), ((.ref CX8), false), ((.ref CX4), false), ((.ref CX15), false), ((.ref CX1), false), ((.ref CX11), false), ((.ref CX25), false), ((.ref GE), true), ((.type "ValueError"), true), ((.ref MI), false), ((.type "LookupError"), false), ((.type "IndexError"), false)] = true)
    (isX23 : isB K CX23 [((.ref CX13), false), ((.ref CX8), false), ((.ref CX4), false), ((.ref CX15), false), ((.ref CX1), false), ((.ref CX11), false), ((.ref CX25), false), ((.ref GE), false), ((.type "ValueError"), false), ((.ref MI), true), ((.type "LookupError"), true), ((.type "IndexError"), false)] = true)
    (isX24 : isB K CX24 [((.ref CX13), false), ((.ref CX8), false), ((.ref CX4), false), ((.ref CX15), false), ((.ref CX1), false), ((.ref CX11), false), ((.ref CX25), false), ((.ref GE), false), ((.type "ValueError"), false), ((.ref MI), true), ((.type "LookupError"), true), ((.type "IndexError"), false)] = true)
    (isX25 : isB K CX25 [((.ref CX13), false), ((.ref CX8), false), ((.ref CX4), false), ((.ref CX15), false), ((.ref CX1), false), ((.ref CX11), false), ((.ref CX25), true), ((.ref GE), false), ((.type "ValueError"), false), ((.ref MI), true), ((.type "LookupError"), true), ((.type "IndexError"), false)] = true)
    (isX26 : isB K CX26 [((.ref CX13), false), ((.ref CX8), false), ((.ref CX4), false), ((.ref CX15), false), ((.ref CX1), false), ((.ref CX11), false), ((.ref CX25), false), ((.ref GE), false), ((.type "ValueError"), false), ((.ref MI), false), ((.type "LookupError"), true), ((.type "IndexError"), true)] = true)
    : ∃ fd : FuncData, (∀ (s : Shared) (v : Value), BindsTo s fd ⟨[v], []⟩ [("_law_script", v)]) ∧ ∀ base : Heap, K.In base → base.Ns mainGlobals mg → FnOk l.prog w K mg base (L2.CX l.prog w) 18 fa fd ["_law_script"] (spD K 1 ph_law) := by
  cases hfa.symm.trans (PySem.W.mg_of X G a9)
  have F0 := fund_mk (params := defArgs st__law_start) l0 c0 k0
  have F1 := fund_mk (params := defArgs st__law_pull) l1 c1 k1
  have F2 := fund_mk (params := defArgs st__law_pick) l2 c2 k2
  have F3 := fund_mk (params := defArgs st__law_stray) l3 c3 k3
  have F4 := fund_mk (params := defArgs st__law_sort) l4 c4 k4
  have F5 := fund_mk (params := defArgs st__law_same) l5 c5 k5
  have F6 := fund_mk (params := defArgs st__law_fields) l6 c6 k6
  have F7 := fund_mk (params := defArgs st__law_kinds_apart) l7 c7 k7
  have F8 := fund_mk (params := defArgs st__law_errors_so) l8 c8 k8
  have F9 := fund_mk (params := defArgs st_law) l9 c9 k9
  have T : Txt K mg (fun n => match n with | 0 => f0 | 1 => f1 | 2 => f2 | 3 => f3 | 4 => f4 | 5 => f5 | 6 => f6 | 7 => f7 | 8 => f8 | _ => fa) (fun n => match n with | 0 => PySem.W.fnOf "_law_start" "_law_start" (defArgs st__law_start) (defBody st__law_start) (defScope st__law_start) .none kV0 dc0 pm0 an0 cd0 ct0 | 1 => PySem.W.fnOf "_law_pull" "_law_pull" (defArgs st__law_pull) (defBody st__law_pull) (defScope st__law_pull) .none kV1 dc1 pm1 an1 cd1 ct1 | 2 => PySem.W.fnOf "_law_pick" "_law_pick" (defArgs st__law_pick) (defBody st__law_pick) (defScope st__law_pick) .none kV2 dc2 pm2 an2 cd2 ct2 | 3 => PySem.W.fnOf "_law_stray" "_law_stray" (defArgs st__law_stray) (defBody st__law_stray) (defScope st__law_stray) .none kV3 dc3 pm3 an3 cd3 ct3 | 4 => PySem.W.fnOf "_law_sort" "_law_sort" (defArgs st__law_sort) (defBody st__law_sort) (defScope st__law_sort) .none kV4 dc4 pm4 an4 cd4 ct4 | 5 => PySem.W.fnOf "_law_same" "_law_same" (defArgs st__law_same) (defBody st__law_same) (defScope st__law_same) .none kV5 dc5 pm5 an5 cd5 ct5 | 6 => PySem.W.fnOf "_law_fields" "_law_fields" (defArgs st__law_fields) (defBody st__law_fields) (defScope st__law_fields) .none kV6 dc6 pm6 an6 cd6 ct6 | 7 => PySem.W.fnOf "_law_kinds_apart" "_law_kinds_apart" (defArgs st__law_kinds_apart) (defBody st__law_kinds_apart) (defScope st__law_kinds_apart) .none kV7 dc7 pm7 an7 cd7 ct7 | 8 => PySem.W.fnOf "_law_errors_so" "_law_errors_so" (defArgs st__law_errors_so) (defBody st__law_errors_so) (defScope st__law_errors_so) .none kV8 dc8 pm8 an8 cd8 ct8 | _ => PySem.W.fnOf "law" "law" (defArgs st_law) (defBody st_law) (defScope st_law) .none kV9 dc9 pm9 an9 cd9 ct9) (fun _ => 0) :=
    { isi_bool := fun _ h => absurd h List.not_mem_nil,
      isi_int := fun _ h => absurd h List.not_mem_nil,
      isi_list := fun _ h => absurd h List.not_mem_nil,
      isi_str := fun _ h => absurd h List.not_mem_nil,
      isi_tuple := fun _ h => absurd h List.not_mem_nil,
      m__law_start := PySem.W.mg_of X G a0,
      k__law_start := k0,
      F__law_start := F0,
      kb__law_start_1 := kbd_of F0 rfl fun _ _ _ _ _ _ us hl => match us, hl with | [_], _ => rfl,
      m__law_pull := PySem.W.mg_of X G a1,
      k__law_pull := k1,
      F__law_pull := F1,
      kb__law_pull_2 := kbd_of F1 rfl fun _ _ _ _ _ _ us hl => match us, hl with | [_, _], _ => rfl,
      m__law_pick := PySem.W.mg_of X G a2,
      k__law_pick := k2,
      F__law_pick := F2,
      kb__law_pick_2 := kbd_of F2 rfl fun _ _ _ _ _ _ us hl => match us, hl with | [_, _], _ => rfl,
      m__law_stray := PySem.W.mg_of X G a3,
      k__law_stray := k3,
      F__law_stray := F3,
      kb__law_stray_1 := kbd_of F3 rfl fun _ _ _ _ _ _ us hl => match us, hl with | [_], _ => rfl,
      m__law_sort := PySem.W.mg_of X G a4,
      k__law_sort := k4,
      F__law_sort := F4,
      kb__law_sort_1 := kbd_of F4 rfl fun _ _ _ _ _ _ us hl => match us, hl with | [_], _ => rfl,
      m__law_same := PySem.W.mg_of X G a5,
      k__law_same := k5,
      F__law_same := F5,
      kb__law_same_2 := kbd_of F5 rfl fun _ _ _ _ _ _ us hl => match us, hl with | [_, _], _ => rfl,
      m__law_fields := PySem.W.mg_of X G a6,
      k__law_fields := k6,
      F__law_fields := F6,
      kb__law_fields_1 := kbd_of F6 rfl fun _ _ _ _ _ _ us hl => match us, hl with | [_], _ => rfl,
      m__law_kinds_apart := PySem.W.mg_of X G a7,
      k__law_kinds_apart := k7,
      F__law_kinds_apart := F7,
      kb__law_kinds_apart_2 := kbd_of F7 rfl fun _ _ _ _ _ _ us hl => match us, hl with | [_, _], _ => rfl,
      m__law_errors_so := PySem.W.mg_of X G a8,
      k__law_errors_so := k8,
      F__law_errors_so := F8,
      kb__law_errors_so_7 := kbd_of F8 rfl fun _ _ _ _ _ _ us hl => match us, hl with | [_, _, _, _, _, _, _], _ => rfl,
      m_law := PySem.W.mg_of X G a9,
      k_law := k9,
      F_law := F9,
      b_IndexError := PySem.W.mg_none_of X G b_IndexError,
      b_LookupError := PySem.W.mg_none_of X G b_LookupError,
      b_ValueError := PySem.W.mg_none_of X G b_ValueError,
      b_all := PySem.W.mg_none_of X G b_all,
      b_bool := PySem.W.mg_none_of X G b_bool,
      b_int := PySem.W.mg_none_of X G b_int,
      b_isinstance := PySem.W.mg_none_of X G b_isinstance,
      b_len := PySem.W.mg_none_of X G b_len,
      b_list := PySem.W.mg_none_of X G b_list,
      b_str := PySem.W.mg_none_of X G b_str,
      b_tuple := PySem.W.mg_none_of X G b_tuple,
      b_zip := PySem.W.mg_none_of X G b_zip }
  have BX0 := oxB_ok obX0
  have TX0 : XG.OexB K "ValueError.__new__" _ CX0 := ⟨⟨_, _, _, _, _, _, _, _, _, _, _, _, _, _, _, lX0, rvX0⟩, BX0.sa, BX0.exC, BX0.tyC, BX0.kC⟩
  have NX0 := noB_ok noX0
  have EX0 : ErrI K CX0 := ⟨xfB_ok xfX0, BX0.cl, BX0.ha, hn, htk, BX0.hm⟩
  have BX1 := oxB_ok obX1
  have TX1 : XG.OexB K "ValueError.__new__" _ CX1 := ⟨⟨_, _, _, _, _, _, _, _, _, _, _, _, _, _, _, lX1, rvX1⟩, BX1.sa, BX1.exC, BX1.tyC, BX1.kC⟩
  have NX1 := noB_ok noX1
  have EX1 : ErrI K CX1 := ⟨xfB_ok xfX1, BX1.cl, BX1.ha, hn, htk, BX1.hm⟩
  have BX2 := oxB_ok obX2
  have TX2 : XG.OexB K "ValueError.__new__" _ CX2 := ⟨⟨_, _, _, _, _, _, _, _, _, _, _, _, _, _, _, lX2, rvX2⟩, BX2.sa, BX2.exC, BX2.tyC, BX2.kC⟩
  have NX2 := noB_ok noX2
  have EX2 : ErrI K CX2 := ⟨xfB_ok xfX2, BX2.cl, BX2.ha, hn, htk, BX2.hm⟩
  have BX3 := oxB_ok obX3
  have TX3 : XG.OexB K "ValueError.__new__" _ CX3 := ⟨⟨_, _, _, _, _, _, _, _, _, _, _, _, _, _, _, lX3, rvX3⟩, BX3.sa, BX3.exC, BX3.tyC, BX3.kC⟩
  have NX3 := noB_ok noX3
  have EX3 : ErrI K CX3 := ⟨xfB_ok xfX3, BX3.cl, BX3.ha, hn, htk, BX3.hm⟩
  have BX4 := oxB_ok obX4
  have TX4 : XG.OexB K "ValueError.__new__" _ CX4 := ⟨⟨_, _, _, _, _, _, _, _, _, _, _, _, _, _, _, lX4, rvX4⟩, BX4.sa, BX4.exC, BX4.tyC, BX4.kC⟩
  have NX4 := noB_ok noX4
  have EX4 : ErrI K CX4 := ⟨xfB_ok xfX4, BX4.cl, BX4.ha, hn, htk, BX4.hm⟩
  have BX5 := oxB_ok obX5
  have TX5 : XG.OexB K "ValueError.__new__" _ CX5 := ⟨⟨_, _, _, _, _, _, _, _, _, _, _, _, _, _, _, lX5, rvX5⟩, BX5.sa, BX5.exC, BX5.tyC, BX5.kC⟩
  have NX5 := noB_ok noX5
  have EX5 : ErrI K CX5 := ⟨xfB_ok xfX5, BX5.cl, BX5.ha, hn, htk, BX5.hm⟩
  have BX6 := oxB_ok obX6
  have TX6 : XG.OexB K "ValueError.__new__" _ CX6 := ⟨⟨_, _, _, _, _, _, _, _, _, _, _, _, _, _, _, lX6, rvX6⟩, BX6.sa, BX6.exC, BX6.tyC, BX6.kC⟩
  have NX6 := noB_ok noX6
  have EX6 : ErrI K CX6 := ⟨xfB_ok xfX6, BX6.cl, BX6.ha, hn, htk, BX6.hm⟩
  have BX7 := oxB_ok obX7
  have TX7 : XG.OexB K "ValueError.__new__" _ CX7 := ⟨⟨_, _, _, _, _, _, _, _, _, _, _, _, _, _, _, lX7, rvX7⟩, BX7.sa, BX7.exC, BX7.tyC, BX7.kC⟩
  have NX7 := noB_ok noX7
  have EX7 : ErrI K CX7 := ⟨xfB_ok xfX7, BX7.cl, BX7.ha, hn, htk, BX7.hm⟩
  have BX8 := oxB_ok obX8
  have TX8 : XG.OexB K "ValueError.__new__" _ CX8 := ⟨⟨_, _, _, _, _, _, _, _, _, _, _, _, _, _, _, lX8, rvX8⟩, BX8.sa, BX8.exC, BX8.tyC, BX8.kC⟩
  have NX8 := noB_ok noX8
  have EX8 : ErrI K CX8 := ⟨xfB_ok xfX8, BX8.cl, BX8.ha, hn, htk, BX8.hm⟩
  have BX9 := oxB_ok obX9
  have TX9 : XG.OexB K "ValueError.__new__" _ CX9 := ⟨⟨_, _, _, _, _, _, _, _, _, _, _, _, _, _, _, lX9, rvX9⟩, BX9.sa, BX9.exC, BX9.tyC, BX9.kC⟩
  have NX9 := noB_ok noX9
  have EX9 : ErrI K CX9 := ⟨xfB_ok xfX9, BX9.cl, BX9.ha, hn, htk, BX9.hm⟩
  have BX10 := oxB_ok obX10
  have TX10 : XG.OexB K "ValueError.__new__" _ CX10 := ⟨⟨_, _, _, _, _, _, _, _, _, _, _, _, _, _, _, lX10, rvX10⟩, BX10.sa, BX10.exC, BX10.tyC, BX10.kC⟩
  have NX10 := noB_ok noX10
  have EX10 : ErrI K CX10 := ⟨xfB_ok xfX10, BX10.cl, BX10.ha, hn, htk, BX10.hm⟩
  have BX11 := oxB_ok obX11
  have TX11 : XG.OexB K "ValueError.__new__" _ CX11 := ⟨⟨_, _, _, _, _, _, _, _, _, _, _, _, _, _, _, lX11, rvX11⟩, BX11.sa, BX11.exC, BX11.tyC, BX11.kC⟩
  have NX11 := noB_ok noX11
  have EX11 : ErrI K CX11 := ⟨xfB_ok xfX11, BX11.cl, BX11.ha, hn, htk, BX11.hm⟩
  have BX12 := oxB_ok obX12
  have TX12 : XG.OexB K "ValueError.__new__" _ CX12 := ⟨⟨_, _, _, _, _, _, _, _, _, _, _, _, _, _, _, lX12, rvX12⟩, BX12.sa, BX12.exC, BX12.tyC, BX12.kC⟩
  have NX12 := noB_ok noX12
  have EX12 : ErrI K CX12 := ⟨xfB_ok xfX12, BX12.cl, BX12.ha, hn, htk, BX12.hm⟩
  have BX13 := oxB_ok obX13
  have TX13 : XG.OexB K "ValueError.__new__" _ CX13 := ⟨⟨_, _, _, _, _, _, _, _, _, _, _, _, _, _, _, lX13, rvX13⟩, BX13.sa, BX13.exC, BX13.tyC, BX13.kC⟩
  have NX13 := noB_ok noX13
  have EX13 : ErrI K CX13 := ⟨xfB_ok xfX13, BX13.cl, BX13.ha, hn, htk, BX13.hm⟩
  have BX14 := oxB_ok obX14
  have TX14 : XG.OexB K "ValueError.__new__" _ CX14 := ⟨⟨_, _, _, _, _, _, _, _, _, _, _, _, _, _, _, lX14, rvX14⟩, BX14.sa, BX14.exC, BX14.tyC, BX14.kC⟩
  have NX14 := noB_ok noX14
  have EX14 : ErrI K CX14 := ⟨xfB_ok xfX14, BX14.cl, BX14.ha, hn, htk, BX14.hm⟩
  have BX15 := oxB_ok obX15
  have TX15 : XG.OexB K "ValueError.__new__" _ CX15 := ⟨⟨_, _, _, _, _, _, _, _, _, _, _, _, _, _, _, lX15, rvX15⟩, BX15.sa, BX15.exC, BX15.tyC, BX15.kC⟩
  have NX15 := noB_ok noX15
  have EX15 : ErrI K CX15 := ⟨xfB_ok xfX15, BX15.cl, BX15.ha, hn, htk, BX15.hm⟩
  have BX16 := oxB_ok obX16
  have TX16 : XG.OexB K "ValueError.__new__" _ CX16 := ⟨⟨_, _, _, _, _, _, _, _, _, _, _, _, _, _, _, lX16, rvX16⟩, BX16.sa, BX16.exC, BX16.tyC, BX16.kC⟩
  have NX16 := noB_ok noX16
  have EX16 : ErrI K CX16 := ⟨xfB_ok xfX16, BX16.cl, BX16.ha, hn, htk, BX16.hm⟩
  have BX17 := oxB_ok obX17
  have TX17 : XG.OexB K "ValueError.__new__" _ CX17 := ⟨⟨_, _, _, _, _, _, _, _, _, _, _, _, _, _, _, lX17, rvX17⟩, BX17.sa, BX17.exC, BX17.tyC, BX17.kC⟩
  have NX17 := noB_ok noX17
  have EX17 : ErrI K CX17 := ⟨xfB_ok xfX17, BX17.cl, BX17.ha, hn, htk, BX17.hm⟩
  have BX18 := oxB_ok obX18
  have TX18 : XG.OexB K "ValueError.__new__" _ CX18 := ⟨⟨_, _, _, _, _, _, _, _, _, _, _, _, _, _, _, lX18, rvX18⟩, BX18.sa, BX18.exC, BX18.tyC, BX18.kC⟩
  have NX18 := noB_ok noX18
  have EX18 : ErrI K CX18 := ⟨xfB_ok xfX18, BX18.cl, BX18.ha, hn, htk, BX18.hm⟩
  have BX19 := oxB_ok obX19
  have TX19 : XG.OexB K "ValueError.__new__" _ CX19 := ⟨⟨_, _, _, _, _, _, _, _, _, _, _, _, _, _, _, lX19, rvX19⟩, BX19.sa, BX19.exC, BX19.tyC, BX19.kC⟩
  have NX19 := noB_ok noX19
  have EX19 : ErrI K CX19 := ⟨xfB_ok xfX19, BX19.cl, BX19.ha, hn, htk, BX19.hm⟩
  have BX20 := oxB_ok obX20
  have TX20 : XG.OexB K "ValueError.__new__" _ CX20 := ⟨⟨_, _, _, _, _, _, _, _, _, _, _, _, _, _, _, lX20, rvX20⟩, BX20.sa, BX20.exC, BX20.tyC, BX20.kC⟩
  have NX20 := noB_ok noX20
  have EX20 : ErrI K CX20 := ⟨xfB_ok xfX20, BX20.cl, BX20.ha, hn, htk, BX20.hm⟩
  have BX21 := oxB_ok obX21
  have TX21 : XG.OexB K "ValueError.__new__" _ CX21 := ⟨⟨_, _, _, _, _, _, _, _, _, _, _, _, _, _, _, lX21, rvX21⟩, BX21.sa, BX21.exC, BX21.tyC, BX21.kC⟩
  have NX21 := noB_ok noX21
  have EX21 : ErrI K CX21 := ⟨xfB_ok xfX21, BX21.cl, BX21.ha, hn, htk, BX21.hm⟩
  have BX22 := oxB_ok obX22
  have TX22 : XG.OexB K "ValueError.__new__" _ CX22 := ⟨⟨_, _, _, _, _, _, _, _, _, _, _, _, _, _, _, lX22, rvX22⟩, BX22.sa, BX22.exC, BX22.tyC, BX22.kC⟩
  have NX22 := noB_ok noX22
  have EX22 : ErrI K CX22 := ⟨xfB_ok xfX22, BX22.cl, BX22.ha, hn, htk, BX22.hm⟩
  have BX23 := oxB_ok obX23
  have TX23 : XG.OexB K "LookupError.__new__" _ CX23 := ⟨⟨_, _, _, _, _, _, _, _, _, _, _, _, _, _, _, lX23, rvX23⟩, BX23.sa, BX23.exC, BX23.tyC, BX23.kC⟩
  have NX23 := noB_ok noX23
  have EX23 : ErrI K CX23 := ⟨xfB_ok xfX23, BX23.cl, BX23.ha, hn, htk, BX23.hm⟩
  have BX24 := oxB_ok obX24
  have TX24 : XG.OexB K "LookupError.__new__" _ CX24 := ⟨⟨_, _, _, _, _, _, _, _, _, _, _, _, _, _, _, lX24, rvX24⟩, BX24.sa, BX24.exC, BX24.tyC, BX24.kC⟩
  have NX24 := noB_ok noX24
  have EX24 : ErrI K CX24 := ⟨xfB_ok xfX24, BX24.cl, BX24.ha, hn, htk, BX24.hm⟩
  have BX25 := oxB_ok obX25
  have TX25 : XG.OexB K "LookupError.__new__" _ CX25 := ⟨⟨_, _, _, _, _, _, _, _, _, _, _, _, _, _, _, lX25, rvX25⟩, BX25.sa, BX25.exC, BX25.tyC, BX25.kC⟩
  have NX25 := noB_ok noX25
  have EX25 : ErrI K CX25 := ⟨xfB_ok xfX25, BX25.cl, BX25.ha, hn, htk, BX25.hm⟩
  have BX26 := oxB_ok obX26
  have TX26 : XG.OexB K "IndexError.__new__" _ CX26 := ⟨⟨_, _, _, _, _, _, _, _, _, _, _, _, _, _, _, lX26, rvX26⟩, BX26.sa, BX26.exC, BX26.tyC, BX26.kC⟩
  have NX26 := noB_ok noX26
  have EX26 : ErrI K CX26 := ⟨xfB_ok xfX26, BX26.cl, BX26.ha, hn, htk, BX26.hm⟩
  have ET : ∀ base : Heap, ErT l.prog w K mg base (fun i => ([CX0, CX1, CX2, CX3, CX4, CX5, CX6, CX7, CX8, CX9, CX10, CX11, CX12, CX13, CX14, CX15, CX16, CX17, CX18, CX19, CX20, CX21, CX22, CX23, CX24, CX25, CX26][i]?).getD 0) GE MI := fun base => {
      e_InvalidRatio := err_InvalidRatio (PySem.W.mg_of X G aX0) TX0 iX0 tiX0 lfX0 lcX0 h2X0 hfX0 lccX0 cc'X0 tpX (PySem.W.mg_none_of X G suX) opX BX0 NX0,
      e_InvalidSpan := err_InvalidSpan (PySem.W.mg_of X G aX1) TX1 iX1 tiX1 lfX1 lcX1 h2X1 hfX1 lccX1 cc'X1 tpX (PySem.W.mg_none_of X G suX) opX BX1 NX1,
      e_InvalidCount := err_InvalidCount (PySem.W.mg_of X G aX2) TX2 iX2 tiX2 lfX2 lcX2 h2X2 hfX2 lccX2 cc'X2 tpX (PySem.W.mg_none_of X G suX) opX BX2 NX2,
      e_InvalidLimit := err_InvalidLimit (PySem.W.mg_of X G aX3) TX3 iX3 tiX3 lfX3 lcX3 h2X3 hfX3 lccX3 cc'X3 tpX (PySem.W.mg_none_of X G suX) opX BX3 NX3,
      e_InvalidText := err_InvalidText (PySem.W.mg_of X G aX4) TX4 iX4 tiX4 lfX4 lcX4 h2X4 hfX4 lccX4 cc'X4 tpX (PySem.W.mg_none_of X G suX) opX BX4 NX4,
      e_InvalidCorners := err_InvalidCorners (PySem.W.mg_of X G aX5) TX5 iX5 tiX5 lfX5 lcX5 h2X5 hfX5 lccX5 cc'X5 tpX (PySem.W.mg_none_of X G suX) opX BX5 NX5,
      e_InvalidTiles := err_InvalidTiles (PySem.W.mg_of X G aX6) TX6 iX6 tiX6 lfX6 lcX6 h2X6 hfX6 lccX6 cc'X6 tpX (PySem.W.mg_none_of X G suX) opX BX6 NX6,
      e_InvalidDeed := err_InvalidDeed (PySem.W.mg_of X G aX7) TX7 iX7 tiX7 lfX7 lcX7 h2X7 hfX7 lccX7 cc'X7 tpX (PySem.W.mg_none_of X G suX) opX BX7 NX7,
      e_InvalidName := err_InvalidName (PySem.W.mg_of X G aX8) TX8 iX8 tiX8 lfX8 lcX8 h2X8 hfX8 lccX8 cc'X8 tpX (PySem.W.mg_none_of X G suX) opX BX8 NX8,
      e_DuplicateName := err_DuplicateName (PySem.W.mg_of X G aX9) TX9 iX9 tiX9 lfX9 lcX9 h2X9 hfX9 lccX9 cc'X9 tpX (PySem.W.mg_none_of X G suX) opX BX9 NX9,
      e_SplitSide := err_SplitSide (PySem.W.mg_of X G aX10) TX10 iX10 tiX10 lfX10 lcX10 h2X10 hfX10 lccX10 cc'X10 tpX (PySem.W.mg_none_of X G suX) opX BX10 NX10,
      e_InvalidWall := err_InvalidWall (PySem.W.mg_of X G aX11) TX11 iX11 tiX11 lfX11 lcX11 h2X11 hfX11 lccX11 cc'X11 tpX (PySem.W.mg_none_of X G suX) opX BX11 NX11,
      e_MarkedSide := err_MarkedSide (PySem.W.mg_of X G aX12) TX12 iX12 tiX12 lfX12 lcX12 h2X12 hfX12 lccX12 cc'X12 tpX (PySem.W.mg_none_of X G suX) opX BX12 NX12,
      e_TooMany := err_TooMany (PySem.W.mg_of X G aX13) TX13 iX13 tiX13 lfX13 lcX13 h2X13 hfX13 lccX13 cc'X13 tpX (PySem.W.mg_none_of X G suX) opX BX13 NX13,
      e_TooFar := err_TooFar (PySem.W.mg_of X G aX14) TX14 iX14 tiX14 lfX14 lcX14 h2X14 hfX14 lccX14 cc'X14 tpX (PySem.W.mg_none_of X G suX) opX BX14 NX14,
      e_InvalidPlace := err_InvalidPlace (PySem.W.mg_of X G aX15) TX15 iX15 tiX15 lfX15 lcX15 h2X15 hfX15 lccX15 cc'X15 tpX (PySem.W.mg_none_of X G suX) opX BX15 NX15,
      e_InvalidRound := err_InvalidRound (PySem.W.mg_of X G aX16) TX16 iX16 tiX16 lfX16 lcX16 h2X16 hfX16 lccX16 cc'X16 tpX (PySem.W.mg_none_of X G suX) opX BX16 NX16,
      e_LooseCorner := err_LooseCorner (PySem.W.mg_of X G aX17) TX17 iX17 tiX17 lfX17 lcX17 h2X17 hfX17 lccX17 cc'X17 tpX (PySem.W.mg_none_of X G suX) opX BX17 NX17,
      e_Overlap := err_Overlap (PySem.W.mg_of X G aX18) TX18 iX18 tiX18 lfX18 lcX18 h2X18 hfX18 lccX18 cc'X18 tpX (PySem.W.mg_none_of X G suX) opX BX18 NX18,
      e_InvalidChord := err_InvalidChord (PySem.W.mg_of X G aX19) TX19 iX19 tiX19 lfX19 lcX19 h2X19 hfX19 lccX19 cc'X19 tpX (PySem.W.mg_none_of X G suX) opX BX19 NX19,
      e_NotJoined := err_NotJoined (PySem.W.mg_of X G aX20) TX20 iX20 tiX20 lfX20 lcX20 h2X20 hfX20 lccX20 cc'X20 tpX (PySem.W.mg_none_of X G suX) opX BX20 NX20,
      e_NotConvex := err_NotConvex (PySem.W.mg_of X G aX21) TX21 iX21 tiX21 lfX21 lcX21 h2X21 hfX21 lccX21 cc'X21 tpX (PySem.W.mg_none_of X G suX) opX BX21 NX21,
      e_InvalidWinds := err_InvalidWinds (PySem.W.mg_of X G aX22) TX22 iX22 tiX22 lfX22 lcX22 h2X22 hfX22 lccX22 cc'X22 tpX (PySem.W.mg_none_of X G suX) opX BX22 NX22,
      e_UnknownTile := err_UnknownTile (PySem.W.mg_of X G aX23) TX23 iX23 tiX23 lfX23 lcX23 h2X23 hfX23 lccX23 cc'X23 tpX (PySem.W.mg_none_of X G suX) opX BX23 NX23,
      e_UnknownSide := err_UnknownSide (PySem.W.mg_of X G aX24) TX24 iX24 tiX24 lfX24 lcX24 h2X24 hfX24 lccX24 cc'X24 tpX (PySem.W.mg_none_of X G suX) opX BX24 NX24,
      e_UnknownMark := err_UnknownMark (PySem.W.mg_of X G aX25) TX25 iX25 tiX25 lfX25 lcX25 h2X25 hfX25 lccX25 cc'X25 tpX (PySem.W.mg_none_of X G suX) opX BX25 NX25,
      e_NothingLeft := err_NothingLeft (PySem.W.mg_of X G aX26) TX26 iX26 tiX26 lfX26 lcX26 h2X26 hfX26 lccX26 cc'X26 tpX (PySem.W.mg_none_of X G suX) opX BX26 NX26,
      ei := fun i hi => match i, hi with | 0, _ => EX0 | 1, _ => EX1 | 2, _ => EX2 | 3, _ => EX3 | 4, _ => EX4 | 5, _ => EX5 | 6, _ => EX6 | 7, _ => EX7 | 8, _ => EX8 | 9, _ => EX9 | 10, _ => EX10 | 11, _ => EX11 | 12, _ => EX12 | 13, _ => EX13 | 14, _ => EX14 | 15, _ => EX15 | 16, _ => EX16 | 17, _ => EX17 | 18, _ => EX18 | 19, _ => EX19 | 20, _ => EX20 | 21, _ => EX21 | 22, _ => EX22 | 23, _ => EX23 | 24, _ => EX24 | 25, _ => EX25 | 26, _ => EX26 | i + 27, h => absurd h (by omega),
      no := fun n hn => fun i hi => match i, hi with | 0, _ => NX0 n hn | 1, _ => NX1 n hn | 2, _ => NX2 n hn | 3, _ => NX3 n hn | 4, _ => NX4 n hn | 5, _ => NX5 n hn | 6, _ => NX6 n hn | 7, _ => NX7 n hn | 8, _ => NX8 n hn | 9, _ => NX9 n hn | 10, _ => NX10 n hn | 11, _ => NX11 n hn | 12, _ => NX12 n hn | 13, _ => NX13 n hn | 14, _ => NX14 n hn | 15, _ => NX15 n hn | 16, _ => NX16 n hn | 17, _ => NX17 n hn | 18, _ => NX18 n hn | 19, _ => NX19 n hn | 20, _ => NX20 n hn | 21, _ => NX21 n hn | 22, _ => NX22 n hn | 23, _ => NX23 n hn | 24, _ => NX24 n hn | 25, _ => NX25 n hn | 26, _ => NX26 n hn | i + 27, h => absurd h (by omega),
      is_TooMany := fun i hi => match i, hi with | 0, _ => isB_ok isX0 (by simp) | 1, _ => isB_ok isX1 (by simp) | 2, _ => isB_ok isX2 (by simp) | 3, _ => isB_ok isX3 (by simp) | 4, _ => isB_ok isX4 (by simp) | 5, _ => isB_ok isX5 (by simp) | 6, _ => isB_ok isX6 (by simp) | 7, _ => isB_ok isX7 (by simp) | 8, _ => isB_ok isX8 (by simp) | 9, _ => isB_ok isX9 (by simp) | 10, _ => isB_ok isX10 (by simp) | 11, _ => isB_ok isX11 (by simp) | 12, _ => isB_ok isX12 (by simp) | 13, _ => isB_ok isX13 (by simp) | 14, _ => isB_ok isX14 (by simp) | 15, _ => isB_ok isX15 (by simp) | 16, _ => isB_ok isX16 (by simp) | 17, _ => isB_ok isX17 (by simp) | 18, _ => isB_ok isX18 (by simp) | 19, _ => isB_ok isX19 (by simp) | 20, _ => isB_ok isX20 (by simp) | 21, _ => isB_ok isX21 (by simp) | 22, _ => isB_ok isX22 (by simp) | 23, _ => isB_ok isX23 (by simp) | 24, _ => isB_ok isX24 (by simp) | 25, _ => isB_ok isX25 (by simp) | 26, _ => isB_ok isX26 (by simp) | i + 27, h => absurd h (by omega),
      m_TooMany := PySem.W.mg_of X G aX13,
      is_InvalidName := fun i hi => match i, hi with | 0, _ => isB_ok isX0 (by simp) | 1, _ => isB_ok isX1 (by simp) | 2, _ => isB_ok isX2 (by simp) | 3, _ => isB_ok isX3 (by simp) | 4, _ => isB_ok isX4 (by simp) | 5, _ => isB_ok isX5 (by simp) | 6, _ => isB_ok isX6 (by simp) | 7, _ => isB_ok isX7 (by simp) | 8, _ => isB_ok isX8 (by simp) | 9, _ => isB_ok isX9 (by simp) | 10, _ => isB_ok isX10 (by simp) | 11, _ => isB_ok isX11 (by simp) | 12, _ => isB_ok isX12 (by simp) | 13, _ => isB_ok isX13 (by simp) | 14, _ => isB_ok isX14 (by simp) | 15, _ => isB_ok isX15 (by simp) | 16, _ => isB_ok isX16 (by simp) | 17, _ => isB_ok isX17 (by simp) | 18, _ => isB_ok isX18 (by simp) | 19, _ => isB_ok isX19 (by simp) | 20, _ => isB_ok isX20 (by simp) | 21, _ => isB_ok isX21 (by simp) | 22, _ => isB_ok isX22 (by simp) | 23, _ => isB_ok isX23 (by simp) | 24, _ => isB_ok isX24 (by simp) | 25, _ => isB_ok isX25 (by simp) | 26, _ => isB_ok isX26 (by simp) | i + 27, h => absurd h (by omega),
      m_InvalidName := PySem.W.mg_of X G aX8,
      is_InvalidText := fun i hi => match i, hi with | 0, _ => isB_ok isX0 (by simp) | 1, _ => isB_ok isX1 (by simp) | 2, _ => isB_ok isX2 (by simp) | 3, _ => isB_ok isX3 (by simp) | 4, _ => isB_ok isX4 (by simp) | 5, _ => isB_ok isX5 (by simp) | 6, _ => isB_ok isX6 (by simp) | 7, _ => isB_ok isX7 (by simp) | 8, _ => isB_ok isX8 (by simp) | 9, _ => isB_ok isX9 (by simp) | 10, _ => isB_ok isX10 (by simp) | 11, _ => isB_ok isX11 (by simp) | 12, _ => isB_ok isX12 (by simp) | 13, _ => isB_ok isX13 (by simp) | 14, _ => isB_ok isX14 (by simp) | 15, _ => isB_ok isX15 (by simp) | 16, _ => isB_ok isX16 (by simp) | 17, _ => isB_ok isX17 (by simp) | 18, _ => isB_ok isX18 (by simp) | 19, _ => isB_ok isX19 (by simp) | 20, _ => isB_ok isX20 (by simp) | 21, _ => isB_ok isX21 (by simp) | 22, _ => isB_ok isX22 (by simp) | 23, _ => isB_ok isX23 (by simp) | 24, _ => isB_ok isX24 (by simp) | 25, _ => isB_ok isX25 (by simp) | 26, _ => isB_ok isX26 (by simp) | i + 27, h => absurd h (by omega),
      m_InvalidText := PySem.W.mg_of X G aX4,
      is_InvalidPlace := fun i hi => match i, hi with | 0, _ => isB_ok isX0 (by simp) | 1, _ => isB_ok isX1 (by simp) | 2, _ => isB_ok isX2 (by simp) | 3, _ => isB_ok isX3 (by simp) | 4, _ => isB_ok isX4 (by simp) | 5, _ => isB_ok isX5 (by simp) | 6, _ => isB_ok isX6 (by simp) | 7, _ => isB_ok isX7 (by simp) | 8, _ => isB_ok isX8 (by simp) | 9, _ => isB_ok isX9 (by simp) | 10, _ => isB_ok isX10 (by simp) | 11, _ => isB_ok isX11 (by simp) | 12, _ => isB_ok isX12 (by simp) | 13, _ => isB_ok isX13 (by simp) | 14, _ => isB_ok isX14 (by simp) | 15, _ => isB_ok isX15 (by simp) | 16, _ => isB_ok isX16 (by simp) | 17, _ => isB_ok isX17 (by simp) | 18, _ => isB_ok isX18 (by simp) | 19, _ => isB_ok isX19 (by simp) | 20, _ => isB_ok isX20 (by simp) | 21, _ => isB_ok isX21 (by simp) | 22, _ => isB_ok isX22 (by simp) | 23, _ => isB_ok isX23 (by simp) | 24, _ => isB_ok isX24 (by simp) | 25, _ => isB_ok isX25 (by simp) | 26, _ => isB_ok isX26 (by simp) | i + 27, h => absurd h (by omega),
      m_InvalidPlace := PySem.W.mg_of X G aX15,
      is_InvalidSpan := fun i hi => match i, hi with | 0, _ => isB_ok isX0 (by simp) | 1, _ => isB_ok isX1 (by simp) | 2, _ => isB_ok isX2 (by simp) | 3, _ => isB_ok isX3 (by simp) | 4, _ => isB_ok isX4 (by simp) | 5, _ => isB_ok isX5 (by simp) | 6, _ => isB_ok isX6 (by simp) | 7, _ => isB_ok isX7 (by simp) | 8, _ => isB_ok isX8 (by simp) | 9, _ => isB_ok isX9 (by simp) | 10, _ => isB_ok isX10 (by simp) | 11, _ => isB_ok isX11 (by simp) | 12, _ => isB_ok isX12 (by simp) | 13, _ => isB_ok isX13 (by simp) | 14, _ => isB_ok isX14 (by simp) | 15, _ => isB_ok isX15 (by simp) | 16, _ => isB_ok isX16 (by simp) | 17, _ => isB_ok isX17 (by simp) | 18, _ => isB_ok isX18 (by simp) | 19, _ => isB_ok isX19 (by simp) | 20, _ => isB_ok isX20 (by simp) | 21, _ => isB_ok isX21 (by simp) | 22, _ => isB_ok isX22 (by simp) | 23, _ => isB_ok isX23 (by simp) | 24, _ => isB_ok isX24 (by simp) | 25, _ => isB_ok isX25 (by simp) | 26, _ => isB_ok isX26 (by simp) | i + 27, h => absurd h (by omega),
      m_InvalidSpan := PySem.W.mg_of X G aX1,
      is_InvalidWall := fun i hi => match i, hi with | 0, _ => isB_ok isX0 (by simp) | 1, _ => isB_ok isX1 (by simp) | 2, _ => isB_ok isX2 (by simp) | 3, _ => isB_ok isX3 (by simp) | 4, _ => isB_ok isX4 (by simp) | 5, _ => isB_ok isX5 (by simp) | 6, _ => isB_ok isX6 (by simp) | 7, _ => isB_ok isX7 (by simp) | 8, _ => isB_ok isX8 (by simp) | 9, _ => isB_ok isX9 (by simp) | 10, _ => isB_ok isX10 (by simp) | 11, _ => isB_ok isX11 (by simp) | 12, _ => isB_ok isX12 (by simp) | 13, _ => isB_ok isX13 (by simp) | 14, _ => isB_ok isX14 (by simp) | 15, _ => isB_ok isX15 (by simp) | 16, _ => isB_ok isX16 (by simp) | 17, _ => isB_ok isX17 (by simp) | 18, _ => isB_ok isX18 (by simp) | 19, _ => isB_ok isX19 (by simp) | 20, _ => isB_ok isX20 (by simp) | 21, _ => isB_ok isX21 (by simp) | 22, _ => isB_ok isX22 (by simp) | 23, _ => isB_ok isX23 (by simp) | 24, _ => isB_ok isX24 (by simp) | 25, _ => isB_ok isX25 (by simp) | 26, _ => isB_ok isX26 (by simp) | i + 27, h => absurd h (by omega),
      m_InvalidWall := PySem.W.mg_of X G aX11,
      is_UnknownMark := fun i hi => match i, hi with | 0, _ => isB_ok isX0 (by simp) | 1, _ => isB_ok isX1 (by simp) | 2, _ => isB_ok isX2 (by simp) | 3, _ => isB_ok isX3 (by simp) | 4, _ => isB_ok isX4 (by simp) | 5, _ => isB_ok isX5 (by simp) | 6, _ => isB_ok isX6 (by simp) | 7, _ => isB_ok isX7 (by simp) | 8, _ => isB_ok isX8 (by simp) | 9, _ => isB_ok isX9 (by simp) | 10, _ => isB_ok isX10 (by simp) | 11, _ => isB_ok isX11 (by simp) | 12, _ => isB_ok isX12 (by simp) | 13, _ => isB_ok isX13 (by simp) | 14, _ => isB_ok isX14 (by simp) | 15, _ => isB_ok isX15 (by simp) | 16, _ => isB_ok isX16 (by simp) | 17, _ => isB_ok isX17 (by simp) | 18, _ => isB_ok isX18 (by simp) | 19, _ => isB_ok isX19 (by simp) | 20, _ => isB_ok isX20 (by simp) | 21, _ => isB_ok isX21 (by simp) | 22, _ => isB_ok isX22 (by simp) | 23, _ => isB_ok isX23 (by simp) | 24, _ => isB_ok isX24 (by simp) | 25, _ => isB_ok isX25 (by simp) | 26, _ => isB_ok isX26 (by simp) | i + 27, h => absurd h (by omega),
      m_UnknownMark := PySem.W.mg_of X G aX25,
      is_GustError := fun i hi => match i, hi with | 0, _ => isB_ok isX0 (by simp) | 1, _ => isB_ok isX1 (by simp) | 2, _ => isB_ok isX2 (by simp) | 3, _ => isB_ok isX3 (by simp) | 4, _ => isB_ok isX4 (by simp) | 5, _ => isB_ok isX5 (by simp) | 6, _ => isB_ok isX6 (by simp) | 7, _ => isB_ok isX7 (by simp) | 8, _ => isB_ok isX8 (by simp) | 9, _ => isB_ok isX9 (by simp) | 10, _ => isB_ok isX10 (by simp) | 11, _ => isB_ok isX11 (by simp) | 12, _ => isB_ok isX12 (by simp) | 13, _ => isB_ok isX13 (by simp) | 14, _ => isB_ok isX14 (by simp) | 15, _ => isB_ok isX15 (by simp) | 16, _ => isB_ok isX16 (by simp) | 17, _ => isB_ok isX17 (by simp) | 18, _ => isB_ok isX18 (by simp) | 19, _ => isB_ok isX19 (by simp) | 20, _ => isB_ok isX20 (by simp) | 21, _ => isB_ok isX21 (by simp) | 22, _ => isB_ok isX22 (by simp) | 23, _ => isB_ok isX23 (by simp) | 24, _ => isB_ok isX24 (by simp) | 25, _ => isB_ok isX25 (by simp) | 26, _ => isB_ok isX26 (by simp) | i + 27, h => absurd h (by omega),
      m_GustError := PySem.W.mg_of X G gG,
      is_ValueError := fun i hi => match i, hi with | 0, _ => isB_ok isX0 (by simp) | 1, _ => isB_ok isX1 (by simp) | 2, _ => isB_ok isX2 (by simp) | 3, _ => isB_ok isX3 (by simp) | 4, _ => isB_ok isX4 (by simp) | 5, _ => isB_ok isX5 (by simp) | 6, _ => isB_ok isX6 (by simp) | 7, _ => isB_ok isX7 (by simp) | 8, _ => isB_ok isX8 (by simp) | 9, _ => isB_ok isX9 (by simp) | 10, _ => isB_ok isX10 (by simp) | 11, _ => isB_ok isX11 (by simp) | 12, _ => isB_ok isX12 (by simp) | 13, _ => isB_ok isX13 (by simp) | 14, _ => isB_ok isX14 (by simp) | 15, _ => isB_ok isX15 (by simp) | 16, _ => isB_ok isX16 (by simp) | 17, _ => isB_ok isX17 (by simp) | 18, _ => isB_ok isX18 (by simp) | 19, _ => isB_ok isX19 (by simp) | 20, _ => isB_ok isX20 (by simp) | 21, _ => isB_ok isX21 (by simp) | 22, _ => isB_ok isX22 (by simp) | 23, _ => isB_ok isX23 (by simp) | 24, _ => isB_ok isX24 (by simp) | 25, _ => isB_ok isX25 (by simp) | 26, _ => isB_ok isX26 (by simp) | i + 27, h => absurd h (by omega),
      m_ValueError := PySem.W.mg_none_of X G gValueError,
      is_Missing := fun i hi => match i, hi with | 0, _ => isB_ok isX0 (by simp) | 1, _ => isB_ok isX1 (by simp) | 2, _ => isB_ok isX2 (by simp) | 3, _ => isB_ok isX3 (by simp) | 4, _ => isB_ok isX4 (by simp) | 5, _ => isB_ok isX5 (by simp) | 6, _ => isB_ok isX6 (by simp) | 7, _ => isB_ok isX7 (by simp) | 8, _ => isB_ok isX8 (by simp) | 9, _ => isB_ok isX9 (by simp) | 10, _ => isB_ok isX10 (by simp) | 11, _ => isB_ok isX11 (by simp) | 12, _ => isB_ok isX12 (by simp) | 13, _ => isB_ok isX13 (by simp) | 14, _ => isB_ok isX14 (by simp) | 15, _ => isB_ok isX15 (by simp) | 16, _ => isB_ok isX16 (by simp) | 17, _ => isB_ok isX17 (by simp) | 18, _ => isB_ok isX18 (by simp) | 19, _ => isB_ok isX19 (by simp) | 20, _ => isB_ok isX20 (by simp) | 21, _ => isB_ok isX21 (by simp) | 22, _ => isB_ok isX22 (by simp) | 23, _ => isB_ok isX23 (by simp) | 24, _ => isB_ok isX24 (by simp) | 25, _ => isB_ok isX25 (by simp) | 26, _ => isB_ok isX26 (by simp) | i + 27, h => absurd h (by omega),
      m_Missing := PySem.W.mg_of X G gM,
      is_LookupError := fun i hi => match i, hi with | 0, _ => isB_ok isX0 (by simp) | 1, _ => isB_ok isX1 (by simp) | 2, _ => isB_ok isX2 (by simp) | 3, _ => isB_ok isX3 (by simp) | 4, _ => isB_ok isX4 (by simp) | 5, _ => isB_ok isX5 (by simp) | 6, _ => isB_ok isX6 (by simp) | 7, _ => isB_ok isX7 (by simp) | 8, _ => isB_ok isX8 (by simp) | 9, _ => isB_ok isX9 (by simp) | 10, _ => isB_ok isX10 (by simp) | 11, _ => isB_ok isX11 (by simp) | 12, _ => isB_ok isX12 (by simp) | 13, _ => isB_ok isX13 (by simp) | 14, _ => isB_ok isX14 (by simp) | 15, _ => isB_ok isX15 (by simp) | 16, _ => isB_ok isX16 (by simp) | 17, _ => isB_ok isX17 (by simp) | 18, _ => isB_ok isX18 (by simp) | 19, _ => isB_ok isX19 (by simp) | 20, _ => isB_ok isX20 (by simp) | 21, _ => isB_ok isX21 (by simp) | 22, _ => isB_ok isX22 (by simp) | 23, _ => isB_ok isX23 (by simp) | 24, _ => isB_ok isX24 (by simp) | 25, _ => isB_ok isX25 (by simp) | 26, _ => isB_ok isX26 (by simp) | i + 27, h => absurd h (by omega),
      m_LookupError := PySem.W.mg_none_of X G gLookupError,
      is_IndexError := fun i hi => match i, hi with | 0, _ => isB_ok isX0 (by simp) | 1, _ => isB_ok isX1 (by simp) | 2, _ => isB_ok isX2 (by simp) | 3, _ => isB_ok isX3 (by simp) | 4, _ => isB_ok isX4 (by simp) | 5, _ => isB_ok isX5 (by simp) | 6, _ => isB_ok isX6 (by simp) | 7, _ => isB_ok isX7 (by simp) | 8, _ => isB_ok isX8 (by simp) | 9, _ => isB_ok isX9 (by simp) | 10, _ => isB_ok isX10 (by simp) | 11, _ => isB_ok isX11 (by simp) | 12, _ => isB_ok isX12 (by simp) | 13, _ => isB_ok isX13 (by simp) | 14, _ => isB_ok isX14 (by simp) | 15, _ => isB_ok isX15 (by simp) | 16, _ => isB_ok isX16 (by simp) | 17, _ => isB_ok isX17 (by simp) | 18, _ => isB_ok isX18 (by simp) | 19, _ => isB_ok isX19 (by simp) | 20, _ => isB_ok isX20 (by simp) | 21, _ => isB_ok isX21 (by simp) | 22, _ => isB_ok isX22 (by simp) | 23, _ => isB_ok isX23 (by simp) | 24, _ => isB_ok isX24 (by simp) | 25, _ => isB_ok isX25 (by simp) | 26, _ => isB_ok isX26 (by simp) | i + 27, h => absurd h (by omega),
      m_IndexError := PySem.W.mg_none_of X G gIndexError }
  exact ⟨_, fun s v => .of_eq rfl, fun base _ _ => ok_law T (ET base)⟩
/-! the end by names -/
abbrev RW : PySem.W.OpenLaw := PySem.Challenge.rw_gustfloor_k09_errors_by_themselves
def ad_f0 (K : PySem.W.Frag) : Addr := He.ga K "_law_start"
def ad_f1 (K : PySem.W.Frag) : Addr := He.ga K "_law_pull"
def ad_f2 (K : PySem.W.Frag) : Addr := He.ga K "_law_pick"
def ad_f3 (K : PySem.W.Frag) : Addr := He.ga K "_law_stray"
def ad_f4 (K : PySem.W.Frag) : Addr := He.ga K "_law_sort"
def ad_f5 (K : PySem.W.Frag) : Addr := He.ga K "_law_same"
def ad_f6 (K : PySem.W.Frag) : Addr := He.ga K "_law_fields"
def ad_f7 (K : PySem.W.Frag) : Addr := He.ga K "_law_kinds_apart"
def ad_f8 (K : PySem.W.Frag) : Addr := He.ga K "_law_errors_so"
def ad_f9 (K : PySem.W.Frag) : Addr := He.ga K "law"
def ad_GE (K : PySem.W.Frag) : Addr := He.ga K "GustError"
def ad_MI (K : PySem.W.Frag) : Addr := He.ga K "Missing"
def ad_CX0 (K : PySem.W.Frag) : Addr := He.ga K "InvalidRatio"
def ad_CX1 (K : PySem.W.Frag) : Addr := He.ga K "InvalidSpan"
def ad_CX2 (K : PySem.W.Frag) : Addr := He.ga K "InvalidCount"
def ad_CX3 (K : PySem.W.Frag) : Addr := He.ga K "InvalidLimit"
def ad_CX4 (K : PySem.W.Frag) : Addr := He.ga K "InvalidText"
def ad_CX5 (K : PySem.W.Frag) : Addr := He.ga K "InvalidCorners"
def ad_CX6 (K : PySem.W.Frag) : Addr := He.ga K "InvalidTiles"
def ad_CX7 (K : PySem.W.Frag) : Addr := He.ga K "InvalidDeed"
def ad_CX8 (K : PySem.W.Frag) : Addr := He.ga K "InvalidName"
def ad_CX9 (K : PySem.W.Frag) : Addr := He.ga K "DuplicateName"
def ad_CX10 (K : PySem.W.Frag) : Addr := He.ga K "SplitSide"
def ad_CX11 (K : PySem.W.Frag) : Addr := He.ga K "InvalidWall"
def ad_CX12 (K : PySem.W.Frag) : Addr := He.ga K "MarkedSide"
def ad_CX13 (K : PySem.W.Frag) : Addr := He.ga K "TooMany"
def ad_CX14 (K : PySem.W.Frag) : Addr := He.ga K "TooFar"
def ad_CX15 (K : PySem.W.Frag) : Addr := He.ga K "InvalidPlace"
def ad_CX16 (K : PySem.W.Frag) : Addr := He.ga K "InvalidRound"
def ad_CX17 (K : PySem.W.Frag) : Addr := He.ga K "LooseCorner"
def ad_CX18 (K : PySem.W.Frag) : Addr := He.ga K "Overlap"
def ad_CX19 (K : PySem.W.Frag) : Addr := He.ga K "InvalidChord"
def ad_CX20 (K : PySem.W.Frag) : Addr := He.ga K "NotJoined"
def ad_CX21 (K : PySem.W.Frag) : Addr := He.ga K "NotConvex"
def ad_CX22 (K : PySem.W.Frag) : Addr := He.ga K "InvalidWinds"
def ad_CX23 (K : PySem.W.Frag) : Addr := He.ga K "UnknownTile"
def ad_CX24 (K : PySem.W.Frag) : Addr := He.ga K "UnknownSide"
def ad_CX25 (K : PySem.W.Frag) : Addr := He.ga K "UnknownMark"
def ad_CX26 (K : PySem.W.Frag) : Addr := He.ga K "NothingLeft"
def ad_fX0 (K : PySem.W.Frag) : Addr := He.ma K (ad_CX0 K) "__init__"
def ad_fX1 (K : PySem.W.Frag) : Addr := He.ma K (ad_CX1 K) "__init__"
def ad_fX2 (K : PySem.W.Frag) : Addr := He.ma K (ad_CX2 K) "__init__"
def ad_fX3 (K : PySem.W.Frag) : Addr := He.ma K (ad_CX3 K) "__init__"
def ad_fX4 (K : PySem.W.Frag) : Addr := He.ma K (ad_CX4 K) "__init__"
def ad_fX5 (K : PySem.W.Frag) : Addr := He.ma K (ad_CX5 K) "__init__"
def ad_fX6 (K : PySem.W.Frag) : Addr := He.ma K (ad_CX6 K) "__init__"
def ad_fX7 (K : PySem.W.Frag) : Addr := He.ma K (ad_CX7 K) "__init__"
def ad_fX8 (K : PySem.W.Frag) : Addr := He.ma K (ad_CX8 K) "__init__"
def ad_fX9 (K : PySem.W.Frag) : Addr := He.ma K (ad_CX9 K) "__init__"
def ad_fX10 (K : PySem.W.Frag) : Addr := He.ma K (ad_CX10 K) "__init__"
def ad_fX11 (K : PySem.W.Frag) : Addr := He.ma K (ad_CX11 K) "__init__"
def ad_fX12 (K : PySem.W.Frag) : Addr := He.ma K (ad_CX12 K) "__init__"
def ad_fX13 (K : PySem.W.Frag) : Addr := He.ma K (ad_CX13 K) "__init__"
def ad_fX14 (K : PySem.W.Frag) : Addr := He.ma K (ad_CX14 K) "__init__"
def ad_fX15 (K : PySem.W.Frag) : Addr := He.ma K (ad_CX15 K) "__init__"
def ad_fX16 (K : PySem.W.Frag) : Addr := He.ma K (ad_CX16 K) "__init__"
def ad_fX17 (K : PySem.W.Frag) : Addr := He.ma K (ad_CX17 K) "__init__"
def ad_fX18 (K : PySem.W.Frag) : Addr := He.ma K (ad_CX18 K) "__init__"
def ad_fX19 (K : PySem.W.Frag) : Addr := He.ma K (ad_CX19 K) "__init__"
def ad_fX20 (K : PySem.W.Frag) : Addr := He.ma K (ad_CX20 K) "__init__"
def ad_fX21 (K : PySem.W.Frag) : Addr := He.ma K (ad_CX21 K) "__init__"
def ad_fX22 (K : PySem.W.Frag) : Addr := He.ma K (ad_CX22 K) "__init__"
def ad_fX23 (K : PySem.W.Frag) : Addr := He.ma K (ad_CX23 K) "__init__"
def ad_fX24 (K : PySem.W.Frag) : Addr := He.ma K (ad_CX24 K) "__init__"
def ad_fX25 (K : PySem.W.Frag) : Addr := He.ma K (ad_CX25 K) "__init__"
def ad_fX26 (K : PySem.W.Frag) : Addr := He.ma K (ad_CX26 K) "__init__"
def ad_cdX0 (K : PySem.W.Frag) : Addr := HK.cdAt K (ad_fX0 K)
def ad_ccX0 (K : PySem.W.Frag) : Addr := HK.ccAt K (ad_fX0 K)
def ad_cdX1 (K : PySem.W.Frag) : Addr := HK.cdAt K (ad_fX1 K)
def ad_ccX1 (K : PySem.W.Frag) : Addr := HK.ccAt K (ad_fX1 K)
def ad_cdX2 (K : PySem.W.Frag) : Addr := HK.cdAt K (ad_fX2 K)
def ad_ccX2 (K : PySem.W.Frag) : Addr := HK.ccAt K (ad_fX2 K)
def ad_cdX3 (K : PySem.W.Frag) : Addr := HK.cdAt K (ad_fX3 K)
def ad_ccX3 (K : PySem.W.Frag) : Addr := HK.ccAt K (ad_fX3 K)
def ad_cdX4 (K : PySem.W.Frag) : Addr := HK.cdAt K (ad_fX4 K)
def ad_ccX4 (K : PySem.W.Frag) : Addr := HK.ccAt K (ad_fX4 K)
def ad_cdX5 (K : PySem.W.Frag) : Addr := HK.cdAt K (ad_fX5 K)
def ad_ccX5 (K : PySem.W.Frag) : Addr := HK.ccAt K (ad_fX5 K)
def ad_cdX6 (K : PySem.W.Frag) : Addr := HK.cdAt K (ad_fX6 K)
def ad_ccX6 (K : PySem.W.Frag) : Addr := HK.ccAt K (ad_fX6 K)
def ad_cdX7 (K : PySem.W.Frag) : Addr := HK.cdAt K (ad_fX7 K)
def ad_ccX7 (K : PySem.W.Frag) : Addr := HK.ccAt K (ad_fX7 K)
def ad_cdX8 (K : PySem.W.Frag) : Addr := HK.cdAt K (ad_fX8 K)
def ad_ccX8 (K : PySem.W.Frag) : Addr := HK.ccAt K (ad_fX8 K)
def ad_cdX9 (K : PySem.W.Frag) : Addr := HK.cdAt K (ad_fX9 K)
def ad_ccX9 (K : PySem.W.Frag) : Addr := HK.ccAt K (ad_fX9 K)
def ad_cdX10 (K : PySem.W.Frag) : Addr := HK.cdAt K (ad_fX10 K)
def ad_ccX10 (K : PySem.W.Frag) : Addr := HK.ccAt K (ad_fX10 K)
def ad_cdX11 (K : PySem.W.Frag) : Addr := HK.cdAt K (ad_fX11 K)
def ad_ccX11 (K : PySem.W.Frag) : Addr := HK.ccAt K (ad_fX11 K)
def ad_cdX12 (K : PySem.W.Frag) : Addr := HK.cdAt K (ad_fX12 K)
def ad_ccX12 (K : PySem.W.Frag) : Addr := HK.ccAt K (ad_fX12 K)
def ad_cdX13 (K : PySem.W.Frag) : Addr := HK.cdAt K (ad_fX13 K)
def ad_ccX13 (K : PySem.W.Frag) : Addr := HK.ccAt K (ad_fX13 K)
def ad_cdX14 (K : PySem.W.Frag) : Addr := HK.cdAt K (ad_fX14 K)
def ad_ccX14 (K : PySem.W.Frag) : Addr := HK.ccAt K (ad_fX14 K)
def ad_cdX15 (K : PySem.W.Frag) : Addr := HK.cdAt K (ad_fX15 K)
def ad_ccX15 (K : PySem.W.Frag) : Addr := HK.ccAt K (ad_fX15 K)
def ad_cdX16 (K : PySem.W.Frag) : Addr := HK.cdAt K (ad_fX16 K)
def ad_ccX16 (K : PySem.W.Frag) : Addr := HK.ccAt K (ad_fX16 K)
def ad_cdX17 (K : PySem.W.Frag) : Addr := HK.cdAt K (ad_fX17 K)
def ad_ccX17 (K : PySem.W.Frag) : Addr := HK.ccAt K (ad_fX17 K)
def ad_cdX18 (K : PySem.W.Frag) : Addr := HK.cdAt K (ad_fX18 K)
def ad_ccX18 (K : PySem.W.Frag) : Addr := HK.ccAt K (ad_fX18 K)
def ad_cdX19 (K : PySem.W.Frag) : Addr := HK.cdAt K (ad_fX19 K)
def ad_ccX19 (K : PySem.W.Frag) : Addr := HK.ccAt K (ad_fX19 K)
def ad_cdX20 (K : PySem.W.Frag) : Addr := HK.cdAt K (ad_fX20 K)
def ad_ccX20 (K : PySem.W.Frag) : Addr := HK.ccAt K (ad_fX20 K)
def ad_cdX21 (K : PySem.W.Frag) : Addr := HK.cdAt K (ad_fX21 K)
def ad_ccX21 (K : PySem.W.Frag) : Addr := HK.ccAt K (ad_fX21 K)
def ad_cdX22 (K : PySem.W.Frag) : Addr := HK.cdAt K (ad_fX22 K)
def ad_ccX22 (K : PySem.W.Frag) : Addr := HK.ccAt K (ad_fX22 K)
def ad_cdX23 (K : PySem.W.Frag) : Addr := HK.cdAt K (ad_fX23 K)
def ad_ccX23 (K : PySem.W.Frag) : Addr := HK.ccAt K (ad_fX23 K)
def ad_cdX24 (K : PySem.W.Frag) : Addr := HK.cdAt K (ad_fX24 K)
def ad_ccX24 (K : PySem.W.Frag) : Addr := HK.ccAt K (ad_fX24 K)
def ad_cdX25 (K : PySem.W.Frag) : Addr := HK.cdAt K (ad_fX25 K)
def ad_ccX25 (K : PySem.W.Frag) : Addr := HK.ccAt K (ad_fX25 K)
def ad_cdX26 (K : PySem.W.Frag) : Addr := HK.cdAt K (ad_fX26 K)
def ad_ccX26 (K : PySem.W.Frag) : Addr := HK.ccAt K (ad_fX26 K)
def fs0 : List (PySem.W.Frag → Bool) := [fun K => decide (PySem.W.specialIn K (.builtin "object.__class__") "__get__" = some (some (.builtin "getset_descriptor.__get__"))),
  fun K => decide (PySem.W.takesIn K (.builtin "object.__class__") = some true),
  fun K => decide (PySem.W.nsIn K mainGlobals "_law_start" = some (some (.ref (ad_f0 K)))),
  fun K => decide ((HK.fdAt K (ad_f0 K)).defaults = .none),
  fun K => PySem.W.keepIn K (.ref (ad_f0 K)),
  fun K => decide (PySem.W.nsIn K mainGlobals "_law_pull" = some (some (.ref (ad_f1 K)))),
  fun K => decide ((HK.fdAt K (ad_f1 K)).defaults = .none),
  fun K => PySem.W.keepIn K (.ref (ad_f1 K)),
  fun K => decide (PySem.W.nsIn K mainGlobals "_law_pick" = some (some (.ref (ad_f2 K)))),
  fun K => decide ((HK.fdAt K (ad_f2 K)).defaults = .none),
  fun K => PySem.W.keepIn K (.ref (ad_f2 K)),
  fun K => decide (PySem.W.nsIn K mainGlobals "_law_stray" = some (some (.ref (ad_f3 K)))),
  fun K => decide ((HK.fdAt K (ad_f3 K)).defaults = .none),
  fun K => PySem.W.keepIn K (.ref (ad_f3 K)),
  fun K => decide (PySem.W.nsIn K mainGlobals "_law_sort" = some (some (.ref (ad_f4 K)))),
  fun K => decide ((HK.fdAt K (ad_f4 K)).defaults = .none),
  fun K => PySem.W.keepIn K (.ref (ad_f4 K)),
  fun K => decide (PySem.W.nsIn K mainGlobals "_law_same" = some (some (.ref (ad_f5 K)))),
  fun K => decide ((HK.fdAt K (ad_f5 K)).defaults = .none),
  fun K => PySem.W.keepIn K (.ref (ad_f5 K)),
  fun K => decide (PySem.W.nsIn K mainGlobals "_law_fields" = some (some (.ref (ad_f6 K)))),
  fun K => decide ((HK.fdAt K (ad_f6 K)).defaults = .none),
  fun K => PySem.W.keepIn K (.ref (ad_f6 K)),
  fun K => decide (PySem.W.nsIn K mainGlobals "_law_kinds_apart" = some (some (.ref (ad_f7 K)))),
  fun K => decide ((HK.fdAt K (ad_f7 K)).defaults = .none)]
def fs1 : List (PySem.W.Frag → Bool) := [fun K => PySem.W.keepIn K (.ref (ad_f7 K)),
  fun K => decide (PySem.W.nsIn K mainGlobals "_law_errors_so" = some (some (.ref (ad_f8 K)))),
  fun K => decide ((HK.fdAt K (ad_f8 K)).defaults = .none),
  fun K => PySem.W.keepIn K (.ref (ad_f8 K)),
  fun K => decide (PySem.W.nsIn K mainGlobals "law" = some (some (.ref (ad_f9 K)))),
  fun K => decide ((HK.fdAt K (ad_f9 K)).defaults = .none),
  fun K => PySem.W.keepIn K (.ref (ad_f9 K)),
  fun K => decide (PySem.W.nsIn K mainGlobals "IndexError" = some none),
  fun K => decide (PySem.W.nsIn K mainGlobals "LookupError" = some none),
  fun K => decide (PySem.W.nsIn K mainGlobals "ValueError" = some none),
  fun K => decide (PySem.W.nsIn K mainGlobals "all" = some none),
  fun K => decide (PySem.W.nsIn K mainGlobals "bool" = some none),
  fun K => decide (PySem.W.nsIn K mainGlobals "int" = some none),
  fun K => decide (PySem.W.nsIn K mainGlobals "isinstance" = some none),
  fun K => decide (PySem.W.nsIn K mainGlobals "len" = some none),
  fun K => decide (PySem.W.nsIn K mainGlobals "list" = some none),
  fun K => decide (PySem.W.nsIn K mainGlobals "str" = some none),
  fun K => decide (PySem.W.nsIn K mainGlobals "tuple" = some none),
  fun K => decide (PySem.W.nsIn K mainGlobals "zip" = some none),
  fun K => decide (PySem.W.nsIn K mainGlobals "GustError" = some (some (.ref (ad_GE K)))),
  fun K => decide (PySem.W.nsIn K mainGlobals "Missing" = some (some (.ref (ad_MI K)))),
  fun K => decide (PySem.W.nsIn K mainGlobals "ValueError" = some none),
  fun K => decide (PySem.W.nsIn K mainGlobals "LookupError" = some none),
  fun K => decide (PySem.W.nsIn K mainGlobals "IndexError" = some none),
  fun K => decide (PySem.W.nsIn K mainGlobals "super" = some none)]
def fs2 : List (PySem.W.Frag → Bool) := [fun K => decide (PySem.W.nsIn K cStatics "thirdparty.any" = some none),
  fun K => decide (PySem.W.nsIn K mainGlobals "InvalidRatio" = some (some (.ref (ad_CX0 K)))),
  fun K => HK.exB K (ad_CX0 K) [.type "ValueError", .type "Exception", .type "BaseException", .type "object"] "ValueError.__new__",
  fun K => oxB K "ValueError" (ad_CX0 K),
  fun K => decide (PySem.W.findIn K (.ref (ad_CX0 K)) "__init__" = some (some (.ref (ad_fX0 K)))),
  fun K => decide (PySem.W.typeIn K (.ref (ad_fX0 K)) = some (.type "function")),
  fun K => decide ((HK.fdAt K (ad_fX0 K)).defaults = .none),
  fun K => decide ((HK.fdAt K (ad_fX0 K)).code = (.ref (ad_cdX0 K))),
  fun K => HK.isFields K (ad_cdX0 K),
  fun K => HK.fileB K (RW.prog.main.file : Str) (ad_cdX0 K),
  fun K => HK.cellB K (ad_ccX0 K) (ad_CX0 K),
  fun K => xfB K (ad_CX0 K),
  fun K => noB K (ad_CX0 K) NOSX,
  fun K => decide (PySem.W.nsIn K mainGlobals "InvalidSpan" = some (some (.ref (ad_CX1 K)))),
  fun K => HK.exB K (ad_CX1 K) [.type "ValueError", .type "Exception", .type "BaseException", .type "object"] "ValueError.__new__",
  fun K => oxB K "ValueError" (ad_CX1 K),
  fun K => decide (PySem.W.findIn K (.ref (ad_CX1 K)) "__init__" = some (some (.ref (ad_fX1 K)))),
  fun K => decide (PySem.W.typeIn K (.ref (ad_fX1 K)) = some (.type "function")),
  fun K => decide ((HK.fdAt K (ad_fX1 K)).defaults = .none),
  fun K => decide ((HK.fdAt K (ad_fX1 K)).code = (.ref (ad_cdX1 K))),
  fun K => HK.isFields K (ad_cdX1 K),
  fun K => HK.fileB K (RW.prog.main.file : Str) (ad_cdX1 K),
  fun K => HK.cellB K (ad_ccX1 K) (ad_CX1 K),
  fun K => xfB K (ad_CX1 K),
  fun K => noB K (ad_CX1 K) NOSX]
def fs3 : List (PySem.W.Frag → Bool) := [fun K => decide (PySem.W.nsIn K mainGlobals "InvalidCount" = some (some (.ref (ad_CX2 K)))),
  fun K => HK.exB K (ad_CX2 K) [.type "ValueError", .type "Exception", .type "BaseException", .type "object"] "ValueError.__new__",
  fun K => oxB K "ValueError" (ad_CX2 K),
  fun K => decide (PySem.W.findIn K (.ref (ad_CX2 K)) "__init__" = some (some (.ref (ad_fX2 K)))),
  fun K => decide (PySem.W.typeIn K (.ref (ad_fX2 K)) = some (.type "function")),
  fun K => decide ((HK.fdAt K (ad_fX2 K)).defaults = .none),
  fun K => decide ((HK.fdAt K (ad_fX2 K)).code = (.ref (ad_cdX2 K))),
  fun K => HK.isFields K (ad_cdX2 K),
  fun K => HK.fileB K (RW.prog.main.file : Str) (ad_cdX2 K),
  fun K => HK.cellB K (ad_ccX2 K) (ad_CX2 K),
  fun K => xfB K (ad_CX2 K),
  fun K => noB K (ad_CX2 K) NOSX,
  fun K => decide (PySem.W.nsIn K mainGlobals "InvalidLimit" = some (some (.ref (ad_CX3 K)))),
  fun K => HK.exB K (ad_CX3 K) [.type "ValueError", .type "Exception", .type "BaseException", .type "object"] "ValueError.__new__",
  fun K => oxB K "ValueError" (ad_CX3 K),
  fun K => decide (PySem.W.findIn K (.ref (ad_CX3 K)) "__init__" = some (some (.ref (ad_fX3 K)))),
  fun K => decide (PySem.W.typeIn K (.ref (ad_fX3 K)) = some (.type "function")),
  fun K => decide ((HK.fdAt K (ad_fX3 K)).defaults = .none),
  fun K => decide ((HK.fdAt K (ad_fX3 K)).code = (.ref (ad_cdX3 K))),
  fun K => HK.isFields K (ad_cdX3 K),
  fun K => HK.fileB K (RW.prog.main.file : Str) (ad_cdX3 K),
  fun K => HK.cellB K (ad_ccX3 K) (ad_CX3 K),
  fun K => xfB K (ad_CX3 K),
  fun K => noB K (ad_CX3 K) NOSX,
  fun K => decide (PySem.W.nsIn K mainGlobals "InvalidText" = some (some (.ref (ad_CX4 K))))]
def fs4 : List (PySem.W.Frag → Bool) := [fun K => HK.exB K (ad_CX4 K) [.type "ValueError", .type "Exception", .type "BaseException", .type "object"] "ValueError.__new__",
  fun K => oxB K "ValueError" (ad_CX4 K),
  fun K => decide (PySem.W.findIn K (.ref (ad_CX4 K)) "__init__" = some (some (.ref (ad_fX4 K)))),
  fun K => decide (PySem.W.typeIn K (.ref (ad_fX4 K)) = some (.type "function")),
  fun K => decide ((HK.fdAt K (ad_fX4 K)).defaults = .none),
  fun K => decide ((HK.fdAt K (ad_fX4 K)).code = (.ref (ad_cdX4 K))),
  fun K => HK.isFields K (ad_cdX4 K),
  fun K => HK.fileB K (RW.prog.main.file : Str) (ad_cdX4 K),
  fun K => HK.cellB K (ad_ccX4 K) (ad_CX4 K),
  fun K => xfB K (ad_CX4 K),
  fun K => noB K (ad_CX4 K) NOSX,
  fun K => decide (PySem.W.nsIn K mainGlobals "InvalidCorners" = some (some (.ref (ad_CX5 K)))),
  fun K => HK.exB K (ad_CX5 K) [.type "ValueError", .type "Exception", .type "BaseException", .type "object"] "ValueError.__new__",
  fun K => oxB K "ValueError" (ad_CX5 K),
  fun K => decide (PySem.W.findIn K (.ref (ad_CX5 K)) "__init__" = some (some (.ref (ad_fX5 K)))),
  fun K => decide (PySem.W.typeIn K (.ref (ad_fX5 K)) = some (.type "function")),
  fun K => decide ((HK.fdAt K (ad_fX5 K)).defaults = .none),
  fun K => decide ((HK.fdAt K (ad_fX5 K)).code = (.ref (ad_cdX5 K))),
  fun K => HK.isFields K (ad_cdX5 K),
  fun K => HK.fileB K (RW.prog.main.file : Str) (ad_cdX5 K),
  fun K => HK.cellB K (ad_ccX5 K) (ad_CX5 K),
  fun K => xfB K (ad_CX5 K),
  fun K => noB K (ad_CX5 K) NOSX,
  fun K => decide (PySem.W.nsIn K mainGlobals "InvalidTiles" = some (some (.ref (ad_CX6 K)))),
  fun K => HK.exB K (ad_CX6 K) [.type "ValueError", .type "Exception", .type "BaseException", .type "object"] "ValueError.__new__"]
def fs5 : List (PySem.W.Frag → Bool) := [fun K => oxB K "ValueError" (ad_CX6 K),
  fun K => decide (PySem.W.findIn K (.ref (ad_CX6 K)) "__init__" = some (some (.ref (ad_fX6 K)))),
  fun K => decide (PySem.W.typeIn K (.ref (ad_fX6 K)) = some (.type "function")),
  fun K => decide ((HK.fdAt K (ad_fX6 K)).defaults = .none),
  fun K => decide ((HK.fdAt K (ad_fX6 K)).code = (.ref (ad_cdX6 K))),
  fun K => HK.isFields K (ad_cdX6 K),
  fun K => HK.fileB K (RW.prog.main.file : Str) (ad_cdX6 K),
  fun K => HK.cellB K (ad_ccX6 K) (ad_CX6 K),
  fun K => xfB K (ad_CX6 K),
  fun K => noB K (ad_CX6 K) NOSX,
  fun K => decide (PySem.W.nsIn K mainGlobals "InvalidDeed" = some (some (.ref (ad_CX7 K)))),
  fun K => HK.exB K (ad_CX7 K) [.type "ValueError", .type "Exception", .type "BaseException", .type "object"] "ValueError.__new__",
  fun K => oxB K "ValueError" (ad_CX7 K),
  fun K => decide (PySem.W.findIn K (.ref (ad_CX7 K)) "__init__" = some (some (.ref (ad_fX7 K)))),
  fun K => decide (PySem.W.typeIn K (.ref (ad_fX7 K)) = some (.type "function")),
  fun K => decide ((HK.fdAt K (ad_fX7 K)).defaults = .none),
  fun K => decide ((HK.fdAt K (ad_fX7 K)).code = (.ref (ad_cdX7 K))),
  fun K => HK.isFields K (ad_cdX7 K),
  fun K => HK.fileB K (RW.prog.main.file : Str) (ad_cdX7 K),
  fun K => HK.cellB K (ad_ccX7 K) (ad_CX7 K),
  fun K => xfB K (ad_CX7 K),
  fun K => noB K (ad_CX7 K) NOSX,
  fun K => decide (PySem.W.nsIn K mainGlobals "InvalidName" = some (some (.ref (ad_CX8 K)))),
  fun K => HK.exB K (ad_CX8 K) [.type "ValueError", .type "Exception", .type "BaseException", .type "object"] "ValueError.__new__",
  fun K => oxB K "ValueError" (ad_CX8 K)]
def fs6 : List (PySem.W.Frag → Bool) := [fun K => decide (PySem.W.findIn K (.ref (ad_CX8 K)) "__init__" = some (some (.ref (ad_fX8 K)))),
  fun K => decide (PySem.W.typeIn K (.ref (ad_fX8 K)) = some (.type "function")),
  fun K => decide ((HK.fdAt K (ad_fX8 K)).defaults = .none),
  fun K => decide ((HK.fdAt K (ad_fX8 K)).code = (.ref (ad_cdX8 K))),
  fun K => HK.isFields K (ad_cdX8 K),
  fun K => HK.fileB K (RW.prog.main.file : Str) (ad_cdX8 K),
  fun K => HK.cellB K (ad_ccX8 K) (ad_CX8 K),
  fun K => xfB K (ad_CX8 K),
  fun K => noB K (ad_CX8 K) NOSX,
  fun K => decide (PySem.W.nsIn K mainGlobals "DuplicateName" = some (some (.ref (ad_CX9 K)))),
  fun K => HK.exB K (ad_CX9 K) [.type "ValueError", .type "Exception", .type "BaseException", .type "object"] "ValueError.__new__",
  fun K => oxB K "ValueError" (ad_CX9 K),
  fun K => decide (PySem.W.findIn K (.ref (ad_CX9 K)) "__init__" = some (some (.ref (ad_fX9 K)))),
  fun K => decide (PySem.W.typeIn K (.ref (ad_fX9 K)) = some (.type "function")),
  fun K => decide ((HK.fdAt K (ad_fX9 K)).defaults = .none),
  fun K => decide ((HK.fdAt K (ad_fX9 K)).code = (.ref (ad_cdX9 K))),
  fun K => HK.isFields K (ad_cdX9 K),
  fun K => HK.fileB K (RW.prog.main.file : Str) (ad_cdX9 K),
  fun K => HK.cellB K (ad_ccX9 K) (ad_CX9 K),
  fun K => xfB K (ad_CX9 K),
  fun K => noB K (ad_CX9 K) NOSX,
  fun K => decide (PySem.W.nsIn K mainGlobals "SplitSide" = some (some (.ref (ad_CX10 K)))),
  fun K => HK.exB K (ad_CX10 K) [.type "ValueError", .type "Exception", .type "BaseException", .type "object"] "ValueError.__new__",
  fun K => oxB K "ValueError" (ad_CX10 K),
  fun K => decide (PySem.W.findIn K (.ref (ad_CX10 K)) "__init__" = some (some (.ref (ad_fX10 K))))]
def fs7 : List (PySem.W.Frag → Bool) := [fun K => decide (PySem.W.typeIn K (.ref (ad_fX10 K)) = some (.type "function")),
  fun K => decide ((HK.fdAt K (ad_fX10 K)).defaults = .none),
  fun K => decide ((HK.fdAt K (ad_fX10 K)).code = (.ref (ad_cdX10 K))),
  fun K => HK.isFields K (ad_cdX10 K),
  fun K => HK.fileB K (RW.prog.main.file : Str) (ad_cdX10 K),
  fun K => HK.cellB K (ad_ccX10 K) (ad_CX10 K),
  fun K => xfB K (ad_CX10 K),
  fun K => noB K (ad_CX10 K) NOSX,
  fun K => decide (PySem.W.nsIn K mainGlobals "InvalidWall" = some (some (.ref (ad_CX11 K)))),
  fun K => HK.exB K (ad_CX11 K) [.type "ValueError", .type "Exception", .type "BaseException", .type "object"] "ValueError.__new__",
  fun K => oxB K "ValueError" (ad_CX11 K),
  fun K => decide (PySem.W.findIn K (.ref (ad_CX11 K)) "__init__" = some (some (.ref (ad_fX11 K)))),
  fun K => decide (PySem.W.typeIn K (.ref (ad_fX11 K)) = some (.type "function")),
  fun K => decide ((HK.fdAt K (ad_fX11 K)).defaults = .none),
  fun K => decide ((HK.fdAt K (ad_fX11 K)).code = (.ref (ad_cdX11 K))),
  fun K => HK.isFields K (ad_cdX11 K),
  fun K => HK.fileB K (RW.prog.main.file : Str) (ad_cdX11 K),
  fun K => HK.cellB K (ad_ccX11 K) (ad_CX11 K),
  fun K => xfB K (ad_CX11 K),
  fun K => noB K (ad_CX11 K) NOSX,
  fun K => decide (PySem.W.nsIn K mainGlobals "MarkedSide" = some (some (.ref (ad_CX12 K)))),
  fun K => HK.exB K (ad_CX12 K) [.type "ValueError", .type "Exception", .type "BaseException", .type "object"] "ValueError.__new__",
  fun K => oxB K "ValueError" (ad_CX12 K),
  fun K => decide (PySem.W.findIn K (.ref (ad_CX12 K)) "__init__" = some (some (.ref (ad_fX12 K)))),
  fun K => decide (PySem.W.typeIn K (.ref (ad_fX12 K)) = some (.type "function"))]
def fs8 : List (PySem.W.Frag → Bool) := [fun K => decide ((HK.fdAt K (ad_fX12 K)).defaults = .none),
  fun K => decide ((HK.fdAt K (ad_fX12 K)).code = (.ref (ad_cdX12 K))),
  fun K => HK.isFields K (ad_cdX12 K),
  fun K => HK.fileB K (RW.prog.main.file : Str) (ad_cdX12 K),
  fun K => HK.cellB K (ad_ccX12 K) (ad_CX12 K),
  fun K => xfB K (ad_CX12 K),
  fun K => noB K (ad_CX12 K) NOSX,
  fun K => decide (PySem.W.nsIn K mainGlobals "TooMany" = some (some (.ref (ad_CX13 K)))),
  fun K => HK.exB K (ad_CX13 K) [.type "ValueError", .type "Exception", .type "BaseException", .type "object"] "ValueError.__new__",
  fun K => oxB K "ValueError" (ad_CX13 K),
  fun K => decide (PySem.W.findIn K (.ref (ad_CX13 K)) "__init__" = some (some (.ref (ad_fX13 K)))),
  fun K => decide (PySem.W.typeIn K (.ref (ad_fX13 K)) = some (.type "function")),
  fun K => decide ((HK.fdAt K (ad_fX13 K)).defaults = .none),
  fun K => decide ((HK.fdAt K (ad_fX13 K)).code = (.ref (ad_cdX13 K))),
  fun K => HK.isFields K (ad_cdX13 K),
  fun K => HK.fileB K (RW.prog.main.file : Str) (ad_cdX13 K),
  fun K => HK.cellB K (ad_ccX13 K) (ad_CX13 K),
  fun K => xfB K (ad_CX13 K),
  fun K => noB K (ad_CX13 K) NOSX,
  fun K => decide (PySem.W.nsIn K mainGlobals "TooFar" = some (some (.ref (ad_CX14 K)))),
  fun K => HK.exB K (ad_CX14 K) [.type "ValueError", .type "Exception", .type "BaseException", .type "object"] "ValueError.__new__",
  fun K => oxB K "ValueError" (ad_CX14 K),
  fun K => decide (PySem.W.findIn K (.ref (ad_CX14 K)) "__init__" = some (some (.ref (ad_fX14 K)))),
  fun K => decide (PySem.W.typeIn K (.ref (ad_fX14 K)) = some (.type "function")),
  fun K => decide ((HK.fdAt K (ad_fX14 K)).defaults = .none)]
def fs9 : List (PySem.W.Frag → Bool) := [fun K => decide ((HK.fdAt K (ad_fX14 K)).code = (.ref (ad_cdX14 K))),
  fun K => HK.isFields K (ad_cdX14 K),
  fun K => HK.fileB K (RW.prog.main.file : Str) (ad_cdX14 K),
  fun K => HK.cellB K (ad_ccX14 K) (ad_CX14 K),
  fun K => xfB K (ad_CX14 K),
  fun K => noB K (ad_CX14 K) NOSX,
  fun K => decide (PySem.W.nsIn K mainGlobals "InvalidPlace" = some (some (.ref (ad_CX15 K)))),
  fun K => HK.exB K (ad_CX15 K) [.type "ValueError", .type "Exception", .type "BaseException", .type "object"] "ValueError.__new__",
  fun K => oxB K "ValueError" (ad_CX15 K),
  fun K => decide (PySem.W.findIn K (.ref (ad_CX15 K)) "__init__" = some (some (.ref (ad_fX15 K)))),
  fun K => decide (PySem.W.typeIn K (.ref (ad_fX15 K)) = some (.type "function")),
  fun K => decide ((HK.fdAt K (ad_fX15 K)).defaults = .none),
  fun K => decide ((HK.fdAt K (ad_fX15 K)).code = (.ref (ad_cdX15 K))),
  fun K => HK.isFields K (ad_cdX15 K),
  fun K => HK.fileB K (RW.prog.main.file : Str) (ad_cdX15 K),
  fun K => HK.cellB K (ad_ccX15 K) (ad_CX15 K),
  fun K => xfB K (ad_CX15 K),
  fun K => noB K (ad_CX15 K) NOSX,
  fun K => decide (PySem.W.nsIn K mainGlobals "InvalidRound" = some (some (.ref (ad_CX16 K)))),
  fun K => HK.exB K (ad_CX16 K) [.type "ValueError", .type "Exception", .type "BaseException", .type "object"] "ValueError.__new__",
  fun K => oxB K "ValueError" (ad_CX16 K),
  fun K => decide (PySem.W.findIn K (.ref (ad_CX16 K)) "__init__" = some (some (.ref (ad_fX16 K)))),
  fun K => decide (PySem.W.typeIn K (.ref (ad_fX16 K)) = some (.type "function")),
  fun K => decide ((HK.fdAt K (ad_fX16 K)).defaults = .none),
  fun K => decide ((HK.fdAt K (ad_fX16 K)).code = (.ref (ad_cdX16 K)))]
def fs10 : List (PySem.W.Frag → Bool) := [fun K => HK.isFields K (ad_cdX16 K),
  fun K => HK.fileB K (RW.prog.main.file : Str) (ad_cdX16 K),
  fun K => HK.cellB K (ad_ccX16 K) (ad_CX16 K),
  fun K => xfB K (ad_CX16 K),
  fun K => noB K (ad_CX16 K) NOSX,
  fun K => decide (PySem.W.nsIn K mainGlobals "LooseCorner" = some (some (.ref (ad_CX17 K)))),
  fun K => HK.exB K (ad_CX17 K) [.type "ValueError", .type "Exception", .type "BaseException", .type "object"] "ValueError.__new__",
  fun K => oxB K "ValueError" (ad_CX17 K),
  fun K => decide (PySem.W.findIn K (.ref (ad_CX17 K)) "__init__" = some (some (.ref (ad_fX17 K)))),
  fun K => decide (PySem.W.typeIn K (.ref (ad_fX17 K)) = some (.type "function")),
  fun K => decide ((HK.fdAt K (ad_fX17 K)).defaults = .none),
  fun K => decide ((HK.fdAt K (ad_fX17 K)).code = (.ref (ad_cdX17 K))),
  fun K => HK.isFields K (ad_cdX17 K),
  fun K => HK.fileB K (RW.prog.main.file : Str) (ad_cdX17 K),
  fun K => HK.cellB K (ad_ccX17 K) (ad_CX17 K),
  fun K => xfB K (ad_CX17 K),
  fun K => noB K (ad_CX17 K) NOSX,
  fun K => decide (PySem.W.nsIn K mainGlobals "Overlap" = some (some (.ref (ad_CX18 K)))),
  fun K => HK.exB K (ad_CX18 K) [.type "ValueError", .type "Exception", .type "BaseException", .type "object"] "ValueError.__new__",
  fun K => oxB K "ValueError" (ad_CX18 K),
  fun K => decide (PySem.W.findIn K (.ref (ad_CX18 K)) "__init__" = some (some (.ref (ad_fX18 K)))),
  fun K => decide (PySem.W.typeIn K (.ref (ad_fX18 K)) = some (.type "function")),
  fun K => decide ((HK.fdAt K (ad_fX18 K)).defaults = .none),
  fun K => decide ((HK.fdAt K (ad_fX18 K)).code = (.ref (ad_cdX18 K))),
  fun K => HK.isFields K (ad_cdX18 K)]
def fs11 : List (PySem.W.Frag → Bool) := [fun K => HK.fileB K (RW.prog.main.file : Str) (ad_cdX18 K),
  fun K => HK.cellB K (ad_ccX18 K) (ad_CX18 K),
  fun K => xfB K (ad_CX18 K),
  fun K => noB K (ad_CX18 K) NOSX,
  fun K => decide (PySem.W.nsIn K mainGlobals "InvalidChord" = some (some (.ref (ad_CX19 K)))),
  fun K => HK.exB K (ad_CX19 K) [.type "ValueError", .type "Exception", .type "BaseException", .type "object"] "ValueError.__new__",
  fun K => oxB K "ValueError" (ad_CX19 K),
  fun K => decide (PySem.W.findIn K (.ref (ad_CX19 K)) "__init__" = some (some (.ref (ad_fX19 K)))),
  fun K => decide (PySem.W.typeIn K (.ref (ad_fX19 K)) = some (.type "function")),
  fun K => decide ((HK.fdAt K (ad_fX19 K)).defaults = .none),
  fun K => decide ((HK.fdAt K (ad_fX19 K)).code = (.ref (ad_cdX19 K))),
  fun K => HK.isFields K (ad_cdX19 K),
  fun K => HK.fileB K (RW.prog.main.file : Str) (ad_cdX19 K),
  fun K => HK.cellB K (ad_ccX19 K) (ad_CX19 K),
  fun K => xfB K (ad_CX19 K),
  fun K => noB K (ad_CX19 K) NOSX,
  fun K => decide (PySem.W.nsIn K mainGlobals "NotJoined" = some (some (.ref (ad_CX20 K)))),
  fun K => HK.exB K (ad_CX20 K) [.type "ValueError", .type "Exception", .type "BaseException", .type "object"] "ValueError.__new__",
  fun K => oxB K "ValueError" (ad_CX20 K),
  fun K => decide (PySem.W.findIn K (.ref (ad_CX20 K)) "__init__" = some (some (.ref (ad_fX20 K)))),
  fun K => decide (PySem.W.typeIn K (.ref (ad_fX20 K)) = some (.type "function")),
  fun K => decide ((HK.fdAt K (ad_fX20 K)).defaults = .none),
  fun K => decide ((HK.fdAt K (ad_fX20 K)).code = (.ref (ad_cdX20 K))),
  fun K => HK.isFields K (ad_cdX20 K),
  fun K => HK.fileB K (RW.prog.main.file : Str) (ad_cdX20 K)]
def fs12 : List (PySem.W.Frag → Bool) := [fun K => HK.cellB K (ad_ccX20 K) (ad_CX20 K),
  fun K => xfB K (ad_CX20 K),
  fun K => noB K (ad_CX20 K) NOSX,
  fun K => decide (PySem.W.nsIn K mainGlobals "NotConvex" = some (some (.ref (ad_CX21 K)))),
  fun K => HK.exB K (ad_CX21 K) [.type "ValueError", .type "Exception", .type "BaseException", .type "object"] "ValueError.__new__",
  fun K => oxB K "ValueError" (ad_CX21 K),
  fun K => decide (PySem.W.findIn K (.ref (ad_CX21 K)) "__init__" = some (some (.ref (ad_fX21 K)))),
  fun K => decide (PySem.W.typeIn K (.ref (ad_fX21 K)) = some (.type "function")),
  fun K => decide ((HK.fdAt K (ad_fX21 K)).defaults = .none),
  fun K => decide ((HK.fdAt K (ad_fX21 K)).code = (.ref (ad_cdX21 K))),
  fun K => HK.isFields K (ad_cdX21 K),
  fun K => HK.fileB K (RW.prog.main.file : Str) (ad_cdX21 K),
  fun K => HK.cellB K (ad_ccX21 K) (ad_CX21 K),
  fun K => xfB K (ad_CX21 K),
  fun K => noB K (ad_CX21 K) NOSX,
  fun K => decide (PySem.W.nsIn K mainGlobals "InvalidWinds" = some (some (.ref (ad_CX22 K)))),
  fun K => HK.exB K (ad_CX22 K) [.type "ValueError", .type "Exception", .type "BaseException", .type "object"] "ValueError.__new__",
  fun K => oxB K "ValueError" (ad_CX22 K),
  fun K => decide (PySem.W.findIn K (.ref (ad_CX22 K)) "__init__" = some (some (.ref (ad_fX22 K)))),
  fun K => decide (PySem.W.typeIn K (.ref (ad_fX22 K)) = some (.type "function")),
  fun K => decide ((HK.fdAt K (ad_fX22 K)).defaults = .none),
  fun K => decide ((HK.fdAt K (ad_fX22 K)).code = (.ref (ad_cdX22 K))),
  fun K => HK.isFields K (ad_cdX22 K),
  fun K => HK.fileB K (RW.prog.main.file : Str) (ad_cdX22 K),
  fun K => HK.cellB K (ad_ccX22 K) (ad_CX22 K)]
def fs13 : List (PySem.W.Frag → Bool) := [fun K => xfB K (ad_CX22 K),
  fun K => noB K (ad_CX22 K) NOSX,
  fun K => decide (PySem.W.nsIn K mainGlobals "UnknownTile" = some (some (.ref (ad_CX23 K)))),
  fun K => HK.exB K (ad_CX23 K) [.type "LookupError", .type "Exception", .type "BaseException", .type "object"] "LookupError.__new__",
  fun K => oxB K "LookupError" (ad_CX23 K),
  fun K => decide (PySem.W.findIn K (.ref (ad_CX23 K)) "__init__" = some (some (.ref (ad_fX23 K)))),
  fun K => decide (PySem.W.typeIn K (.ref (ad_fX23 K)) = some (.type "function")),
  fun K => decide ((HK.fdAt K (ad_fX23 K)).defaults = .none),
  fun K => decide ((HK.fdAt K (ad_fX23 K)).code = (.ref (ad_cdX23 K))),
  fun K => HK.isFields K (ad_cdX23 K),
  fun K => HK.fileB K (RW.prog.main.file : Str) (ad_cdX23 K),
  fun K => HK.cellB K (ad_ccX23 K) (ad_CX23 K),
  fun K => xfB K (ad_CX23 K),
  fun K => noB K (ad_CX23 K) NOSX,
  fun K => decide (PySem.W.nsIn K mainGlobals "UnknownSide" = some (some (.ref (ad_CX24 K)))),
  fun K => HK.exB K (ad_CX24 K) [.type "LookupError", .type "Exception", .type "BaseException", .type "object"] "LookupError.__new__",
  fun K => oxB K "LookupError" (ad_CX24 K),
  fun K => decide (PySem.W.findIn K (.ref (ad_CX24 K)) "__init__" = some (some (.ref (ad_fX24 K)))),
  fun K => decide (PySem.W.typeIn K (.ref (ad_fX24 K)) = some (.type "function")),
  fun K => decide ((HK.fdAt K (ad_fX24 K)).defaults = .none),
  fun K => decide ((HK.fdAt K (ad_fX24 K)).code = (.ref (ad_cdX24 K))),
  fun K => HK.isFields K (ad_cdX24 K),
  fun K => HK.fileB K (RW.prog.main.file : Str) (ad_cdX24 K),
  fun K => HK.cellB K (ad_ccX24 K) (ad_CX24 K),
  fun K => xfB K (ad_CX24 K)]
def fs14 : List (PySem.W.Frag → Bool) := [fun K => noB K (ad_CX24 K) NOSX,
  fun K => decide (PySem.W.nsIn K mainGlobals "UnknownMark" = some (some (.ref (ad_CX25 K)))),
  fun K => HK.exB K (ad_CX25 K) [.type "LookupError", .type "Exception", .type "BaseException", .type "object"] "LookupError.__new__",
  fun K => oxB K "LookupError" (ad_CX25 K),
  fun K => decide (PySem.W.findIn K (.ref (ad_CX25 K)) "__init__" = some (some (.ref (ad_fX25 K)))),
  fun K => decide (PySem.W.typeIn K (.ref (ad_fX25 K)) = some (.type "function")),
  fun K => decide ((HK.fdAt K (ad_fX25 K)).defaults = .none),
  fun K => decide ((HK.fdAt K (ad_fX25 K)).code = (.ref (ad_cdX25 K))),
  fun K => HK.isFields K (ad_cdX25 K),
  fun K => HK.fileB K (RW.prog.main.file : Str) (ad_cdX25 K),
  fun K => HK.cellB K (ad_ccX25 K) (ad_CX25 K),
  fun K => xfB K (ad_CX25 K),
  fun K => noB K (ad_CX25 K) NOSX,
  fun K => decide (PySem.W.nsIn K mainGlobals "NothingLeft" = some (some (.ref (ad_CX26 K)))),
  fun K => HK.exB K (ad_CX26 K) [.type "IndexError", .type "LookupError", .type "Exception", .type "BaseException", .type "object"] "IndexError.__new__",
  fun K => oxB K "IndexError" (ad_CX26 K),
  fun K => decide (PySem.W.findIn K (.ref (ad_CX26 K)) "__init__" = some (some (.ref (ad_fX26 K)))),
  fun K => decide (PySem.W.typeIn K (.ref (ad_fX26 K)) = some (.type "function")),
  fun K => decide ((HK.fdAt K (ad_fX26 K)).defaults = .none),
  fun K => decide ((HK.fdAt K (ad_fX26 K)).code = (.ref (ad_cdX26 K))),
  fun K => HK.isFields K (ad_cdX26 K),
  fun K => HK.fileB K (RW.prog.main.file : Str) (ad_cdX26 K),
  fun K => HK.cellB K (ad_ccX26 K) (ad_CX26 K),
  fun K => xfB K (ad_CX26 K),
  fun K => noB K (ad_CX26 K) NOSX]
def fs15 : List (PySem.W.Frag → Bool) := [fun K => isB K (ad_CX0 K) [((.ref (ad_CX13 K)), false), ((.ref (ad_CX8 K)), false), ((.ref (ad_CX4 K)), false), ((.ref (ad_CX15 K)), false), ((.ref (ad_CX1 K)), false), ((.ref (ad_CX11 K)), false), ((.ref (ad_CX25 K)), false), ((.ref (ad_GE K)), true), ((.type "ValueError"), true), ((.ref (ad_MI K)), false), ((.type "LookupError"), false), ((.type "IndexError"), false)],
  fun K => isB K (ad_CX1 K) [((.ref (ad_CX13 K)), false), ((.ref (ad_CX8 K)), false), ((.ref (ad_CX4 K)), false), ((.ref (ad_CX15 K)), false), ((.ref (ad_CX1 K)), true), ((.ref (ad_CX11 K)), false), ((.ref (ad_CX25 K)), false), ((.ref (ad_GE K)), true), ((.type "ValueError"), true), ((.ref (ad_MI K)), false), ((.type "LookupError"), false), ((.type "IndexError"), false)],
  fun K => isB K (ad_CX2 K) [((.ref (ad_CX13 K)), false), ((.ref (ad_CX8 K)), false), ((.ref (ad_CX4 K)), false), ((.ref (ad_CX15 K)), false), ((.ref (ad_CX1 K)), false), ((.ref (ad_CX11 K)), false), ((.ref (ad_CX25 K)), false), ((.ref (ad_GE K)), true), ((.type "ValueError"), true), ((.ref (ad_MI K)), false), ((.type "LookupError"), false), ((.type "IndexError"), false)],
  fun K => isB K (ad_CX3 K) [((.ref (ad_CX13 K)), false), ((.ref (ad_CX8 K)), false), ((.ref (ad_CX4 K)), false), ((.ref (ad_CX15 K)), false), ((.ref (ad_CX1 K)), false), ((.ref (ad_CX11 K)), false), ((.ref (ad_CX25 K)), false), ((.ref (ad_GE K)), true), ((.type "ValueError"), true), ((.ref (ad_MI K)), false), ((.type "LookupError"), false), ((.type "IndexError"), false)],
  fun K => isB K (ad_CX4 K) [((.ref (ad_CX13 K)), false), ((.ref (ad_CX8 K)), false), ((.ref (ad_CX4 K)), true), ((.ref (ad_CX15 K)), false), ((.ref (ad_CX1 K)), false), ((.ref (ad_CX11 K)), false), ((.ref (ad_CX25 K)), false), ((.ref (ad_GE K)), true), ((.type "ValueError"), true), ((.ref (ad_MI K)), false), ((.type "LookupError"), false), ((.type "IndexError"), false)],
  fun K => isB K (ad_CX5 K) [((.ref (ad_CX13 K)), false), ((.ref (ad_CX8 K)), false), ((.ref (ad_CX4 K)), false), ((.ref (ad_CX15 K)), false), ((.ref (ad_CX1 K)), false), ((.ref (ad_CX11 K)), false), ((.ref (ad_CX25 K)), false), ((.ref (ad_GE K)), true), ((.type "ValueError"), true), ((.ref (ad_MI K)), false), ((.type "LookupError"), false), ((.type "IndexError"), false)],
  fun K => isB K (ad_CX6 K) [((.ref (ad_CX13 K)), false), ((.ref (ad_CX8 K)), false), ((.ref (ad_CX4 K)), false), ((.ref (ad_CX15 K)), false), ((.ref (ad_CX1 K)), false), ((.ref (ad_CX11 K)), false), ((.ref (ad_CX25 K)), false), ((.ref (ad_GE K)), true), ((.type "ValueError"), true), ((.ref (ad_MI K)), false), ((.type "LookupError"), false), ((.type "IndexError"), false)],
  fun K => isB K (ad_CX7 K) [((.ref (ad_CX13 K)), false), ((.ref (ad_CX8 K)), false), ((.ref (ad_CX4 K)), false), ((.ref (ad_CX15 K)), false), ((.ref (ad_CX1 K)), false), ((.ref (ad_CX11 K)), false), ((.ref (ad_CX25 K)), false), ((.ref (ad_GE K)), true), ((.type "ValueError"), true), ((.ref (ad_MI K)), false), ((.type "LookupError"), false), ((.type "IndexError"), false)],
  fun K => isB K (ad_CX8 K) [((.ref (ad_CX13 K)), false), ((.ref (ad_CX8 K)), true), ((.ref (ad_CX4 K)), false), ((.ref (ad_CX15 K)), false), ((.ref (ad_CX1 K)), false), ((.ref (ad_CX11 K)), false), ((.ref (ad_CX25 K)), false), ((.ref (ad_GE K)), true), ((.type "ValueError"), true), ((.ref (ad_MI K)), false), ((.type "LookupError"), false), ((.type "IndexError"), false)],
  fun K => isB K (ad_CX9 K) [((.ref (ad_CX13 K)), false), ((.ref (ad_CX8 K)), false), ((.ref (ad_CX4 K)), false), ((.ref (ad_CX15 K)), false), ((.ref (ad_CX1 K)), false), ((.ref (ad_CX11 K)), false), ((.ref (ad_CX25 K)), false), ((.ref (ad_GE K)), true), ((.type "ValueError"), true), ((.ref (ad_MI K)), false), ((.type "LookupError"), false), ((.type "IndexError"), false)],
  fun K => isB K (ad_CX10 K) [((.ref (ad_CX13 K)), false), ((.ref (ad_CX8 K)), false), ((.ref (ad_CX4 K)), false), ((.ref (ad_CX15 K)), false), ((.ref (ad_CX1 K)), false), ((.ref (ad_CX11 K)), false), ((.ref (ad_CX25 K)), false), ((.ref (ad_GE K)), true), ((.type "ValueError"), true), ((.ref (ad_MI K)), false), ((.type "LookupError"), false), ((.type "IndexError"), false)],
  fun K => isB K (ad_CX11 K) [((.ref (ad_CX13 K)), false), ((.ref (ad_CX8 K)), false), ((.ref (ad_CX4 K)), false), ((.ref (ad_CX15 K)), false), ((.ref (ad_CX1 K)), false), ((.ref (ad_CX11 K)), true), ((.ref (ad_CX25 K)), false), ((.ref (ad_GE K)), true), ((.type "ValueError"), true), ((.ref (ad_MI K)), false), ((.type "LookupError"), false), ((.type "IndexError"), false)],
  fun K => isB K (ad_CX12 K) [((.ref (ad_CX13 K)), false), ((.ref (ad_CX8 K)), false), ((.ref (ad_CX4 K)), false), ((.ref (ad_CX15 K)), false), ((.ref (ad_CX1 K)), false), ((.ref (ad_CX11 K)), false), ((.ref (ad_CX25 K)), false), ((.ref (ad_GE K)), true), ((.type "ValueError"), true), ((.ref (ad_MI K)), false), ((.type "LookupError"), false), ((.type "IndexError"), false)],
  fun K => isB K (ad_CX13 K) [((.ref (ad_CX13 K)), true), ((.ref (ad_CX8 K)), false), ((.ref (ad_CX4 K)), false), ((.ref (ad_CX15 K)), false), ((.ref (ad_CX1 K)), false), ((.ref (ad_CX11 K)), false), ((.ref (ad_CX25 K)), false), ((.ref (ad_GE K)), true), ((.type "ValueError"), true), ((.ref (ad_MI K)), false), ((.type "LookupError"), false), ((.type "IndexError"), false)],
  fun K => isB K (ad_CX14 K) [((.ref (ad_CX13 K)), false), ((.ref (ad_CX8 K)), false), ((.ref (ad_CX4 K)), false), ((.ref (ad_CX15 K)), false), ((.ref (ad_CX1 K)), false), ((.ref (ad_CX11 K)), false), ((.ref (ad_CX25 K)), false), ((.ref (ad_GE K)), true), ((.type "ValueError"), true), ((.ref (ad_MI K)), false), ((.type "LookupError"), false), ((.type "IndexError"), false)],
  fun K => isB K (ad_CX15 K) [((.ref (ad_CX13 K)), false), ((.ref (ad_CX8 K)), false), ((.ref (ad_CX4 K)), false), ((.ref (ad_CX15 K)), true), ((.ref (ad_CX1 K)), false), ((.ref (ad_CX11 K)), false), ((.ref (ad_CX25 K)), false), ((.ref (ad_GE K)), true), ((.type "ValueError"), true), ((.ref (ad_MI K)), false), ((.type "LookupError"), false), ((.type "IndexError"), false)],
  fun K => isB K (ad_CX16 K) [((.ref (ad_CX13 K)), false), ((.ref (ad_CX8 K)), false), ((.ref (ad_CX4 K)), false), ((.ref (ad_CX15 K)), false), ((.ref (ad_CX1 K)), false), ((.ref (ad_CX11 K)), false), ((.ref (ad_CX25 K)), false), ((.ref (ad_GE K)), true), ((.type "ValueError"), true), ((.ref (ad_MI K)), false), ((.type "LookupError"), false), ((.type "IndexError"), false)],
  fun K => isB K (ad_CX17 K) [((.ref (ad_CX13 K)), false), ((.ref (ad_CX8 K)), false), ((.ref (ad_CX4 K)), false), ((.ref (ad_CX15 K)), false), ((.ref (ad_CX1 K)), false), ((.ref (ad_CX11 K)), false), ((.ref (ad_CX25 K)), false), ((.ref (ad_GE K)), true), ((.type "ValueError"), true), ((.ref (ad_MI K)), false), ((.type "LookupError"), false), ((.type "IndexError"), false)],
  fun K => isB K (ad_CX18 K) [((.ref (ad_CX13 K)), false), ((.ref (ad_CX8 K)), false), ((.ref (ad_CX4 K)), false), ((.ref (ad_CX15 K)), false), ((.ref (ad_CX1 K)), false), ((.ref (ad_CX11 K)), false), ((.ref (ad_CX25 K)), false), ((.ref (ad_GE K)), true), ((.type "ValueError"), true), ((.ref (ad_MI K)), false), ((.type "LookupError"), false), ((.type "IndexError"), false)],
  fun K => isB K (ad_CX19 K) [((.ref (ad_CX13 K)), false), ((.ref (ad_CX8 K)), false), ((.ref (ad_CX4 K)), false), ((.ref (ad_CX15 K)), false), ((.ref (ad_CX1 K)), false), ((.ref (ad_CX11 K)), false), ((.ref (ad_CX25 K)), false), ((.ref (ad_GE K)), true), ((.type "ValueError"), true), ((.ref (ad_MI K)), false), ((.type "LookupError"), false), ((.type "IndexError"), false)],
  fun K => isB K (ad_CX20 K) [((.ref (ad_CX13 K)), false), ((.ref (ad_CX8 K)), false), ((.ref (ad_CX4 K)), false), ((.ref (ad_CX15 K)), false), ((.ref (ad_CX1 K)), false), ((.ref (ad_CX11 K)), false), ((.ref (ad_CX25 K)), false), ((.ref (ad_GE K)), true), ((.type "ValueError"), true), ((.ref (ad_MI K)), false), ((.type "LookupError"), false), ((.type "IndexError"), false)],
  fun K => isB K (ad_CX21 K) [((.ref (ad_CX13 K)), false), ((.ref (ad_CX8 K)), false), ((.ref (ad_CX4 K)), false), ((.ref (ad_CX15 K)), false), ((.ref (ad_CX1 K)), false), ((.ref (ad_CX11 K)), false), ((.ref (ad_CX25 K)), false), ((.ref (ad_GE K)), true), ((.type "ValueError"), true), ((.ref (ad_MI K)), false), ((.type "LookupError"), false), ((.type "IndexError"), false)],
  fun K => isB K (ad_CX22 K) [((.ref (ad_CX13 K)), false), ((.ref (ad_CX8 K)), false), ((.ref (ad_CX4 K)), false), ((.ref (ad_CX15 K)), false), ((.ref (ad_CX1 K)), false), ((.ref (ad_CX11 K)), false), ((.ref (ad_CX25 K)), false), ((.ref (ad_GE K)), true), ((.type "ValueError"), true), ((.ref (ad_MI K)), false), ((.type "LookupError"), false), ((.type "IndexError"), false)],
  fun K => isB K (ad_CX23 K) [((.ref (ad_CX13 K)), false), ((.ref (ad_CX8 K)), false), ((.ref (ad_CX4 K)), false), ((.ref (ad_CX15 K)), false), ((.ref (ad_CX1 K)), false), ((.ref (ad_CX11 K)), false), ((.ref (ad_CX25 K)), false), ((.ref (ad_GE K)), false), ((.type "ValueError"), false), ((.ref (ad_MI K)), true), ((.type "LookupError"), true), ((.type "IndexError"), false)],
  fun K => isB K (ad_CX24 K) [((.ref (ad_CX13 K)), false), ((.ref (ad_CX8 K)), false), ((.ref (ad_CX4 K)), false), ((.ref (ad_CX15 K)), false), ((.ref (ad_CX1 K)), false), ((.ref (ad_CX11 K)), false), ((.ref (ad_CX25 K)), false), ((.ref (ad_GE K)), false), ((.type "ValueError"), false), ((.ref (ad_MI K)), true), ((.type "LookupError"), true), ((.type "IndexError"), false)]]
def fs16 : List (PySem.W.Frag → Bool) := [fun K => isB K (ad_CX25 K) [((.ref (ad_CX13 K)), false), ((.ref (ad_CX8 K)), false), ((.ref (ad_CX4 K)), false), ((.ref (ad_CX15 K)), false), ((.ref (ad_CX1 K)), false), ((.ref (ad_CX11 K)), false), ((.ref (ad_CX25 K)), true), ((.ref (ad_GE K)), false), ((.type "ValueError"), false), ((.ref (ad_MI K)), true), ((.type "LookupError"), true), ((.type "IndexError"), false)],
  fun K => isB K (ad_CX26 K) [((.ref (ad_CX13 K)), false), ((.ref (ad_CX8 K)), false), ((.ref (ad_CX4 K)), false), ((.ref (ad_CX15 K)), false), ((.ref (ad_CX1 K)), false), ((.ref (ad_CX11 K)), false), ((.ref (ad_CX25 K)), false), ((.ref (ad_GE K)), false), ((.type "ValueError"), false), ((.ref (ad_MI K)), false), ((.type "LookupError"), true), ((.type "IndexError"), true)]]
def fs : List (List (PySem.W.Frag → Bool)) := [fs0, fs1, fs2, fs3, fs4, fs5, fs6, fs7, fs8, fs9, fs10, fs11, fs12, fs13, fs14, fs15, fs16]
def dfs : List HK.Df := [⟨ad_f0, "_law_start", "_law_start", defArgs st__law_start, defBody st__law_start, defScope st__law_start, []⟩,
  ⟨ad_f1, "_law_pull", "_law_pull", defArgs st__law_pull, defBody st__law_pull, defScope st__law_pull, []⟩,
  ⟨ad_f2, "_law_pick", "_law_pick", defArgs st__law_pick, defBody st__law_pick, defScope st__law_pick, []⟩,
  ⟨ad_f3, "_law_stray", "_law_stray", defArgs st__law_stray, defBody st__law_stray, defScope st__law_stray, []⟩,
  ⟨ad_f4, "_law_sort", "_law_sort", defArgs st__law_sort, defBody st__law_sort, defScope st__law_sort, []⟩,
  ⟨ad_f5, "_law_same", "_law_same", defArgs st__law_same, defBody st__law_same, defScope st__law_same, []⟩,
  ⟨ad_f6, "_law_fields", "_law_fields", defArgs st__law_fields, defBody st__law_fields, defScope st__law_fields, []⟩,
  ⟨ad_f7, "_law_kinds_apart", "_law_kinds_apart", defArgs st__law_kinds_apart, defBody st__law_kinds_apart, defScope st__law_kinds_apart, []⟩,
  ⟨ad_f8, "_law_errors_so", "_law_errors_so", defArgs st__law_errors_so, defBody st__law_errors_so, defScope st__law_errors_so, []⟩,
  ⟨ad_f9, "law", "law", defArgs st_law, defBody st_law, defScope st_law, []⟩,
  ⟨ad_fX0, "__init__", "InvalidRatio.__init__", defArgs st_InvalidRatio___init__, defBody st_InvalidRatio___init__, defScope st_InvalidRatio___init__, ["__class__"]⟩,
  ⟨ad_fX1, "__init__", "InvalidSpan.__init__", defArgs st_InvalidSpan___init__, defBody st_InvalidSpan___init__, defScope st_InvalidSpan___init__, ["__class__"]⟩,
  ⟨ad_fX2, "__init__", "InvalidCount.__init__", defArgs st_InvalidCount___init__, defBody st_InvalidCount___init__, defScope st_InvalidCount___init__, ["__class__"]⟩,
  ⟨ad_fX3, "__init__", "InvalidLimit.__init__", defArgs st_InvalidLimit___init__, defBody st_InvalidLimit___init__, defScope st_InvalidLimit___init__, ["__class__"]⟩,
  ⟨ad_fX4, "__init__", "InvalidText.__init__", defArgs st_InvalidText___init__, defBody st_InvalidText___init__, defScope st_InvalidText___init__, ["__class__"]⟩,
  ⟨ad_fX5, "__init__", "InvalidCorners.__init__", defArgs st_InvalidCorners___init__, defBody st_InvalidCorners___init__, defScope st_InvalidCorners___init__, ["__class__"]⟩,
  ⟨ad_fX6, "__init__", "InvalidTiles.__init__", defArgs st_InvalidTiles___init__, defBody st_InvalidTiles___init__, defScope st_InvalidTiles___init__, ["__class__"]⟩,
  ⟨ad_fX7, "__init__", "InvalidDeed.__init__", defArgs st_InvalidDeed___init__, defBody st_InvalidDeed___init__, defScope st_InvalidDeed___init__, ["__class__"]⟩,
  ⟨ad_fX8, "__init__", "InvalidName.__init__", defArgs st_InvalidName___init__, defBody st_InvalidName___init__, defScope st_InvalidName___init__, ["__class__"]⟩,
  ⟨ad_fX9, "__init__", "DuplicateName.__init__", defArgs st_DuplicateName___init__, defBody st_DuplicateName___init__, defScope st_DuplicateName___init__, ["__class__"]⟩,
  ⟨ad_fX10, "__init__", "SplitSide.__init__", defArgs st_SplitSide___init__, defBody st_SplitSide___init__, defScope st_SplitSide___init__, ["__class__"]⟩,
  ⟨ad_fX11, "__init__", "InvalidWall.__init__", defArgs st_InvalidWall___init__, defBody st_InvalidWall___init__, defScope st_InvalidWall___init__, ["__class__"]⟩,
  ⟨ad_fX12, "__init__", "MarkedSide.__init__", defArgs st_MarkedSide___init__, defBody st_MarkedSide___init__, defScope st_MarkedSide___init__, ["__class__"]⟩,
  ⟨ad_fX13, "__init__", "TooMany.__init__", defArgs st_TooMany___init__, defBody st_TooMany___init__, defScope st_TooMany___init__, ["__class__"]⟩,
  ⟨ad_fX14, "__init__", "TooFar.__init__", defArgs st_TooFar___init__, defBody st_TooFar___init__, defScope st_TooFar___init__, ["__class__"]⟩,
  ⟨ad_fX15, "__init__", "InvalidPlace.__init__", defArgs st_InvalidPlace___init__, defBody st_InvalidPlace___init__, defScope st_InvalidPlace___init__, ["__class__"]⟩,
  ⟨ad_fX16, "__init__", "InvalidRound.__init__", defArgs st_InvalidRound___init__, defBody st_InvalidRound___init__, defScope st_InvalidRound___init__, ["__class__"]⟩,
  ⟨ad_fX17, "__init__", "LooseCorner.__init__", defArgs st_LooseCorner___init__, defBody st_LooseCorner___init__, defScope st_LooseCorner___init__, ["__class__"]⟩,
  ⟨ad_fX18, "__init__", "Overlap.__init__", defArgs st_Overlap___init__, defBody st_Overlap___init__, defScope st_Overlap___init__, ["__class__"]⟩,
  ⟨ad_fX19, "__init__", "InvalidChord.__init__", defArgs st_InvalidChord___init__, defBody st_InvalidChord___init__, defScope st_InvalidChord___init__, ["__class__"]⟩,
  ⟨ad_fX20, "__init__", "NotJoined.__init__", defArgs st_NotJoined___init__, defBody st_NotJoined___init__, defScope st_NotJoined___init__, ["__class__"]⟩,
  ⟨ad_fX21, "__init__", "NotConvex.__init__", defArgs st_NotConvex___init__, defBody st_NotConvex___init__, defScope st_NotConvex___init__, ["__class__"]⟩,
  ⟨ad_fX22, "__init__", "InvalidWinds.__init__", defArgs st_InvalidWinds___init__, defBody st_InvalidWinds___init__, defScope st_InvalidWinds___init__, ["__class__"]⟩,
  ⟨ad_fX23, "__init__", "UnknownTile.__init__", defArgs st_UnknownTile___init__, defBody st_UnknownTile___init__, defScope st_UnknownTile___init__, ["__class__"]⟩,
  ⟨ad_fX24, "__init__", "UnknownSide.__init__", defArgs st_UnknownSide___init__, defBody st_UnknownSide___init__, defScope st_UnknownSide___init__, ["__class__"]⟩,
  ⟨ad_fX25, "__init__", "UnknownMark.__init__", defArgs st_UnknownMark___init__, defBody st_UnknownMark___init__, defScope st_UnknownMark___init__, ["__class__"]⟩,
  ⟨ad_fX26, "__init__", "NothingLeft.__init__", defArgs st_NothingLeft___init__, defBody st_NothingLeft___init__, defScope st_NothingLeft___init__, ["__class__"]⟩]
section
variable {K : PySem.W.Frag}
theorem fa_hn (c : HK.Says fs dfs K) : PySem.W.specialIn K (.builtin "object.__class__") "__get__" = some (some (.builtin "getset_descriptor.__get__")) := HK.dB (c.fact 0 0 rfl rfl)
theorem fa_htk (c : HK.Says fs dfs K) : PySem.W.takesIn K (.builtin "object.__class__") = some true := HK.dB (c.fact 0 1 rfl rfl)
theorem fa_a0 (c : HK.Says fs dfs K) : PySem.W.nsIn K mainGlobals "_law_start" = some (some (.ref (ad_f0 K))) := HK.dB (c.fact 0 2 rfl rfl)
theorem ex_l0 (c : HK.Says fs dfs K) : (∃ oc od osl doc pm an ct, K.lookup (ad_f0 K) = some ⟨oc, od, .func (PySem.W.fnOf "_law_start" "_law_start" (defArgs st__law_start) (defBody st__law_start) (defScope st__law_start) .none (HK.fdAt K (ad_f0 K)).kwdefaults doc pm an (HK.fdAt K (ad_f0 K)).code ct), osl⟩) ∧ PySem.W.codeIn K (HK.fdAt K (ad_f0 K)).code "_law_start" = true := c.fn 0 (dV := .none) (kV := (HK.fdAt K (ad_f0 K)).kwdefaults) (cdv := (HK.fdAt K (ad_f0 K)).code) rfl rfl (HK.dB (c.fact 0 3 rfl rfl)) rfl rfl
theorem fa_k0 (c : HK.Says fs dfs K) : PySem.W.keepIn K (.ref (ad_f0 K)) = true := (c.fact 0 4 rfl rfl)
theorem fa_a1 (c : HK.Says fs dfs K) : PySem.W.nsIn K mainGlobals "_law_pull" = some (some (.ref (ad_f1 K))) := HK.dB (c.fact 0 5 rfl rfl)
theorem ex_l1 (c : HK.Says fs dfs K) : (∃ oc od osl doc pm an ct, K.lookup (ad_f1 K) = some ⟨oc, od, .func (PySem.W.fnOf "_law_pull" "_law_pull" (defArgs st__law_pull) (defBody st__law_pull) (defScope st__law_pull) .none (HK.fdAt K (ad_f1 K)).kwdefaults doc pm an (HK.fdAt K (ad_f1 K)).code ct), osl⟩) ∧ PySem.W.codeIn K (HK.fdAt K (ad_f1 K)).code "_law_pull" = true := c.fn 1 (dV := .none) (kV := (HK.fdAt K (ad_f1 K)).kwdefaults) (cdv := (HK.fdAt K (ad_f1 K)).code) rfl rfl (HK.dB (c.fact 0 6 rfl rfl)) rfl rfl
theorem fa_k1 (c : HK.Says fs dfs K) : PySem.W.keepIn K (.ref (ad_f1 K)) = true := (c.fact 0 7 rfl rfl)
theorem fa_a2 (c : HK.Says fs dfs K) : PySem.W.nsIn K mainGlobals "_law_pick" = some (some (.ref (ad_f2 K))) := HK.dB (c.fact 0 8 rfl rfl)
theorem ex_l2 (c : HK.Says fs dfs K) : (∃ oc od osl doc pm an ct, K.lookup (ad_f2 K) = some ⟨oc, od, .func (PySem.W.fnOf "_law_pick" "_law_pick" (defArgs st__law_pick) (defBody st__law_pick) (defScope st__law_pick) .none (HK.fdAt K (ad_f2 K)).kwdefaults doc pm an (HK.fdAt K (ad_f2 K)).code ct), osl⟩) ∧ PySem.W.codeIn K (HK.fdAt K (ad_f2 K)).code "_law_pick" = true := c.fn 2 (dV := .none) (kV := (HK.fdAt K (ad_f2 K)).kwdefaults) (cdv := (HK.fdAt K (ad_f2 K)).code) rfl rfl (HK.dB (c.fact 0 9 rfl rfl)) rfl rfl
theorem fa_k2 (c : HK.Says fs dfs K) : PySem.W.keepIn K (.ref (ad_f2 K)) = true := (c.fact 0 10 rfl rfl)
theorem fa_a3 (c : HK.Says fs dfs K) : PySem.W.nsIn K mainGlobals "_law_stray" = some (some (.ref (ad_f3 K))) := HK.dB (c.fact 0 11 rfl rfl)
theorem ex_l3 (c : HK.Says fs dfs K) : (∃ oc od osl doc pm an ct, K.lookup (ad_f3 K) = some ⟨oc, od, .func (PySem.W.fnOf "_law_stray" "_law_stray" (defArgs st__law_stray) (defBody st__law_stray) (defScope st__law_stray) .none (HK.fdAt K (ad_f3 K)).kwdefaults doc pm an (HK.fdAt K (ad_f3 K)).code ct), osl⟩) ∧ PySem.W.codeIn K (HK.fdAt K (ad_f3 K)).code "_law_stray" = true := c.fn 3 (dV := .none) (kV := (HK.fdAt K (ad_f3 K)).kwdefaults) (cdv := (HK.fdAt K (ad_f3 K)).code) rfl rfl (HK.dB (c.fact 0 12 rfl rfl)) rfl rfl
theorem fa_k3 (c : HK.Says fs dfs K) : PySem.W.keepIn K (.ref (ad_f3 K)) = true := (c.fact 0 13 rfl rfl)
theorem fa_a4 (c : HK.Says fs dfs K) : PySem.W.nsIn K mainGlobals "_law_sort" = some (some (.ref (ad_f4 K))) := HK.dB (c.fact 0 14 rfl rfl)
theorem ex_l4 (c : HK.Says fs dfs K) : (∃ oc od osl doc pm an ct, K.lookup (ad_f4 K) = some ⟨oc, od, .func (PySem.W.fnOf "_law_sort" "_law_sort" (defArgs st__law_sort) (defBody st__law_sort) (defScope st__law_sort) .none (HK.fdAt K (ad_f4 K)).kwdefaults doc pm an (HK.fdAt K (ad_f4 K)).code ct), osl⟩) ∧ PySem.W.codeIn K (HK.fdAt K (ad_f4 K)).code "_law_sort" = true := c.fn 4 (dV := .none) (kV := (HK.fdAt K (ad_f4 K)).kwdefaults) (cdv := (HK.fdAt K (ad_f4 K)).code) rfl rfl (HK.dB (c.fact 0 15 rfl rfl)) rfl rfl
theorem fa_k4 (c : HK.Says fs dfs K) : PySem.W.keepIn K (.ref (ad_f4 K)) = true := (c.fact 0 16 rfl rfl)
theorem fa_a5 (c : HK.Says fs dfs K) : PySem.W.nsIn K mainGlobals "_law_same" = some (some (.ref (ad_f5 K))) := HK.dB (c.fact 0 17 rfl rfl)
theorem ex_l5 (c : HK.Says fs dfs K) : (∃ oc od osl doc pm an ct, K.lookup (ad_f5 K) = some ⟨oc, od, .func (PySem.W.fnOf "_law_same" "_law_same" (defArgs st__law_same) (defBody st__law_same) (defScope st__law_same) .none (HK.fdAt K (ad_f5 K)).kwdefaults doc pm an (HK.fdAt K (ad_f5 K)).code ct), osl⟩) ∧ PySem.W.codeIn K (HK.fdAt K (ad_f5 K)).code "_law_same" = true := c.fn 5 (dV := .none) (kV := (HK.fdAt K (ad_f5 K)).kwdefaults) (cdv := (HK.fdAt K (ad_f5 K)).code) rfl rfl (HK.dB (c.fact 0 18 rfl rfl)) rfl rfl
theorem fa_k5 (c : HK.Says fs dfs K) : PySem.W.keepIn K (.ref (ad_f5 K)) = true := (c.fact 0 19 rfl rfl)
theorem fa_a6 (c : HK.Says fs dfs K) : PySem.W.nsIn K mainGlobals "_law_fields" = some (some (.ref (ad_f6 K))) := HK.dB (c.fact 0 20 rfl rfl)
theorem ex_l6 (c : HK.Says fs dfs K) : (∃ oc od osl doc pm an ct, K.lookup (ad_f6 K) = some ⟨oc, od, .func (PySem.W.fnOf "_law_fields" "_law_fields" (defArgs st__law_fields) (defBody st__law_fields) (defScope st__law_fields) .none (HK.fdAt K (ad_f6 K)).kwdefaults doc pm an (HK.fdAt K (ad_f6 K)).code ct), osl⟩) ∧ PySem.W.codeIn K (HK.fdAt K (ad_f6 K)).code "_law_fields" = true := c.fn 6 (dV := .none) (kV := (HK.fdAt K (ad_f6 K)).kwdefaults) (cdv := (HK.fdAt K (ad_f6 K)).code) rfl rfl (HK.dB (c.fact 0 21 rfl rfl)) rfl rfl
theorem fa_k6 (c : HK.Says fs dfs K) : PySem.W.keepIn K (.ref (ad_f6 K)) = true := (c.fact 0 22 rfl rfl)
theorem fa_a7 (c : HK.Says fs dfs K) : PySem.W.nsIn K mainGlobals "_law_kinds_apart" = some (some (.ref (ad_f7 K))) := HK.dB (c.fact 0 23 rfl rfl)
theorem ex_l7 (c : HK.Says fs dfs K) : (∃ oc od osl doc pm an ct, K.lookup (ad_f7 K) = some ⟨oc, od, .func (PySem.W.fnOf "_law_kinds_apart" "_law_kinds_apart" (defArgs st__law_kinds_apart) (defBody st__law_kinds_apart) (defScope st__law_kinds_apart) .none (HK.fdAt K (ad_f7 K)).kwdefaults doc pm an (HK.fdAt K (ad_f7 K)).code ct), osl⟩) ∧ PySem.W.codeIn K (HK.fdAt K (ad_f7 K)).code "_law_kinds_apart" = true := c.fn 7 (dV := .none) (kV := (HK.fdAt K (ad_f7 K)).kwdefaults) (cdv := (HK.fdAt K (ad_f7 K)).code) rfl rfl (HK.dB (c.fact 0 24 rfl rfl)) rfl rfl
theorem fa_k7 (c : HK.Says fs dfs K) : PySem.W.keepIn K (.ref (ad_f7 K)) = true := (c.fact 1 0 rfl rfl)
theorem fa_a8 (c : HK.Says fs dfs K) : PySem.W.nsIn K mainGlobals "_law_errors_so" = some (some (.ref (ad_f8 K))) := HK.dB (c.fact 1 1 rfl rfl)
theorem ex_l8 (c : HK.Says fs dfs K) : (∃ oc od osl doc pm an ct, K.lookup (ad_f8 K) = some ⟨oc, od, .func (PySem.W.fnOf "_law_errors_so" "_law_errors_so" (defArgs st__law_errors_so) (defBody st__law_errors_so) (defScope st__law_errors_so) .none (HK.fdAt K (ad_f8 K)).kwdefaults doc pm an (HK.fdAt K (ad_f8 K)).code ct), osl⟩) ∧ PySem.W.codeIn K (HK.fdAt K (ad_f8 K)).code "_law_errors_so" = true := c.fn 8 (dV := .none) (kV := (HK.fdAt K (ad_f8 K)).kwdefaults) (cdv := (HK.fdAt K (ad_f8 K)).code) rfl rfl (HK.dB (c.fact 1 2 rfl rfl)) rfl rfl
theorem fa_k8 (c : HK.Says fs dfs K) : PySem.W.keepIn K (.ref (ad_f8 K)) = true := (c.fact 1 3 rfl rfl)
theorem fa_a9 (c : HK.Says fs dfs K) : PySem.W.nsIn K mainGlobals "law" = some (some (.ref (ad_f9 K))) := HK.dB (c.fact 1 4 rfl rfl)
theorem ex_l9 (c : HK.Says fs dfs K) : (∃ oc od osl doc pm an ct, K.lookup (ad_f9 K) = some ⟨oc, od, .func (PySem.W.fnOf "law" "law" (defArgs st_law) (defBody st_law) (defScope st_law) .none (HK.fdAt K (ad_f9 K)).kwdefaults doc pm an (HK.fdAt K (ad_f9 K)).code ct), osl⟩) ∧ PySem.W.codeIn K (HK.fdAt K (ad_f9 K)).code "law" = true := c.fn 9 (dV := .none) (kV := (HK.fdAt K (ad_f9 K)).kwdefaults) (cdv := (HK.fdAt K (ad_f9 K)).code) rfl rfl (HK.dB (c.fact 1 5 rfl rfl)) rfl rfl
theorem fa_k9 (c : HK.Says fs dfs K) : PySem.W.keepIn K (.ref (ad_f9 K)) = true := (c.fact 1 6 rfl rfl)
theorem fa_b_IndexError (c : HK.Says fs dfs K) : PySem.W.nsIn K mainGlobals "IndexError" = some none := HK.dB (c.fact 1 7 rfl rfl)
theorem fa_b_LookupError (c : HK.Says fs dfs K) : PySem.W.nsIn K mainGlobals "LookupError" = some none := HK.dB (c.fact 1 8 rfl rfl)
theorem fa_b_ValueError (c : HK.Says fs dfs K) : PySem.W.nsIn K mainGlobals "ValueError" = some none := HK.dB (c.fact 1 9 rfl rfl)
theorem fa_b_all (c : HK.Says fs dfs K) : PySem.W.nsIn K mainGlobals "all" = some none := HK.dB (c.fact 1 10 rfl rfl)
theorem fa_b_bool (c : HK.Says fs dfs K) : PySem.W.nsIn K mainGlobals "bool" = some none := HK.dB (c.fact 1 11 rfl rfl)
theorem fa_b_int (c : HK.Says fs dfs K) : PySem.W.nsIn K mainGlobals "int" = some none := HK.dB (c.fact 1 12 rfl rfl)
theorem fa_b_isinstance (c : HK.Says fs dfs K) : PySem.W.nsIn K mainGlobals "isinstance" = some none := HK.dB (c.fact 1 13 rfl rfl)
theorem fa_b_len (c : HK.Says fs dfs K) : PySem.W.nsIn K mainGlobals "len" = some none := HK.dB (c.fact 1 14 rfl rfl)
theorem fa_b_list (c : HK.Says fs dfs K) : PySem.W.nsIn K mainGlobals "list" = some none := HK.dB (c.fact 1 15 rfl rfl)
theorem fa_b_str (c : HK.Says fs dfs K) : PySem.W.nsIn K mainGlobals "str" = some none := HK.dB (c.fact 1 16 rfl rfl)
theorem fa_b_tuple (c : HK.Says fs dfs K) : PySem.W.nsIn K mainGlobals "tuple" = some none := HK.dB (c.fact 1 17 rfl rfl)
theorem fa_b_zip (c : HK.Says fs dfs K) : PySem.W.nsIn K mainGlobals "zip" = some none := HK.dB (c.fact 1 18 rfl rfl)
theorem fa_gG (c : HK.Says fs dfs K) : PySem.W.nsIn K mainGlobals "GustError" = some (some (.ref (ad_GE K))) := HK.dB (c.fact 1 19 rfl rfl)
theorem fa_gM (c : HK.Says fs dfs K) : PySem.W.nsIn K mainGlobals "Missing" = some (some (.ref (ad_MI K))) := HK.dB (c.fact 1 20 rfl rfl)
theorem fa_gValueError (c : HK.Says fs dfs K) : PySem.W.nsIn K mainGlobals "ValueError" = some none := HK.dB (c.fact 1 21 rfl rfl)
theorem fa_gLookupError (c : HK.Says fs dfs K) : PySem.W.nsIn K mainGlobals "LookupError" = some none := HK.dB (c.fact 1 22 rfl rfl)
theorem fa_gIndexError (c : HK.Says fs dfs K) : PySem.W.nsIn K mainGlobals "IndexError" = some none := HK.dB (c.fact 1 23 rfl rfl)
theorem fa_suX (c : HK.Says fs dfs K) : PySem.W.nsIn K mainGlobals "super" = some none := HK.dB (c.fact 1 24 rfl rfl)
theorem fa_opX (c : HK.Says fs dfs K) : PySem.W.nsIn K cStatics "thirdparty.any" = some none := HK.dB (c.fact 2 0 rfl rfl)
theorem fa_aX0 (c : HK.Says fs dfs K) : PySem.W.nsIn K mainGlobals "InvalidRatio" = some (some (.ref (ad_CX0 K))) := HK.dB (c.fact 2 1 rfl rfl)
theorem ex_lX0 (c : HK.Says fs dfs K) : ∃ nm q N bs bm sn sub ab col dd k0 k1 k2 k3 k5, K.lookup (ad_CX0 K) = some (excClassObj nm q (ad_CX0 K) N bs bm true sn sub ab col dd k0 k1 k2 k3 k5 "ValueError.__new__") ∧ PySem.W.excTail [.type "ValueError", .type "Exception", .type "BaseException", .type "object"] bm = true := HK.exB_ok (c.fact 2 2 rfl rfl)
theorem fa_obX0 (c : HK.Says fs dfs K) : oxB K "ValueError" (ad_CX0 K) = true := (c.fact 2 3 rfl rfl)
theorem fa_iX0 (c : HK.Says fs dfs K) : PySem.W.findIn K (.ref (ad_CX0 K)) "__init__" = some (some (.ref (ad_fX0 K))) := HK.dB (c.fact 2 4 rfl rfl)
theorem fa_tiX0 (c : HK.Says fs dfs K) : PySem.W.typeIn K (.ref (ad_fX0 K)) = some (.type "function") := HK.dB (c.fact 2 5 rfl rfl)
theorem ex_lfX0 (c : HK.Says fs dfs K) : (∃ oc od osl doc pm an ct, K.lookup (ad_fX0 K) = some ⟨oc, od, .func (PySem.W.ksFn "__init__" "InvalidRatio.__init__" (defArgs st_InvalidRatio___init__) (defBody st_InvalidRatio___init__) (defScope st_InvalidRatio___init__) .none (HK.fdAt K (ad_fX0 K)).kwdefaults doc pm an (.ref (ad_cdX0 K)) ct (ad_ccX0 K)), osl⟩) ∧ PySem.W.codeIn K (.ref (ad_cdX0 K)) "InvalidRatio.__init__" = true := c.fnC 10 (dV := .none) (kV := (HK.fdAt K (ad_fX0 K)).kwdefaults) (cdv := (.ref (ad_cdX0 K))) rfl rfl (HK.dB (c.fact 2 6 rfl rfl)) rfl (HK.dB (c.fact 2 7 rfl rfl))
theorem ex_lcX0 (c : HK.Says fs dfs K) : ∃ e dd sl, K.lookup (ad_cdX0 K) = some ⟨e, dd, .fields (HK.fsAt K (ad_cdX0 K)), sl⟩ := HK.isFields_ok (c.fact 2 8 rfl rfl)
theorem ex_h2X0 (c : HK.Says fs dfs K) : ∃ f t, (HK.fsAt K (ad_cdX0 K))[2]? = some (Value.str f t) ∧ ((RW.prog.main.file : Str) == f) = true := HK.fileB_ok (c.fact 2 9 rfl rfl)
theorem ex_lccX0 (c : HK.Says fs dfs K) : ∃ e d s, K.lookup (ad_ccX0 K) = some ⟨e, d, .cell (some (.ref (ad_CX0 K))), s⟩ := HK.cellB_ok (c.fact 2 10 rfl rfl)
theorem fa_xfX0 (c : HK.Says fs dfs K) : xfB K (ad_CX0 K) = true := (c.fact 2 11 rfl rfl)
theorem fa_noX0 (c : HK.Says fs dfs K) : noB K (ad_CX0 K) NOSX = true := (c.fact 2 12 rfl rfl)
theorem fa_aX1 (c : HK.Says fs dfs K) : PySem.W.nsIn K mainGlobals "InvalidSpan" = some (some (.ref (ad_CX1 K))) := HK.dB (c.fact 2 13 rfl rfl)
theorem ex_lX1 (c : HK.Says fs dfs K) : ∃ nm q N bs bm sn sub ab col dd k0 k1 k2 k3 k5, K.lookup (ad_CX1 K) = some (excClassObj nm q (ad_CX1 K) N bs bm true sn sub ab col dd k0 k1 k2 k3 k5 "ValueError.__new__") ∧ PySem.W.excTail [.type "ValueError", .type "Exception", .type "BaseException", .type "object"] bm = true := HK.exB_ok (c.fact 2 14 rfl rfl)
theorem fa_obX1 (c : HK.Says fs dfs K) : oxB K "ValueError" (ad_CX1 K) = true := (c.fact 2 15 rfl rfl)
theorem fa_iX1 (c : HK.Says fs dfs K) : PySem.W.findIn K (.ref (ad_CX1 K)) "__init__" = some (some (.ref (ad_fX1 K))) := HK.dB (c.fact 2 16 rfl rfl)
theorem fa_tiX1 (c : HK.Says fs dfs K) : PySem.W.typeIn K (.ref (ad_fX1 K)) = some (.type "function") := HK.dB (c.fact 2 17 rfl rfl)
theorem ex_lfX1 (c : HK.Says fs dfs K) : (∃ oc od osl doc pm an ct, K.lookup (ad_fX1 K) = some ⟨oc, od, .func (PySem.W.ksFn "__init__" "InvalidSpan.__init__" (defArgs st_InvalidSpan___init__) (defBody st_InvalidSpan___init__) (defScope st_InvalidSpan___init__) .none (HK.fdAt K (ad_fX1 K)).kwdefaults doc pm an (.ref (ad_cdX1 K)) ct (ad_ccX1 K)), osl⟩) ∧ PySem.W.codeIn K (.ref (ad_cdX1 K)) "InvalidSpan.__init__" = true := c.fnC 11 (dV := .none) (kV := (HK.fdAt K (ad_fX1 K)).kwdefaults) (cdv := (.ref (ad_cdX1 K))) rfl rfl (HK.dB (c.fact 2 18 rfl rfl)) rfl (HK.dB (c.fact 2 19 rfl rfl))
theorem ex_lcX1 (c : HK.Says fs dfs K) : ∃ e dd sl, K.lookup (ad_cdX1 K) = some ⟨e, dd, .fields (HK.fsAt K (ad_cdX1 K)), sl⟩ := HK.isFields_ok (c.fact 2 20 rfl rfl)
theorem ex_h2X1 (c : HK.Says fs dfs K) : ∃ f t, (HK.fsAt K (ad_cdX1 K))[2]? = some (Value.str f t) ∧ ((RW.prog.main.file : Str) == f) = true := HK.fileB_ok (c.fact 2 21 rfl rfl)
theorem ex_lccX1 (c : HK.Says fs dfs K) : ∃ e d s, K.lookup (ad_ccX1 K) = some ⟨e, d, .cell (some (.ref (ad_CX1 K))), s⟩ := HK.cellB_ok (c.fact 2 22 rfl rfl)
theorem fa_xfX1 (c : HK.Says fs dfs K) : xfB K (ad_CX1 K) = true := (c.fact 2 23 rfl rfl)
theorem fa_noX1 (c : HK.Says fs dfs K) : noB K (ad_CX1 K) NOSX = true := (c.fact 2 24 rfl rfl)
theorem fa_aX2 (c : HK.Says fs dfs K) : PySem.W.nsIn K mainGlobals "InvalidCount" = some (some (.ref (ad_CX2 K))) := HK.dB (c.fact 3 0 rfl rfl)
theorem ex_lX2 (c : HK.Says fs dfs K) : ∃ nm q N bs bm sn sub ab col dd k0 k1 k2 k3 k5, K.lookup (ad_CX2 K) = some (excClassObj nm q (ad_CX2 K) N bs bm true sn sub ab col dd k0 k1 k2 k3 k5 "ValueError.__new__") ∧ PySem.W.excTail [.type "ValueError", .type "Exception", .type "BaseException", .type "object"] bm = true := HK.exB_ok (c.fact 3 1 rfl rfl)
theorem fa_obX2 (c : HK.Says fs dfs K) : oxB K "ValueError" (ad_CX2 K) = true := (c.fact 3 2 rfl rfl)
theorem fa_iX2 (c : HK.Says fs dfs K) : PySem.W.findIn K (.ref (ad_CX2 K)) "__init__" = some (some (.ref (ad_fX2 K))) := HK.dB (c.fact 3 3 rfl rfl)
theorem fa_tiX2 (c : HK.Says fs dfs K) : PySem.W.typeIn K (.ref (ad_fX2 K)) = some (.type "function") := HK.dB (c.fact 3 4 rfl rfl)
theorem ex_lfX2 (c : HK.Says fs dfs K) : (∃ oc od osl doc pm an ct, K.lookup (ad_fX2 K) = some ⟨oc, od, .func (PySem.W.ksFn "__init__" "InvalidCount.__init__" (defArgs st_InvalidCount___init__) (defBody st_InvalidCount___init__) (defScope st_InvalidCount___init__) .none (HK.fdAt K (ad_fX2 K)).kwdefaults doc pm an (.ref (ad_cdX2 K)) ct (ad_ccX2 K)), osl⟩) ∧ PySem.W.codeIn K (.ref (ad_cdX2 K)) "InvalidCount.__init__" = true := c.fnC 12 (dV := .none) (kV := (HK.fdAt K (ad_fX2 K)).kwdefaults) (cdv := (.ref (ad_cdX2 K))) rfl rfl (HK.dB (c.fact 3 5 rfl rfl)) rfl (HK.dB (c.fact 3 6 rfl rfl))
theorem ex_lcX2 (c : HK.Says fs dfs K) : ∃ e dd sl, K.lookup (ad_cdX2 K) = some ⟨e, dd, .fields (HK.fsAt K (ad_cdX2 K)), sl⟩ := HK.isFields_ok (c.fact 3 7 rfl rfl)
theorem ex_h2X2 (c : HK.Says fs dfs K) : ∃ f t, (HK.fsAt K (ad_cdX2 K))[2]? = some (Value.str f t) ∧ ((RW.prog.main.file : Str) == f) = true := HK.fileB_ok (c.fact 3 8 rfl rfl)
theorem ex_lccX2 (c : HK.Says fs dfs K) : ∃ e d s, K.lookup (ad_ccX2 K) = some ⟨e, d, .cell (some (.ref (ad_CX2 K))), s⟩ := HK.cellB_ok (c.fact 3 9 rfl rfl)
theorem fa_xfX2 (c : HK.Says fs dfs K) : xfB K (ad_CX2 K) = true := (c.fact 3 10 rfl rfl)
theorem fa_noX2 (c : HK.Says fs dfs K) : noB K (ad_CX2 K) NOSX = true := (c.fact 3 11 rfl rfl)
theorem fa_aX3 (c : HK.Says fs dfs K) : PySem.W.nsIn K mainGlobals "InvalidLimit" = some (some (.ref (ad_CX3 K))) := HK.dB (c.fact 3 12 rfl rfl)
theorem ex_lX3 (c : HK.Says fs dfs K) : ∃ nm q N bs bm sn sub ab col dd k0 k1 k2 k3 k5, K.lookup (ad_CX3 K) = some (excClassObj nm q (ad_CX3 K) N bs bm true sn sub ab col dd k0 k1 k2 k3 k5 "ValueError.__new__") ∧ PySem.W.excTail [.type "ValueError", .type "Exception", .type "BaseException", .type "object"] bm = true := HK.exB_ok (c.fact 3 13 rfl rfl)
theorem fa_obX3 (c : HK.Says fs dfs K) : oxB K "ValueError" (ad_CX3 K) = true := (c.fact 3 14 rfl rfl)
theorem fa_iX3 (c : HK.Says fs dfs K) : PySem.W.findIn K (.ref (ad_CX3 K)) "__init__" = some (some (.ref (ad_fX3 K))) := HK.dB (c.fact 3 15 rfl rfl)
theorem fa_tiX3 (c : HK.Says fs dfs K) : PySem.W.typeIn K (.ref (ad_fX3 K)) = some (.type "function") := HK.dB (c.fact 3 16 rfl rfl)
theorem ex_lfX3 (c : HK.Says fs dfs K) : (∃ oc od osl doc pm an ct, K.lookup (ad_fX3 K) = some ⟨oc, od, .func (PySem.W.ksFn "__init__" "InvalidLimit.__init__" (defArgs st_InvalidLimit___init__) (defBody st_InvalidLimit___init__) (defScope st_InvalidLimit___init__) .none (HK.fdAt K (ad_fX3 K)).kwdefaults doc pm an (.ref (ad_cdX3 K)) ct (ad_ccX3 K)), osl⟩) ∧ PySem.W.codeIn K (.ref (ad_cdX3 K)) "InvalidLimit.__init__" = true := c.fnC 13 (dV := .none) (kV := (HK.fdAt K (ad_fX3 K)).kwdefaults) (cdv := (.ref (ad_cdX3 K))) rfl rfl (HK.dB (c.fact 3 17 rfl rfl)) rfl (HK.dB (c.fact 3 18 rfl rfl))
theorem ex_lcX3 (c : HK.Says fs dfs K) : ∃ e dd sl, K.lookup (ad_cdX3 K) = some ⟨e, dd, .fields (HK.fsAt K (ad_cdX3 K)), sl⟩ := HK.isFields_ok (c.fact 3 19 rfl rfl)
theorem ex_h2X3 (c : HK.Says fs dfs K) : ∃ f t, (HK.fsAt K (ad_cdX3 K))[2]? = some (Value.str f t) ∧ ((RW.prog.main.file : Str) == f) = true := HK.fileB_ok (c.fact 3 20 rfl rfl)
theorem ex_lccX3 (c : HK.Says fs dfs K) : ∃ e d s, K.lookup (ad_ccX3 K) = some ⟨e, d, .cell (some (.ref (ad_CX3 K))), s⟩ := HK.cellB_ok (c.fact 3 21 rfl rfl)
theorem fa_xfX3 (c : HK.Says fs dfs K) : xfB K (ad_CX3 K) = true := (c.fact 3 22 rfl rfl)
theorem fa_noX3 (c : HK.Says fs dfs K) : noB K (ad_CX3 K) NOSX = true := (c.fact 3 23 rfl rfl)
theorem fa_aX4 (c : HK.Says fs dfs K) : PySem.W.nsIn K mainGlobals "InvalidText" = some (some (.ref (ad_CX4 K))) := HK.dB (c.fact 3 24 rfl rfl)
theorem ex_lX4 (c : HK.Says fs dfs K) : ∃ nm q N bs bm sn sub ab col dd k0 k1 k2 k3 k5, K.lookup (ad_CX4 K) = some (excClassObj nm q (ad_CX4 K) N bs bm true sn sub ab col dd k0 k1 k2 k3 k5 "ValueError.__new__") ∧ PySem.W.excTail [.type "ValueError", .type "Exception", .type "BaseException", .type "object"] bm = true := HK.exB_ok (c.fact 4 0 rfl rfl)
theorem fa_obX4 (c : HK.Says fs dfs K) : oxB K "ValueError" (ad_CX4 K) = true := (c.fact 4 1 rfl rfl)
theorem fa_iX4 (c : HK.Says fs dfs K) : PySem.W.findIn K (.ref (ad_CX4 K)) "__init__" = some (some (.ref (ad_fX4 K))) := HK.dB (c.fact 4 2 rfl rfl)
theorem fa_tiX4 (c : HK.Says fs dfs K) : PySem.W.typeIn K (.ref (ad_fX4 K)) = some (.type "function") := HK.dB (c.fact 4 3 rfl rfl)
theorem ex_lfX4 (c : HK.Says fs dfs K) : (∃ oc od osl doc pm an ct, K.lookup (ad_fX4 K) = some ⟨oc, od, .func (PySem.W.ksFn "__init__" "InvalidText.__init__" (defArgs st_InvalidText___init__) (defBody st_InvalidText___init__) (defScope st_InvalidText___init__) .none (HK.fdAt K (ad_fX4 K)).kwdefaults doc pm an (.ref (ad_cdX4 K)) ct (ad_ccX4 K)), osl⟩) ∧ PySem.W.codeIn K (.ref (ad_cdX4 K)) "InvalidText.__init__" = true := c.fnC 14 (dV := .none) (kV := (HK.fdAt K (ad_fX4 K)).kwdefaults) (cdv := (.ref (ad_cdX4 K))) rfl rfl (HK.dB (c.fact 4 4 rfl rfl)) rfl (HK.dB (c.fact 4 5 rfl rfl))
theorem ex_lcX4 (c : HK.Says fs dfs K) : ∃ e dd sl, K.lookup (ad_cdX4 K) = some ⟨e, dd, .fields (HK.fsAt K (ad_cdX4 K)), sl⟩ := HK.isFields_ok (c.fact 4 6 rfl rfl)
theorem ex_h2X4 (c : HK.Says fs dfs K) : ∃ f t, (HK.fsAt K (ad_cdX4 K))[2]? = some (Value.str f t) ∧ ((RW.prog.main.file : Str) == f) = true := HK.fileB_ok (c.fact 4 7 rfl rfl)
theorem ex_lccX4 (c : HK.Says fs dfs K) : ∃ e d s, K.lookup (ad_ccX4 K) = some ⟨e, d, .cell (some (.ref (ad_CX4 K))), s⟩ := HK.cellB_ok (c.fact 4 8 rfl rfl)
theorem fa_xfX4 (c : HK.Says fs dfs K) : xfB K (ad_CX4 K) = true := (c.fact 4 9 rfl rfl)
theorem fa_noX4 (c : HK.Says fs dfs K) : noB K (ad_CX4 K) NOSX = true := (c.fact 4 10 rfl rfl)
theorem fa_aX5 (c : HK.Says fs dfs K) : PySem.W.nsIn K mainGlobals "InvalidCorners" = some (some (.ref (ad_CX5 K))) := HK.dB (c.fact 4 11 rfl rfl)
theorem ex_lX5 (c : HK.Says fs dfs K) : ∃ nm q N bs bm sn sub ab col dd k0 k1 k2 k3 k5, K.lookup (ad_CX5 K) = some (excClassObj nm q (ad_CX5 K) N bs bm true sn sub ab col dd k0 k1 k2 k3 k5 "ValueError.__new__") ∧ PySem.W.excTail [.type "ValueError", .type "Exception", .type "BaseException", .type "object"] bm = true := HK.exB_ok (c.fact 4 12 rfl rfl)
theorem fa_obX5 (c : HK.Says fs dfs K) : oxB K "ValueError" (ad_CX5 K) = true := (c.fact 4 13 rfl rfl)
theorem fa_iX5 (c : HK.Says fs dfs K) : PySem.W.findIn K (.ref (ad_CX5 K)) "__init__" = some (some (.ref (ad_fX5 K))) := HK.dB (c.fact 4 14 rfl rfl)
theorem fa_tiX5 (c : HK.Says fs dfs K) : PySem.W.typeIn K (.ref (ad_fX5 K)) = some (.type "function") := HK.dB (c.fact 4 15 rfl rfl)
theorem ex_lfX5 (c : HK.Says fs dfs K) : (∃ oc od osl doc pm an ct, K.lookup (ad_fX5 K) = some ⟨oc, od, .func (PySem.W.ksFn "__init__" "InvalidCorners.__init__" (defArgs st_InvalidCorners___init__) (defBody st_InvalidCorners___init__) (defScope st_InvalidCorners___init__) .none (HK.fdAt K (ad_fX5 K)).kwdefaults doc pm an (.ref (ad_cdX5 K)) ct (ad_ccX5 K)), osl⟩) ∧ PySem.W.codeIn K (.ref (ad_cdX5 K)) "InvalidCorners.__init__" = true := c.fnC 15 (dV := .none) (kV := (HK.fdAt K (ad_fX5 K)).kwdefaults) (cdv := (.ref (ad_cdX5 K))) rfl rfl (HK.dB (c.fact 4 16 rfl rfl)) rfl (HK.dB (c.fact 4 17 rfl rfl))
theorem ex_lcX5 (c : HK.Says fs dfs K) : ∃ e dd sl, K.lookup (ad_cdX5 K) = some ⟨e, dd, .fields (HK.fsAt K (ad_cdX5 K)), sl⟩ := HK.isFields_ok (c.fact 4 18 rfl rfl)
theorem ex_h2X5 (c : HK.Says fs dfs K) : ∃ f t, (HK.fsAt K (ad_cdX5 K))[2]? = some (Value.str f t) ∧ ((RW.prog.main.file : Str) == f) = true := HK.fileB_ok (c.fact 4 19 rfl rfl)
theorem ex_lccX5 (c : HK.Says fs dfs K) : ∃ e d s, K.lookup (ad_ccX5 K) = some ⟨e, d, .cell (some (.ref (ad_CX5 K))), s⟩ := HK.cellB_ok (c.fact 4 20 rfl rfl)
theorem fa_xfX5 (c : HK.Says fs dfs K) : xfB K (ad_CX5 K) = true := (c.fact 4 21 rfl rfl)
theorem fa_noX5 (c : HK.Says fs dfs K) : noB K (ad_CX5 K) NOSX = true := (c.fact 4 22 rfl rfl)
theorem fa_aX6 (c : HK.Says fs dfs K) : PySem.W.nsIn K mainGlobals "InvalidTiles" = some (some (.ref (ad_CX6 K))) := HK.dB (c.fact 4 23 rfl rfl)
theorem ex_lX6 (c : HK.Says fs dfs K) : ∃ nm q N bs bm sn sub ab col dd k0 k1 k2 k3 k5, K.lookup (ad_CX6 K) = some (excClassObj nm q (ad_CX6 K) N bs bm true sn sub ab col dd k0 k1 k2 k3 k5 "ValueError.__new__") ∧ PySem.W.excTail [.type "ValueError", .type "Exception", .type "BaseException", .type "object"] bm = true := HK.exB_ok (c.fact 4 24 rfl rfl)
theorem fa_obX6 (c : HK.Says fs dfs K) : oxB K "ValueError" (ad_CX6 K) = true := (c.fact 5 0 rfl rfl)
theorem fa_iX6 (c : HK.Says fs dfs K) : PySem.W.findIn K (.ref (ad_CX6 K)) "__init__" = some (some (.ref (ad_fX6 K))) := HK.dB (c.fact 5 1 rfl rfl)
theorem fa_tiX6 (c : HK.Says fs dfs K) : PySem.W.typeIn K (.ref (ad_fX6 K)) = some (.type "function") := HK.dB (c.fact 5 2 rfl rfl)
theorem ex_lfX6 (c : HK.Says fs dfs K) : (∃ oc od osl doc pm an ct, K.lookup (ad_fX6 K) = some ⟨oc, od, .func (PySem.W.ksFn "__init__" "InvalidTiles.__init__" (defArgs st_InvalidTiles___init__) (defBody st_InvalidTiles___init__) (defScope st_InvalidTiles___init__) .none (HK.fdAt K (ad_fX6 K)).kwdefaults doc pm an (.ref (ad_cdX6 K)) ct (ad_ccX6 K)), osl⟩) ∧ PySem.W.codeIn K (.ref (ad_cdX6 K)) "InvalidTiles.__init__" = true := c.fnC 16 (dV := .none) (kV := (HK.fdAt K (ad_fX6 K)).kwdefaults) (cdv := (.ref (ad_cdX6 K))) rfl rfl (HK.dB (c.fact 5 3 rfl rfl)) rfl (HK.dB (c.fact 5 4 rfl rfl))
theorem ex_lcX6 (c : HK.Says fs dfs K) : ∃ e dd sl, K.lookup (ad_cdX6 K) = some ⟨e, dd, .fields (HK.fsAt K (ad_cdX6 K)), sl⟩ := HK.isFields_ok (c.fact 5 5 rfl rfl)
theorem ex_h2X6 (c : HK.Says fs dfs K) : ∃ f t, (HK.fsAt K (ad_cdX6 K))[2]? = some (Value.str f t) ∧ ((RW.prog.main.file : Str) == f) = true := HK.fileB_ok (c.fact 5 6 rfl rfl)
theorem ex_lccX6 (c : HK.Says fs dfs K) : ∃ e d s, K.lookup (ad_ccX6 K) = some ⟨e, d, .cell (some (.ref (ad_CX6 K))), s⟩ := HK.cellB_ok (c.fact 5 7 rfl rfl)
theorem fa_xfX6 (c : HK.Says fs dfs K) : xfB K (ad_CX6 K) = true := (c.fact 5 8 rfl rfl)
theorem fa_noX6 (c : HK.Says fs dfs K) : noB K (ad_CX6 K) NOSX = true := (c.fact 5 9 rfl rfl)
theorem fa_aX7 (c : HK.Says fs dfs K) : PySem.W.nsIn K mainGlobals "InvalidDeed" = some (some (.ref (ad_CX7 K))) := HK.dB (c.fact 5 10 rfl rfl)
theorem ex_lX7 (c : HK.Says fs dfs K) : ∃ nm q N bs bm sn sub ab col dd k0 k1 k2 k3 k5, K.lookup (ad_CX7 K) = some (excClassObj nm q (ad_CX7 K) N bs bm true sn sub ab col dd k0 k1 k2 k3 k5 "ValueError.__new__") ∧ PySem.W.excTail [.type "ValueError", .type "Exception", .type "BaseException", .type "object"] bm = true := HK.exB_ok (c.fact 5 11 rfl rfl)
theorem fa_obX7 (c : HK.Says fs dfs K) : oxB K "ValueError" (ad_CX7 K) = true := (c.fact 5 12 rfl rfl)
theorem fa_iX7 (c : HK.Says fs dfs K) : PySem.W.findIn K (.ref (ad_CX7 K)) "__init__" = some (some (.ref (ad_fX7 K))) := HK.dB (c.fact 5 13 rfl rfl)
theorem fa_tiX7 (c : HK.Says fs dfs K) : PySem.W.typeIn K (.ref (ad_fX7 K)) = some (.type "function") := HK.dB (c.fact 5 14 rfl rfl)
theorem ex_lfX7 (c : HK.Says fs dfs K) : (∃ oc od osl doc pm an ct, K.lookup (ad_fX7 K) = some ⟨oc, od, .func (PySem.W.ksFn "__init__" "InvalidDeed.__init__" (defArgs st_InvalidDeed___init__) (defBody st_InvalidDeed___init__) (defScope st_InvalidDeed___init__) .none (HK.fdAt K (ad_fX7 K)).kwdefaults doc pm an (.ref (ad_cdX7 K)) ct (ad_ccX7 K)), osl⟩) ∧ PySem.W.codeIn K (.ref (ad_cdX7 K)) "InvalidDeed.__init__" = true := c.fnC 17 (dV := .none) (kV := (HK.fdAt K (ad_fX7 K)).kwdefaults) (cdv := (.ref (ad_cdX7 K))) rfl rfl (HK.dB (c.fact 5 15 rfl rfl)) rfl (HK.dB (c.fact 5 16 rfl rfl))
theorem ex_lcX7 (c : HK.Says fs dfs K) : ∃ e dd sl, K.lookup (ad_cdX7 K) = some ⟨e, dd, .fields (HK.fsAt K (ad_cdX7 K)), sl⟩ := HK.isFields_ok (c.fact 5 17 rfl rfl)
theorem ex_h2X7 (c : HK.Says fs dfs K) : ∃ f t, (HK.fsAt K (ad_cdX7 K))[2]? = some (Value.str f t) ∧ ((RW.prog.main.file : Str) == f) = true := HK.fileB_ok (c.fact 5 18 rfl rfl)
theorem ex_lccX7 (c : HK.Says fs dfs K) : ∃ e d s, K.lookup (ad_ccX7 K) = some ⟨e, d, .cell (some (.ref (ad_CX7 K))), s⟩ := HK.cellB_ok (c.fact 5 19 rfl rfl)
theorem fa_xfX7 (c : HK.Says fs dfs K) : xfB K (ad_CX7 K) = true := (c.fact 5 20 rfl rfl)
theorem fa_noX7 (c : HK.Says fs dfs K) : noB K (ad_CX7 K) NOSX = true := (c.fact 5 21 rfl rfl)
theorem fa_aX8 (c : HK.Says fs dfs K) : PySem.W.nsIn K mainGlobals "InvalidName" = some (some (.ref (ad_CX8 K))) := HK.dB (c.fact 5 22 rfl rfl)
theorem ex_lX8 (c : HK.Says fs dfs K) : ∃ nm q N bs bm sn sub ab col dd k0 k1 k2 k3 k5, K.lookup (ad_CX8 K) = some (excClassObj nm q (ad_CX8 K) N bs bm true sn sub ab col dd k0 k1 k2 k3 k5 "ValueError.__new__") ∧ PySem.W.excTail [.type "ValueError", .type "Exception", .type "BaseException", .type "object"] bm = true := HK.exB_ok (c.fact 5 23 rfl rfl)
theorem fa_obX8 (c : HK.Says fs dfs K) : oxB K "ValueError" (ad_CX8 K) = true := (c.fact 5 24 rfl rfl)
theorem fa_iX8 (c : HK.Says fs dfs K) : PySem.W.findIn K (.ref (ad_CX8 K)) "__init__" = some (some (.ref (ad_fX8 K))) := HK.dB (c.fact 6 0 rfl rfl)
theorem fa_tiX8 (c : HK.Says fs dfs K) : PySem.W.typeIn K (.ref (ad_fX8 K)) = some (.type "function") := HK.dB (c.fact 6 1 rfl rfl)
theorem ex_lfX8 (c : HK.Says fs dfs K) : (∃ oc od osl doc pm an ct, K.lookup (ad_fX8 K) = some ⟨oc, od, .func (PySem.W.ksFn "__init__" "InvalidName.__init__" (defArgs st_InvalidName___init__) (defBody st_InvalidName___init__) (defScope st_InvalidName___init__) .none (HK.fdAt K (ad_fX8 K)).kwdefaults doc pm an (.ref (ad_cdX8 K)) ct (ad_ccX8 K)), osl⟩) ∧ PySem.W.codeIn K (.ref (ad_cdX8 K)) "InvalidName.__init__" = true := c.fnC 18 (dV := .none) (kV := (HK.fdAt K (ad_fX8 K)).kwdefaults) (cdv := (.ref (ad_cdX8 K))) rfl rfl (HK.dB (c.fact 6 2 rfl rfl)) rfl (HK.dB (c.fact 6 3 rfl rfl))
theorem ex_lcX8 (c : HK.Says fs dfs K) : ∃ e dd sl, K.lookup (ad_cdX8 K) = some ⟨e, dd, .fields (HK.fsAt K (ad_cdX8 K)), sl⟩ := HK.isFields_ok (c.fact 6 4 rfl rfl)
theorem ex_h2X8 (c : HK.Says fs dfs K) : ∃ f t, (HK.fsAt K (ad_cdX8 K))[2]? = some (Value.str f t) ∧ ((RW.prog.main.file : Str) == f) = true := HK.fileB_ok (c.fact 6 5 rfl rfl)
theorem ex_lccX8 (c : HK.Says fs dfs K) : ∃ e d s, K.lookup (ad_ccX8 K) = some ⟨e, d, .cell (some (.ref (ad_CX8 K))), s⟩ := HK.cellB_ok (c.fact 6 6 rfl rfl)
theorem fa_xfX8 (c : HK.Says fs dfs K) : xfB K (ad_CX8 K) = true := (c.fact 6 7 rfl rfl)
theorem fa_noX8 (c : HK.Says fs dfs K) : noB K (ad_CX8 K) NOSX = true := (c.fact 6 8 rfl rfl)
theorem fa_aX9 (c : HK.Says fs dfs K) : PySem.W.nsIn K mainGlobals "DuplicateName" = some (some (.ref (ad_CX9 K))) := HK.dB (c.fact 6 9 rfl rfl)
theorem ex_lX9 (c : HK.Says fs dfs K) : ∃ nm q N bs bm sn sub ab col dd k0 k1 k2 k3 k5, K.lookup (ad_CX9 K) = some (excClassObj nm q (ad_CX9 K) N bs bm true sn sub ab col dd k0 k1 k2 k3 k5 "ValueError.__new__") ∧ PySem.W.excTail [.type "ValueError", .type "Exception", .type "BaseException", .type "object"] bm = true := HK.exB_ok (c.fact 6 10 rfl rfl)
theorem fa_obX9 (c : HK.Says fs dfs K) : oxB K "ValueError" (ad_CX9 K) = true := (c.fact 6 11 rfl rfl)
theorem fa_iX9 (c : HK.Says fs dfs K) : PySem.W.findIn K (.ref (ad_CX9 K)) "__init__" = some (some (.ref (ad_fX9 K))) := HK.dB (c.fact 6 12 rfl rfl)
theorem fa_tiX9 (c : HK.Says fs dfs K) : PySem.W.typeIn K (.ref (ad_fX9 K)) = some (.type "function") := HK.dB (c.fact 6 13 rfl rfl)
theorem ex_lfX9 (c : HK.Says fs dfs K) : (∃ oc od osl doc pm an ct, K.lookup (ad_fX9 K) = some ⟨oc, od, .func (PySem.W.ksFn "__init__" "DuplicateName.__init__" (defArgs st_DuplicateName___init__) (defBody st_DuplicateName___init__) (defScope st_DuplicateName___init__) .none (HK.fdAt K (ad_fX9 K)).kwdefaults doc pm an (.ref (ad_cdX9 K)) ct (ad_ccX9 K)), osl⟩) ∧ PySem.W.codeIn K (.ref (ad_cdX9 K)) "DuplicateName.__init__" = true := c.fnC 19 (dV := .none) (kV := (HK.fdAt K (ad_fX9 K)).kwdefaults) (cdv := (.ref (ad_cdX9 K))) rfl rfl (HK.dB (c.fact 6 14 rfl rfl)) rfl (HK.dB (c.fact 6 15 rfl rfl))
theorem ex_lcX9 (c : HK.Says fs dfs K) : ∃ e dd sl, K.lookup (ad_cdX9 K) = some ⟨e, dd, .fields (HK.fsAt K (ad_cdX9 K)), sl⟩ := HK.isFields_ok (c.fact 6 16 rfl rfl)
theorem ex_h2X9 (c : HK.Says fs dfs K) : ∃ f t, (HK.fsAt K (ad_cdX9 K))[2]? = some (Value.str f t) ∧ ((RW.prog.main.file : Str) == f) = true := HK.fileB_ok (c.fact 6 17 rfl rfl)
theorem ex_lccX9 (c : HK.Says fs dfs K) : ∃ e d s, K.lookup (ad_ccX9 K) = some ⟨e, d, .cell (some (.ref (ad_CX9 K))), s⟩ := HK.cellB_ok (c.fact 6 18 rfl rfl)
theorem fa_xfX9 (c : HK.Says fs dfs K) : xfB K (ad_CX9 K) = true := (c.fact 6 19 rfl rfl)
theorem fa_noX9 (c : HK.Says fs dfs K) : noB K (ad_CX9 K) NOSX = true := (c.fact 6 20 rfl rfl)
theorem fa_aX10 (c : HK.Says fs dfs K) : PySem.W.nsIn K mainGlobals "SplitSide" = some (some (.ref (ad_CX10 K))) := HK.dB (c.fact 6 21 rfl rfl)
theorem ex_lX10 (c : HK.Says fs dfs K) : ∃ nm q N bs bm sn sub ab col dd k0 k1 k2 k3 k5, K.lookup (ad_CX10 K) = some (excClassObj nm q (ad_CX10 K) N bs bm true sn sub ab col dd k0 k1 k2 k3 k5 "ValueError.__new__") ∧ PySem.W.excTail [.type "ValueError", .type "Exception", .type "BaseException", .type "object"] bm = true := HK.exB_ok (c.fact 6 22 rfl rfl)
theorem fa_obX10 (c : HK.Says fs dfs K) : oxB K "ValueError" (ad_CX10 K) = true := (c.fact 6 23 rfl rfl)
theorem fa_iX10 (c : HK.Says fs dfs K) : PySem.W.findIn K (.ref (ad_CX10 K)) "__init__" = some (some (.ref (ad_fX10 K))) := HK.dB (c.fact 6 24 rfl rfl)
theorem fa_tiX10 (c : HK.Says fs dfs K) : PySem.W.typeIn K (.ref (ad_fX10 K)) = some (.type "function") := HK.dB (c.fact 7 0 rfl rfl)
theorem ex_lfX10 (c : HK.Says fs dfs K) : (∃ oc od osl doc pm an ct, K.lookup (ad_fX10 K) = some ⟨oc, od, .func (PySem.W.ksFn "__init__" "SplitSide.__init__" (defArgs st_SplitSide___init__) (defBody st_SplitSide___init__) (defScope st_SplitSide___init__) .none (HK.fdAt K (ad_fX10 K)).kwdefaults doc pm an (.ref (ad_cdX10 K)) ct (ad_ccX10 K)), osl⟩) ∧ PySem.W.codeIn K (.ref (ad_cdX10 K)) "SplitSide.__init__" = true := c.fnC 20 (dV := .none) (kV := (HK.fdAt K (ad_fX10 K)).kwdefaults) (cdv := (.ref (ad_cdX10 K))) rfl rfl (HK.dB (c.fact 7 1 rfl rfl)) rfl (HK.dB (c.fact 7 2 rfl rfl))
theorem ex_lcX10 (c : HK.Says fs dfs K) : ∃ e dd sl, K.lookup (ad_cdX10 K) = some ⟨e, dd, .fields (HK.fsAt K (ad_cdX10 K)), sl⟩ := HK.isFields_ok (c.fact 7 3 rfl rfl)
theorem ex_h2X10 (c : HK.Says fs dfs K) : ∃ f t, (HK.fsAt K (ad_cdX10 K))[2]? = some (Value.str f t) ∧ ((RW.prog.main.file : Str) == f) = true := HK.fileB_ok (c.fact 7 4 rfl rfl)
theorem ex_lccX10 (c : HK.Says fs dfs K) : ∃ e d s, K.lookup (ad_ccX10 K) = some ⟨e, d, .cell (some (.ref (ad_CX10 K))), s⟩ := HK.cellB_ok (c.fact 7 5 rfl rfl)
theorem fa_xfX10 (c : HK.Says fs dfs K) : xfB K (ad_CX10 K) = true := (c.fact 7 6 rfl rfl)
theorem fa_noX10 (c : HK.Says fs dfs K) : noB K (ad_CX10 K) NOSX = true := (c.fact 7 7 rfl rfl)
theorem fa_aX11 (c : HK.Says fs dfs K) : PySem.W.nsIn K mainGlobals "InvalidWall" = some (some (.ref (ad_CX11 K))) := HK.dB (c.fact 7 8 rfl rfl)
theorem ex_lX11 (c : HK.Says fs dfs K) : ∃ nm q N bs bm sn sub ab col dd k0 k1 k2 k3 k5, K.lookup (ad_CX11 K) = some (excClassObj nm q (ad_CX11 K) N bs bm true sn sub ab col dd k0 k1 k2 k3 k5 "ValueError.__new__") ∧ PySem.W.excTail [.type "ValueError", .type "Exception", .type "BaseException", .type "object"] bm = true := HK.exB_ok (c.fact 7 9 rfl rfl)
theorem fa_obX11 (c : HK.Says fs dfs K) : oxB K "ValueError" (ad_CX11 K) = true := (c.fact 7 10 rfl rfl)
theorem fa_iX11 (c : HK.Says fs dfs K) : PySem.W.findIn K (.ref (ad_CX11 K)) "__init__" = some (some (.ref (ad_fX11 K))) := HK.dB (c.fact 7 11 rfl rfl)
theorem fa_tiX11 (c : HK.Says fs dfs K) : PySem.W.typeIn K (.ref (ad_fX11 K)) = some (.type "function") := HK.dB (c.fact 7 12 rfl rfl)
theorem ex_lfX11 (c : HK.Says fs dfs K) : (∃ oc od osl doc pm an ct, K.lookup (ad_fX11 K) = some ⟨oc, od, .func (PySem.W.ksFn "__init__" "InvalidWall.__init__" (defArgs st_InvalidWall___init__) (defBody st_InvalidWall___init__) (defScope st_InvalidWall___init__) .none (HK.fdAt K (ad_fX11 K)).kwdefaults doc pm an (.ref (ad_cdX11 K)) ct (ad_ccX11 K)), osl⟩) ∧ PySem.W.codeIn K (.ref (ad_cdX11 K)) "InvalidWall.__init__" = true := c.fnC 21 (dV := .none) (kV := (HK.fdAt K (ad_fX11 K)).kwdefaults) (cdv := (.ref (ad_cdX11 K))) rfl rfl (HK.dB (c.fact 7 13 rfl rfl)) rfl (HK.dB (c.fact 7 14 rfl rfl))
theorem ex_lcX11 (c : HK.Says fs dfs K) : ∃ e dd sl, K.lookup (ad_cdX11 K) = some ⟨e, dd, .fields (HK.fsAt K (ad_cdX11 K)), sl⟩ := HK.isFields_ok (c.fact 7 15 rfl rfl)
theorem ex_h2X11 (c : HK.Says fs dfs K) : ∃ f t, (HK.fsAt K (ad_cdX11 K))[2]? = some (Value.str f t) ∧ ((RW.prog.main.file : Str) == f) = true := HK.fileB_ok (c.fact 7 16 rfl rfl)
theorem ex_lccX11 (c : HK.Says fs dfs K) : ∃ e d s, K.lookup (ad_ccX11 K) = some ⟨e, d, .cell (some (.ref (ad_CX11 K))), s⟩ := HK.cellB_ok (c.fact 7 17 rfl rfl)
theorem fa_xfX11 (c : HK.Says fs dfs K) : xfB K (ad_CX11 K) = true := (c.fact 7 18 rfl rfl)
theorem fa_noX11 (c : HK.Says fs dfs K) : noB K (ad_CX11 K) NOSX = true := (c.fact 7 19 rfl rfl)
theorem fa_aX12 (c : HK.Says fs dfs K) : PySem.W.nsIn K mainGlobals "MarkedSide" = some (some (.ref (ad_CX12 K))) := HK.dB (c.fact 7 20 rfl rfl)
theorem ex_lX12 (c : HK.Says fs dfs K) : ∃ nm q N bs bm sn sub ab col dd k0 k1 k2 k3 k5, K.lookup (ad_CX12 K) = some (excClassObj nm q (ad_CX12 K) N bs bm true sn sub ab col dd k0 k1 k2 k3 k5 "ValueError.__new__") ∧ PySem.W.excTail [.type "ValueError", .type "Exception", .type "BaseException", .type "object"] bm = true := HK.exB_ok (c.fact 7 21 rfl rfl)
theorem fa_obX12 (c : HK.Says fs dfs K) : oxB K "ValueError" (ad_CX12 K) = true := (c.fact 7 22 rfl rfl)
theorem fa_iX12 (c : HK.Says fs dfs K) : PySem.W.findIn K (.ref (ad_CX12 K)) "__init__" = some (some (.ref (ad_fX12 K))) := HK.dB (c.fact 7 23 rfl rfl)
theorem fa_tiX12 (c : HK.Says fs dfs K) : PySem.W.typeIn K (.ref (ad_fX12 K)) = some (.type "function") := HK.dB (c.fact 7 24 rfl rfl)
theorem ex_lfX12 (c : HK.Says fs dfs K) : (∃ oc od osl doc pm an ct, K.lookup (ad_fX12 K) = some ⟨oc, od, .func (PySem.W.ksFn "__init__" "MarkedSide.__init__" (defArgs st_MarkedSide___init__) (defBody st_MarkedSide___init__) (defScope st_MarkedSide___init__) .none (HK.fdAt K (ad_fX12 K)).kwdefaults doc pm an (.ref (ad_cdX12 K)) ct (ad_ccX12 K)), osl⟩) ∧ PySem.W.codeIn K (.ref (ad_cdX12 K)) "MarkedSide.__init__" = true := c.fnC 22 (dV := .none) (kV := (HK.fdAt K (ad_fX12 K)).kwdefaults) (cdv := (.ref (ad_cdX12 K))) rfl rfl (HK.dB (c.fact 8 0 rfl rfl)) rfl (HK.dB (c.fact 8 1 rfl rfl))
theorem ex_lcX12 (c : HK.Says fs dfs K) : ∃ e dd sl, K.lookup (ad_cdX12 K) = some ⟨e, dd, .fields (HK.fsAt K (ad_cdX12 K)), sl⟩ := HK.isFields_ok (c.fact 8 2 rfl rfl)
theorem ex_h2X12 (c : HK.Says fs dfs K) : ∃ f t, (HK.fsAt K (ad_cdX12 K))[2]? = some (Value.str f t) ∧ ((RW.prog.main.file : Str) == f) = true := HK.fileB_ok (c.fact 8 3 rfl rfl)
theorem ex_lccX12 (c : HK.Says fs dfs K) : ∃ e d s, K.lookup (ad_ccX12 K) = some ⟨e, d, .cell (some (.ref (ad_CX12 K))), s⟩ := HK.cellB_ok (c.fact 8 4 rfl rfl)
theorem fa_xfX12 (c : HK.Says fs dfs K) : xfB K (ad_CX12 K) = true := (c.fact 8 5 rfl rfl)
theorem fa_noX12 (c : HK.Says fs dfs K) : noB K (ad_CX12 K) NOSX = true := (c.fact 8 6 rfl rfl)
theorem fa_aX13 (c : HK.Says fs dfs K) : PySem.W.nsIn K mainGlobals "TooMany" = some (some (.ref (ad_CX13 K))) := HK.dB (c.fact 8 7 rfl rfl)
theorem ex_lX13 (c : HK.Says fs dfs K) : ∃ nm q N bs bm sn sub ab col dd k0 k1 k2 k3 k5, K.lookup (ad_CX13 K) = some (excClassObj nm q (ad_CX13 K) N bs bm true sn sub ab col dd k0 k1 k2 k3 k5 "ValueError.__new__") ∧ PySem.W.excTail [.type "ValueError", .type "Exception", .type "BaseException", .type "object"] bm = true := HK.exB_ok (c.fact 8 8 rfl rfl)
theorem fa_obX13 (c : HK.Says fs dfs K) : oxB K "ValueError" (ad_CX13 K) = true := (c.fact 8 9 rfl rfl)
theorem fa_iX13 (c : HK.Says fs dfs K) : PySem.W.findIn K (.ref (ad_CX13 K)) "__init__" = some (some (.ref (ad_fX13 K))) := HK.dB (c.fact 8 10 rfl rfl)
theorem fa_tiX13 (c : HK.Says fs dfs K) : PySem.W.typeIn K (.ref (ad_fX13 K)) = some (.type "function") := HK.dB (c.fact 8 11 rfl rfl)
theorem ex_lfX13 (c : HK.Says fs dfs K) : (∃ oc od osl doc pm an ct, K.lookup (ad_fX13 K) = some ⟨oc, od, .func (PySem.W.ksFn "__init__" "TooMany.__init__" (defArgs st_TooMany___init__) (defBody st_TooMany___init__) (defScope st_TooMany___init__) .none (HK.fdAt K (ad_fX13 K)).kwdefaults doc pm an (.ref (ad_cdX13 K)) ct (ad_ccX13 K)), osl⟩) ∧ PySem.W.codeIn K (.ref (ad_cdX13 K)) "TooMany.__init__" = true := c.fnC 23 (dV := .none) (kV := (HK.fdAt K (ad_fX13 K)).kwdefaults) (cdv := (.ref (ad_cdX13 K))) rfl rfl (HK.dB (c.fact 8 12 rfl rfl)) rfl (HK.dB (c.fact 8 13 rfl rfl))
theorem ex_lcX13 (c : HK.Says fs dfs K) : ∃ e dd sl, K.lookup (ad_cdX13 K) = some ⟨e, dd, .fields (HK.fsAt K (ad_cdX13 K)), sl⟩ := HK.isFields_ok (c.fact 8 14 rfl rfl)
theorem ex_h2X13 (c : HK.Says fs dfs K) : ∃ f t, (HK.fsAt K (ad_cdX13 K))[2]? = some (Value.str f t) ∧ ((RW.prog.main.file : Str) == f) = true := HK.fileB_ok (c.fact 8 15 rfl rfl)
theorem ex_lccX13 (c : HK.Says fs dfs K) : ∃ e d s, K.lookup (ad_ccX13 K) = some ⟨e, d, .cell (some (.ref (ad_CX13 K))), s⟩ := HK.cellB_ok (c.fact 8 16 rfl rfl)
theorem fa_xfX13 (c : HK.Says fs dfs K) : xfB K (ad_CX13 K) = true := (c.fact 8 17 rfl rfl)
theorem fa_noX13 (c : HK.Says fs dfs K) : noB K (ad_CX13 K) NOSX = true := (c.fact 8 18 rfl rfl)
theorem fa_aX14 (c : HK.Says fs dfs K) : PySem.W.nsIn K mainGlobals "TooFar" = some (some (.ref (ad_CX14 K))) := HK.dB (c.fact 8 19 rfl rfl)
theorem ex_lX14 (c : HK.Says fs dfs K) : ∃ nm q N bs bm sn sub ab col dd k0 k1 k2 k3 k5, K.lookup (ad_CX14 K) = some (excClassObj nm q (ad_CX14 K) N bs bm true sn sub ab col dd k0 k1 k2 k3 k5 "ValueError.__new__") ∧ PySem.W.excTail [.type "ValueError", .type "Exception", .type "BaseException", .type "object"] bm = true := HK.exB_ok (c.fact 8 20 rfl rfl)
theorem fa_obX14 (c : HK.Says fs dfs K) : oxB K "ValueError" (ad_CX14 K) = true := (c.fact 8 21 rfl rfl)
theorem fa_iX14 (c : HK.Says fs dfs K) : PySem.W.findIn K (.ref (ad_CX14 K)) "__init__" = some (some (.ref (ad_fX14 K))) := HK.dB (c.fact 8 22 rfl rfl)
theorem fa_tiX14 (c : HK.Says fs dfs K) : PySem.W.typeIn K (.ref (ad_fX14 K)) = some (.type "function") := HK.dB (c.fact 8 23 rfl rfl)
theorem ex_lfX14 (c : HK.Says fs dfs K) : (∃ oc od osl doc pm an ct, K.lookup (ad_fX14 K) = some ⟨oc, od, .func (PySem.W.ksFn "__init__" "TooFar.__init__" (defArgs st_TooFar___init__) (defBody st_TooFar___init__) (defScope st_TooFar___init__) .none (HK.fdAt K (ad_fX14 K)).kwdefaults doc pm an (.ref (ad_cdX14 K)) ct (ad_ccX14 K)), osl⟩) ∧ PySem.W.codeIn K (.ref (ad_cdX14 K)) "TooFar.__init__" = true := c.fnC 24 (dV := .none) (kV := (HK.fdAt K (ad_fX14 K)).kwdefaults) (cdv := (.ref (ad_cdX14 K))) rfl rfl (HK.dB (c.fact 8 24 rfl rfl)) rfl (HK.dB (c.fact 9 0 rfl rfl))
theorem ex_lcX14 (c : HK.Says fs dfs K) : ∃ e dd sl, K.lookup (ad_cdX14 K) = some ⟨e, dd, .fields (HK.fsAt K (ad_cdX14 K)), sl⟩ := HK.isFields_ok (c.fact 9 1 rfl rfl)
theorem ex_h2X14 (c : HK.Says fs dfs K) : ∃ f t, (HK.fsAt K (ad_cdX14 K))[2]? = some (Value.str f t) ∧ ((RW.prog.main.file : Str) == f) = true := HK.fileB_ok (c.fact 9 2 rfl rfl)
theorem ex_lccX14 (c : HK.Says fs dfs K) : ∃ e d s, K.lookup (ad_ccX14 K) = some ⟨e, d, .cell (some (.ref (ad_CX14 K))), s⟩ := HK.cellB_ok (c.fact 9 3 rfl rfl)
theorem fa_xfX14 (c : HK.Says fs dfs K) : xfB K (ad_CX14 K) = true := (c.fact 9 4 rfl rfl)
theorem fa_noX14 (c : HK.Says fs dfs K) : noB K (ad_CX14 K) NOSX = true := (c.fact 9 5 rfl rfl)
theorem fa_aX15 (c : HK.Says fs dfs K) : PySem.W.nsIn K mainGlobals "InvalidPlace" = some (some (.ref (ad_CX15 K))) := HK.dB (c.fact 9 6 rfl rfl)
theorem ex_lX15 (c : HK.Says fs dfs K) : ∃ nm q N bs bm sn sub ab col dd k0 k1 k2 k3 k5, K.lookup (ad_CX15 K) = some (excClassObj nm q (ad_CX15 K) N bs bm true sn sub ab col dd k0 k1 k2 k3 k5 "ValueError.__new__") ∧ PySem.W.excTail [.type "ValueError", .type "Exception", .type "BaseException", .type "object"] bm = true := HK.exB_ok (c.fact 9 7 rfl rfl)
theorem fa_obX15 (c : HK.Says fs dfs K) : oxB K "ValueError" (ad_CX15 K) = true := (c.fact 9 8 rfl rfl)
theorem fa_iX15 (c : HK.Says fs dfs K) : PySem.W.findIn K (.ref (ad_CX15 K)) "__init__" = some (some (.ref (ad_fX15 K))) := HK.dB (c.fact 9 9 rfl rfl)
theorem fa_tiX15 (c : HK.Says fs dfs K) : PySem.W.typeIn K (.ref (ad_fX15 K)) = some (.type "function") := HK.dB (c.fact 9 10 rfl rfl)
theorem ex_lfX15 (c : HK.Says fs dfs K) : (∃ oc od osl doc pm an ct, K.lookup (ad_fX15 K) = some ⟨oc, od, .func (PySem.W.ksFn "__init__" "InvalidPlace.__init__" (defArgs st_InvalidPlace___init__) (defBody st_InvalidPlace___init__) (defScope st_InvalidPlace___init__) .none (HK.fdAt K (ad_fX15 K)).kwdefaults doc pm an (.ref (ad_cdX15 K)) ct (ad_ccX15 K)), osl⟩) ∧ PySem.W.codeIn K (.ref (ad_cdX15 K)) "InvalidPlace.__init__" = true := c.fnC 25 (dV := .none) (kV := (HK.fdAt K (ad_fX15 K)).kwdefaults) (cdv := (.ref (ad_cdX15 K))) rfl rfl (HK.dB (c.fact 9 11 rfl rfl)) rfl (HK.dB (c.fact 9 12 rfl rfl))
theorem ex_lcX15 (c : HK.Says fs dfs K) : ∃ e dd sl, K.lookup (ad_cdX15 K) = some ⟨e, dd, .fields (HK.fsAt K (ad_cdX15 K)), sl⟩ := HK.isFields_ok (c.fact 9 13 rfl rfl)
theorem ex_h2X15 (c : HK.Says fs dfs K) : ∃ f t, (HK.fsAt K (ad_cdX15 K))[2]? = some (Value.str f t) ∧ ((RW.prog.main.file : Str) == f) = true := HK.fileB_ok (c.fact 9 14 rfl rfl)
theorem ex_lccX15 (c : HK.Says fs dfs K) : ∃ e d s, K.lookup (ad_ccX15 K) = some ⟨e, d, .cell (some (.ref (ad_CX15 K))), s⟩ := HK.cellB_ok (c.fact 9 15 rfl rfl)
theorem fa_xfX15 (c : HK.Says fs dfs K) : xfB K (ad_CX15 K) = true := (c.fact 9 16 rfl rfl)
theorem fa_noX15 (c : HK.Says fs dfs K) : noB K (ad_CX15 K) NOSX = true := (c.fact 9 17 rfl rfl)
theorem fa_aX16 (c : HK.Says fs dfs K) : PySem.W.nsIn K mainGlobals "InvalidRound" = some (some (.ref (ad_CX16 K))) := HK.dB (c.fact 9 18 rfl rfl)
theorem ex_lX16 (c : HK.Says fs dfs K) : ∃ nm q N bs bm sn sub ab col dd k0 k1 k2 k3 k5, K.lookup (ad_CX16 K) = some (excClassObj nm q (ad_CX16 K) N bs bm true sn sub ab col dd k0 k1 k2 k3 k5 "ValueError.__new__") ∧ PySem.W.excTail [.type "ValueError", .type "Exception", .type "BaseException", .type "object"] bm = true := HK.exB_ok (c.fact 9 19 rfl rfl)
theorem fa_obX16 (c : HK.Says fs dfs K) : oxB K "ValueError" (ad_CX16 K) = true := (c.fact 9 20 rfl rfl)
theorem fa_iX16 (c : HK.Says fs dfs K) : PySem.W.findIn K (.ref (ad_CX16 K)) "__init__" = some (some (.ref (ad_fX16 K))) := HK.dB (c.fact 9 21 rfl rfl)
theorem fa_tiX16 (c : HK.Says fs dfs K) : PySem.W.typeIn K (.ref (ad_fX16 K)) = some (.type "function") := HK.dB (c.fact 9 22 rfl rfl)
theorem ex_lfX16 (c : HK.Says fs dfs K) : (∃ oc od osl doc pm an ct, K.lookup (ad_fX16 K) = some ⟨oc, od, .func (PySem.W.ksFn "__init__" "InvalidRound.__init__" (defArgs st_InvalidRound___init__) (defBody st_InvalidRound___init__) (defScope st_InvalidRound___init__) .none (HK.fdAt K (ad_fX16 K)).kwdefaults doc pm an (.ref (ad_cdX16 K)) ct (ad_ccX16 K)), osl⟩) ∧ PySem.W.codeIn K (.ref (ad_cdX16 K)) "InvalidRound.__init__" = true := c.fnC 26 (dV := .none) (kV := (HK.fdAt K (ad_fX16 K)).kwdefaults) (cdv := (.ref (ad_cdX16 K))) rfl rfl (HK.dB (c.fact 9 23 rfl rfl)) rfl (HK.dB (c.fact 9 24 rfl rfl))
theorem ex_lcX16 (c : HK.Says fs dfs K) : ∃ e dd sl, K.lookup (ad_cdX16 K) = some ⟨e, dd, .fields (HK.fsAt K (ad_cdX16 K)), sl⟩ := HK.isFields_ok (c.fact 10 0 rfl rfl)
theorem ex_h2X16 (c : HK.Says fs dfs K) : ∃ f t, (HK.fsAt K (ad_cdX16 K))[2]? = some (Value.str f t) ∧ ((RW.prog.main.file : Str) == f) = true := HK.fileB_ok (c.fact 10 1 rfl rfl)
theorem ex_lccX16 (c : HK.Says fs dfs K) : ∃ e d s, K.lookup (ad_ccX16 K) = some ⟨e, d, .cell (some (.ref (ad_CX16 K))), s⟩ := HK.cellB_ok (c.fact 10 2 rfl rfl)
theorem fa_xfX16 (c : HK.Says fs dfs K) : xfB K (ad_CX16 K) = true := (c.fact 10 3 rfl rfl)
theorem fa_noX16 (c : HK.Says fs dfs K) : noB K (ad_CX16 K) NOSX = true := (c.fact 10 4 rfl rfl)
theorem fa_aX17 (c : HK.Says fs dfs K) : PySem.W.nsIn K mainGlobals "LooseCorner" = some (some (.ref (ad_CX17 K))) := HK.dB (c.fact 10 5 rfl rfl)
theorem ex_lX17 (c : HK.Says fs dfs K) : ∃ nm q N bs bm sn sub ab col dd k0 k1 k2 k3 k5, K.lookup (ad_CX17 K) = some (excClassObj nm q (ad_CX17 K) N bs bm true sn sub ab col dd k0 k1 k2 k3 k5 "ValueError.__new__") ∧ PySem.W.excTail [.type "ValueError", .type "Exception", .type "BaseException", .type "object"] bm = true := HK.exB_ok (c.fact 10 6 rfl rfl)
theorem fa_obX17 (c : HK.Says fs dfs K) : oxB K "ValueError" (ad_CX17 K) = true := (c.fact 10 7 rfl rfl)
theorem fa_iX17 (c : HK.Says fs dfs K) : PySem.W.findIn K (.ref (ad_CX17 K)) "__init__" = some (some (.ref (ad_fX17 K))) := HK.dB (c.fact 10 8 rfl rfl)
theorem fa_tiX17 (c : HK.Says fs dfs K) : PySem.W.typeIn K (.ref (ad_fX17 K)) = some (.type "function") := HK.dB (c.fact 10 9 rfl rfl)
theorem ex_lfX17 (c : HK.Says fs dfs K) : (∃ oc od osl doc pm an ct, K.lookup (ad_fX17 K) = some ⟨oc, od, .func (PySem.W.ksFn "__init__" "LooseCorner.__init__" (defArgs st_LooseCorner___init__) (defBody st_LooseCorner___init__) (defScope st_LooseCorner___init__) .none (HK.fdAt K (ad_fX17 K)).kwdefaults doc pm an (.ref (ad_cdX17 K)) ct (ad_ccX17 K)), osl⟩) ∧ PySem.W.codeIn K (.ref (ad_cdX17 K)) "LooseCorner.__init__" = true := c.fnC 27 (dV := .none) (kV := (HK.fdAt K (ad_fX17 K)).kwdefaults) (cdv := (.ref (ad_cdX17 K))) rfl rfl (HK.dB (c.fact 10 10 rfl rfl)) rfl (HK.dB (c.fact 10 11 rfl rfl))
theorem ex_lcX17 (c : HK.Says fs dfs K) : ∃ e dd sl, K.lookup (ad_cdX17 K) = some ⟨e, dd, .fields (HK.fsAt K (ad_cdX17 K)), sl⟩ := HK.isFields_ok (c.fact 10 12 rfl rfl)
theorem ex_h2X17 (c : HK.Says fs dfs K) : ∃ f t, (HK.fsAt K (ad_cdX17 K))[2]? = some (Value.str f t) ∧ ((RW.prog.main.file : Str) == f) = true := HK.fileB_ok (c.fact 10 13 rfl rfl)
theorem ex_lccX17 (c : HK.Says fs dfs K) : ∃ e d s, K.lookup (ad_ccX17 K) = some ⟨e, d, .cell (some (.ref (ad_CX17 K))), s⟩ := HK.cellB_ok (c.fact 10 14 rfl rfl)
theorem fa_xfX17 (c : HK.Says fs dfs K) : xfB K (ad_CX17 K) = true := (c.fact 10 15 rfl rfl)
theorem fa_noX17 (c : HK.Says fs dfs K) : noB K (ad_CX17 K) NOSX = true := (c.fact 10 16 rfl rfl)
theorem fa_aX18 (c : HK.Says fs dfs K) : PySem.W.nsIn K mainGlobals "Overlap" = some (some (.ref (ad_CX18 K))) := HK.dB (c.fact 10 17 rfl rfl)
theorem ex_lX18 (c : HK.Says fs dfs K) : ∃ nm q N bs bm sn sub ab col dd k0 k1 k2 k3 k5, K.lookup (ad_CX18 K) = some (excClassObj nm q (ad_CX18 K) N bs bm true sn sub ab col dd k0 k1 k2 k3 k5 "ValueError.__new__") ∧ PySem.W.excTail [.type "ValueError", .type "Exception", .type "BaseException", .type "object"] bm = true := HK.exB_ok (c.fact 10 18 rfl rfl)
theorem fa_obX18 (c : HK.Says fs dfs K) : oxB K "ValueError" (ad_CX18 K) = true := (c.fact 10 19 rfl rfl)
theorem fa_iX18 (c : HK.Says fs dfs K) : PySem.W.findIn K (.ref (ad_CX18 K)) "__init__" = some (some (.ref (ad_fX18 K))) := HK.dB (c.fact 10 20 rfl rfl)
theorem fa_tiX18 (c : HK.Says fs dfs K) : PySem.W.typeIn K (.ref (ad_fX18 K)) = some (.type "function") := HK.dB (c.fact 10 21 rfl rfl)
theorem ex_lfX18 (c : HK.Says fs dfs K) : (∃ oc od osl doc pm an ct, K.lookup (ad_fX18 K) = some ⟨oc, od, .func (PySem.W.ksFn "__init__" "Overlap.__init__" (defArgs st_Overlap___init__) (defBody st_Overlap___init__) (defScope st_Overlap___init__) .none (HK.fdAt K (ad_fX18 K)).kwdefaults doc pm an (.ref (ad_cdX18 K)) ct (ad_ccX18 K)), osl⟩) ∧ PySem.W.codeIn K (.ref (ad_cdX18 K)) "Overlap.__init__" = true := c.fnC 28 (dV := .none) (kV := (HK.fdAt K (ad_fX18 K)).kwdefaults) (cdv := (.ref (ad_cdX18 K))) rfl rfl (HK.dB (c.fact 10 22 rfl rfl)) rfl (HK.dB (c.fact 10 23 rfl rfl))
theorem ex_lcX18 (c : HK.Says fs dfs K) : ∃ e dd sl, K.lookup (ad_cdX18 K) = some ⟨e, dd, .fields (HK.fsAt K (ad_cdX18 K)), sl⟩ := HK.isFields_ok (c.fact 10 24 rfl rfl)
theorem ex_h2X18 (c : HK.Says fs dfs K) : ∃ f t, (HK.fsAt K (ad_cdX18 K))[2]? = some (Value.str f t) ∧ ((RW.prog.main.file : Str) == f) = true := HK.fileB_ok (c.fact 11 0 rfl rfl)
theorem ex_lccX18 (c : HK.Says fs dfs K) : ∃ e d s, K.lookup (ad_ccX18 K) = some ⟨e, d, .cell (some (.ref (ad_CX18 K))), s⟩ := HK.cellB_ok (c.fact 11 1 rfl rfl)
theorem fa_xfX18 (c : HK.Says fs dfs K) : xfB K (ad_CX18 K) = true := (c.fact 11 2 rfl rfl)
theorem fa_noX18 (c : HK.Says fs dfs K) : noB K (ad_CX18 K) NOSX = true := (c.fact 11 3 rfl rfl)
theorem fa_aX19 (c : HK.Says fs dfs K) : PySem.W.nsIn K mainGlobals "InvalidChord" = some (some (.ref (ad_CX19 K))) := HK.dB (c.fact 11 4 rfl rfl)
theorem ex_lX19 (c : HK.Says fs dfs K) : ∃ nm q N bs bm sn sub ab col dd k0 k1 k2 k3 k5, K.lookup (ad_CX19 K) = some (excClassObj nm q (ad_CX19 K) N bs bm true sn sub ab col dd k0 k1 k2 k3 k5 "ValueError.__new__") ∧ PySem.W.excTail [.type "ValueError", .type "Exception", .type "BaseException", .type "object"] bm = true := HK.exB_ok (c.fact 11 5 rfl rfl)
theorem fa_obX19 (c : HK.Says fs dfs K) : oxB K "ValueError" (ad_CX19 K) = true := (c.fact 11 6 rfl rfl)
theorem fa_iX19 (c : HK.Says fs dfs K) : PySem.W.findIn K (.ref (ad_CX19 K)) "__init__" = some (some (.ref (ad_fX19 K))) := HK.dB (c.fact 11 7 rfl rfl)
theorem fa_tiX19 (c : HK.Says fs dfs K) : PySem.W.typeIn K (.ref (ad_fX19 K)) = some (.type "function") := HK.dB (c.fact 11 8 rfl rfl)
theorem ex_lfX19 (c : HK.Says fs dfs K) : (∃ oc od osl doc pm an ct, K.lookup (ad_fX19 K) = some ⟨oc, od, .func (PySem.W.ksFn "__init__" "InvalidChord.__init__" (defArgs st_InvalidChord___init__) (defBody st_InvalidChord___init__) (defScope st_InvalidChord___init__) .none (HK.fdAt K (ad_fX19 K)).kwdefaults doc pm an (.ref (ad_cdX19 K)) ct (ad_ccX19 K)), osl⟩) ∧ PySem.W.codeIn K (.ref (ad_cdX19 K)) "InvalidChord.__init__" = true := c.fnC 29 (dV := .none) (kV := (HK.fdAt K (ad_fX19 K)).kwdefaults) (cdv := (.ref (ad_cdX19 K))) rfl rfl (HK.dB (c.fact 11 9 rfl rfl)) rfl (HK.dB (c.fact 11 10 rfl rfl))
theorem ex_lcX19 (c : HK.Says fs dfs K) : ∃ e dd sl, K.lookup (ad_cdX19 K) = some ⟨e, dd, .fields (HK.fsAt K (ad_cdX19 K)), sl⟩ := HK.isFields_ok (c.fact 11 11 rfl rfl)
theorem ex_h2X19 (c : HK.Says fs dfs K) : ∃ f t, (HK.fsAt K (ad_cdX19 K))[2]? = some (Value.str f t) ∧ ((RW.prog.main.file : Str) == f) = true := HK.fileB_ok (c.fact 11 12 rfl rfl)
theorem ex_lccX19 (c : HK.Says fs dfs K) : ∃ e d s, K.lookup (ad_ccX19 K) = some ⟨e, d, .cell (some (.ref (ad_CX19 K))), s⟩ := HK.cellB_ok (c.fact 11 13 rfl rfl)
theorem fa_xfX19 (c : HK.Says fs dfs K) : xfB K (ad_CX19 K) = true := (c.fact 11 14 rfl rfl)
theorem fa_noX19 (c : HK.Says fs dfs K) : noB K (ad_CX19 K) NOSX = true := (c.fact 11 15 rfl rfl)
theorem fa_aX20 (c : HK.Says fs dfs K) : PySem.W.nsIn K mainGlobals "NotJoined" = some (some (.ref (ad_CX20 K))) := HK.dB (c.fact 11 16 rfl rfl)
theorem ex_lX20 (c : HK.Says fs dfs K) : ∃ nm q N bs bm sn sub ab col dd k0 k1 k2 k3 k5, K.lookup (ad_CX20 K) = some (excClassObj nm q (ad_CX20 K) N bs bm true sn sub ab col dd k0 k1 k2 k3 k5 "ValueError.__new__") ∧ PySem.W.excTail [.type "ValueError", .type "Exception", .type "BaseException", .type "object"] bm = true := HK.exB_ok (c.fact 11 17 rfl rfl)
theorem fa_obX20 (c : HK.Says fs dfs K) : oxB K "ValueError" (ad_CX20 K) = true := (c.fact 11 18 rfl rfl)
theorem fa_iX20 (c : HK.Says fs dfs K) : PySem.W.findIn K (.ref (ad_CX20 K)) "__init__" = some (some (.ref (ad_fX20 K))) := HK.dB (c.fact 11 19 rfl rfl)
theorem fa_tiX20 (c : HK.Says fs dfs K) : PySem.W.typeIn K (.ref (ad_fX20 K)) = some (.type "function") := HK.dB (c.fact 11 20 rfl rfl)
theorem ex_lfX20 (c : HK.Says fs dfs K) : (∃ oc od osl doc pm an ct, K.lookup (ad_fX20 K) = some ⟨oc, od, .func (PySem.W.ksFn "__init__" "NotJoined.__init__" (defArgs st_NotJoined___init__) (defBody st_NotJoined___init__) (defScope st_NotJoined___init__) .none (HK.fdAt K (ad_fX20 K)).kwdefaults doc pm an (.ref (ad_cdX20 K)) ct (ad_ccX20 K)), osl⟩) ∧ PySem.W.codeIn K (.ref (ad_cdX20 K)) "NotJoined.__init__" = true := c.fnC 30 (dV := .none) (kV := (HK.fdAt K (ad_fX20 K)).kwdefaults) (cdv := (.ref (ad_cdX20 K))) rfl rfl (HK.dB (c.fact 11 21 rfl rfl)) rfl (HK.dB (c.fact 11 22 rfl rfl))
theorem ex_lcX20 (c : HK.Says fs dfs K) : ∃ e dd sl, K.lookup (ad_cdX20 K) = some ⟨e, dd, .fields (HK.fsAt K (ad_cdX20 K)), sl⟩ := HK.isFields_ok (c.fact 11 23 rfl rfl)
theorem ex_h2X20 (c : HK.Says fs dfs K) : ∃ f t, (HK.fsAt K (ad_cdX20 K))[2]? = some (Value.str f t) ∧ ((RW.prog.main.file : Str) == f) = true := HK.fileB_ok (c.fact 11 24 rfl rfl)
theorem ex_lccX20 (c : HK.Says fs dfs K) : ∃ e d s, K.lookup (ad_ccX20 K) = some ⟨e, d, .cell (some (.ref (ad_CX20 K))), s⟩ := HK.cellB_ok (c.fact 12 0 rfl rfl)
theorem fa_xfX20 (c : HK.Says fs dfs K) : xfB K (ad_CX20 K) = true := (c.fact 12 1 rfl rfl)
theorem fa_noX20 (c : HK.Says fs dfs K) : noB K (ad_CX20 K) NOSX = true := (c.fact 12 2 rfl rfl)
theorem fa_aX21 (c : HK.Says fs dfs K) : PySem.W.nsIn K mainGlobals "NotConvex" = some (some (.ref (ad_CX21 K))) := HK.dB (c.fact 12 3 rfl rfl)
theorem ex_lX21 (c : HK.Says fs dfs K) : ∃ nm q N bs bm sn sub ab col dd k0 k1 k2 k3 k5, K.lookup (ad_CX21 K) = some (excClassObj nm q (ad_CX21 K) N bs bm true sn sub ab col dd k0 k1 k2 k3 k5 "ValueError.__new__") ∧ PySem.W.excTail [.type "ValueError", .type "Exception", .type "BaseException", .type "object"] bm = true := HK.exB_ok (c.fact 12 4 rfl rfl)
theorem fa_obX21 (c : HK.Says fs dfs K) : oxB K "ValueError" (ad_CX21 K) = true := (c.fact 12 5 rfl rfl)
theorem fa_iX21 (c : HK.Says fs dfs K) : PySem.W.findIn K (.ref (ad_CX21 K)) "__init__" = some (some (.ref (ad_fX21 K))) := HK.dB (c.fact 12 6 rfl rfl)
theorem fa_tiX21 (c : HK.Says fs dfs K) : PySem.W.typeIn K (.ref (ad_fX21 K)) = some (.type "function") := HK.dB (c.fact 12 7 rfl rfl)
theorem ex_lfX21 (c : HK.Says fs dfs K) : (∃ oc od osl doc pm an ct, K.lookup (ad_fX21 K) = some ⟨oc, od, .func (PySem.W.ksFn "__init__" "NotConvex.__init__" (defArgs st_NotConvex___init__) (defBody st_NotConvex___init__) (defScope st_NotConvex___init__) .none (HK.fdAt K (ad_fX21 K)).kwdefaults doc pm an (.ref (ad_cdX21 K)) ct (ad_ccX21 K)), osl⟩) ∧ PySem.W.codeIn K (.ref (ad_cdX21 K)) "NotConvex.__init__" = true := c.fnC 31 (dV := .none) (kV := (HK.fdAt K (ad_fX21 K)).kwdefaults) (cdv := (.ref (ad_cdX21 K))) rfl rfl (HK.dB (c.fact 12 8 rfl rfl)) rfl (HK.dB (c.fact 12 9 rfl rfl))
theorem ex_lcX21 (c : HK.Says fs dfs K) : ∃ e dd sl, K.lookup (ad_cdX21 K) = some ⟨e, dd, .fields (HK.fsAt K (ad_cdX21 K)), sl⟩ := HK.isFields_ok (c.fact 12 10 rfl rfl)
theorem ex_h2X21 (c : HK.Says fs dfs K) : ∃ f t, (HK.fsAt K (ad_cdX21 K))[2]? = some (Value.str f t) ∧ ((RW.prog.main.file : Str) == f) = true := HK.fileB_ok (c.fact 12 11 rfl rfl)
theorem ex_lccX21 (c : HK.Says fs dfs K) : ∃ e d s, K.lookup (ad_ccX21 K) = some ⟨e, d, .cell (some (.ref (ad_CX21 K))), s⟩ := HK.cellB_ok (c.fact 12 12 rfl rfl)
theorem fa_xfX21 (c : HK.Says fs dfs K) : xfB K (ad_CX21 K) = true := (c.fact 12 13 rfl rfl)
theorem fa_noX21 (c : HK.Says fs dfs K) : noB K (ad_CX21 K) NOSX = true := (c.fact 12 14 rfl rfl)
theorem fa_aX22 (c : HK.Says fs dfs K) : PySem.W.nsIn K mainGlobals "InvalidWinds" = some (some (.ref (ad_CX22 K))) := HK.dB (c.fact 12 15 rfl rfl)
theorem ex_lX22 (c : HK.Says fs dfs K) : ∃ nm q N bs bm sn sub ab col dd k0 k1 k2 k3 k5, K.lookup (ad_CX22 K) = some (excClassObj nm q (ad_CX22 K) N bs bm true sn sub ab col dd k0 k1 k2 k3 k5 "ValueError.__new__") ∧ PySem.W.excTail [.type "ValueError", .type "Exception", .type "BaseException", .type "object"] bm = true := HK.exB_ok (c.fact 12 16 rfl rfl)
theorem fa_obX22 (c : HK.Says fs dfs K) : oxB K "ValueError" (ad_CX22 K) = true := (c.fact 12 17 rfl rfl)
theorem fa_iX22 (c : HK.Says fs dfs K) : PySem.W.findIn K (.ref (ad_CX22 K)) "__init__" = some (some (.ref (ad_fX22 K))) := HK.dB (c.fact 12 18 rfl rfl)
theorem fa_tiX22 (c : HK.Says fs dfs K) : PySem.W.typeIn K (.ref (ad_fX22 K)) = some (.type "function") := HK.dB (c.fact 12 19 rfl rfl)
theorem ex_lfX22 (c : HK.Says fs dfs K) : (∃ oc od osl doc pm an ct, K.lookup (ad_fX22 K) = some ⟨oc, od, .func (PySem.W.ksFn "__init__" "InvalidWinds.__init__" (defArgs st_InvalidWinds___init__) (defBody st_InvalidWinds___init__) (defScope st_InvalidWinds___init__) .none (HK.fdAt K (ad_fX22 K)).kwdefaults doc pm an (.ref (ad_cdX22 K)) ct (ad_ccX22 K)), osl⟩) ∧ PySem.W.codeIn K (.ref (ad_cdX22 K)) "InvalidWinds.__init__" = true := c.fnC 32 (dV := .none) (kV := (HK.fdAt K (ad_fX22 K)).kwdefaults) (cdv := (.ref (ad_cdX22 K))) rfl rfl (HK.dB (c.fact 12 20 rfl rfl)) rfl (HK.dB (c.fact 12 21 rfl rfl))
theorem ex_lcX22 (c : HK.Says fs dfs K) : ∃ e dd sl, K.lookup (ad_cdX22 K) = some ⟨e, dd, .fields (HK.fsAt K (ad_cdX22 K)), sl⟩ := HK.isFields_ok (c.fact 12 22 rfl rfl)
theorem ex_h2X22 (c : HK.Says fs dfs K) : ∃ f t, (HK.fsAt K (ad_cdX22 K))[2]? = some (Value.str f t) ∧ ((RW.prog.main.file : Str) == f) = true := HK.fileB_ok (c.fact 12 23 rfl rfl)
theorem ex_lccX22 (c : HK.Says fs dfs K) : ∃ e d s, K.lookup (ad_ccX22 K) = some ⟨e, d, .cell (some (.ref (ad_CX22 K))), s⟩ := HK.cellB_ok (c.fact 12 24 rfl rfl)
theorem fa_xfX22 (c : HK.Says fs dfs K) : xfB K (ad_CX22 K) = true := (c.fact 13 0 rfl rfl)
theorem fa_noX22 (c : HK.Says fs dfs K) : noB K (ad_CX22 K) NOSX = true := (c.fact 13 1 rfl rfl)
theorem fa_aX23 (c : HK.Says fs dfs K) : PySem.W.nsIn K mainGlobals "UnknownTile" = some (some (.ref (ad_CX23 K))) := HK.dB (c.fact 13 2 rfl rfl)
theorem ex_lX23 (c : HK.Says fs dfs K) : ∃ nm q N bs bm sn sub ab col dd k0 k1 k2 k3 k5, K.lookup (ad_CX23 K) = some (excClassObj nm q (ad_CX23 K) N bs bm true sn sub ab col dd k0 k1 k2 k3 k5 "LookupError.__new__") ∧ PySem.W.excTail [.type "LookupError", .type "Exception", .type "BaseException", .type "object"] bm = true := HK.exB_ok (c.fact 13 3 rfl rfl)
theorem fa_obX23 (c : HK.Says fs dfs K) : oxB K "LookupError" (ad_CX23 K) = true := (c.fact 13 4 rfl rfl)
theorem fa_iX23 (c : HK.Says fs dfs K) : PySem.W.findIn K (.ref (ad_CX23 K)) "__init__" = some (some (.ref (ad_fX23 K))) := HK.dB (c.fact 13 5 rfl rfl)
theorem fa_tiX23 (c : HK.Says fs dfs K) : PySem.W.typeIn K (.ref (ad_fX23 K)) = some (.type "function") := HK.dB (c.fact 13 6 rfl rfl)
theorem ex_lfX23 (c : HK.Says fs dfs K) : (∃ oc od osl doc pm an ct, K.lookup (ad_fX23 K) = some ⟨oc, od, .func (PySem.W.ksFn "__init__" "UnknownTile.__init__" (defArgs st_UnknownTile___init__) (defBody st_UnknownTile___init__) (defScope st_UnknownTile___init__) .none (HK.fdAt K (ad_fX23 K)).kwdefaults doc pm an (.ref (ad_cdX23 K)) ct (ad_ccX23 K)), osl⟩) ∧ PySem.W.codeIn K (.ref (ad_cdX23 K)) "UnknownTile.__init__" = true := c.fnC 33 (dV := .none) (kV := (HK.fdAt K (ad_fX23 K)).kwdefaults) (cdv := (.ref (ad_cdX23 K))) rfl rfl (HK.dB (c.fact 13 7 rfl rfl)) rfl (HK.dB (c.fact 13 8 rfl rfl))
theorem ex_lcX23 (c : HK.Says fs dfs K) : ∃ e dd sl, K.lookup (ad_cdX23 K) = some ⟨e, dd, .fields (HK.fsAt K (ad_cdX23 K)), sl⟩ := HK.isFields_ok (c.fact 13 9 rfl rfl)
theorem ex_h2X23 (c : HK.Says fs dfs K) : ∃ f t, (HK.fsAt K (ad_cdX23 K))[2]? = some (Value.str f t) ∧ ((RW.prog.main.file : Str) == f) = true := HK.fileB_ok (c.fact 13 10 rfl rfl)
theorem ex_lccX23 (c : HK.Says fs dfs K) : ∃ e d s, K.lookup (ad_ccX23 K) = some ⟨e, d, .cell (some (.ref (ad_CX23 K))), s⟩ := HK.cellB_ok (c.fact 13 11 rfl rfl)
theorem fa_xfX23 (c : HK.Says fs dfs K) : xfB K (ad_CX23 K) = true := (c.fact 13 12 rfl rfl)
theorem fa_noX23 (c : HK.Says fs dfs K) : noB K (ad_CX23 K) NOSX = true := (c.fact 13 13 rfl rfl)
theorem fa_aX24 (c : HK.Says fs dfs K) : PySem.W.nsIn K mainGlobals "UnknownSide" = some (some (.ref (ad_CX24 K))) := HK.dB (c.fact 13 14 rfl rfl)
theorem ex_lX24 (c : HK.Says fs dfs K) : ∃ nm q N bs bm sn sub ab col dd k0 k1 k2 k3 k5, K.lookup (ad_CX24 K) = some (excClassObj nm q (ad_CX24 K) N bs bm true sn sub ab col dd k0 k1 k2 k3 k5 "LookupError.__new__") ∧ PySem.W.excTail [.type "LookupError", .type "Exception", .type "BaseException", .type "object"] bm = true := HK.exB_ok (c.fact 13 15 rfl rfl)
theorem fa_obX24 (c : HK.Says fs dfs K) : oxB K "LookupError" (ad_CX24 K) = true := (c.fact 13 16 rfl rfl)
theorem fa_iX24 (c : HK.Says fs dfs K) : PySem.W.findIn K (.ref (ad_CX24 K)) "__init__" = some (some (.ref (ad_fX24 K))) := HK.dB (c.fact 13 17 rfl rfl)
theorem fa_tiX24 (c : HK.Says fs dfs K) : PySem.W.typeIn K (.ref (ad_fX24 K)) = some (.type "function") := HK.dB (c.fact 13 18 rfl rfl)
theorem ex_lfX24 (c : HK.Says fs dfs K) : (∃ oc od osl doc pm an ct, K.lookup (ad_fX24 K) = some ⟨oc, od, .func (PySem.W.ksFn "__init__" "UnknownSide.__init__" (defArgs st_UnknownSide___init__) (defBody st_UnknownSide___init__) (defScope st_UnknownSide___init__) .none (HK.fdAt K (ad_fX24 K)).kwdefaults doc pm an (.ref (ad_cdX24 K)) ct (ad_ccX24 K)), osl⟩) ∧ PySem.W.codeIn K (.ref (ad_cdX24 K)) "UnknownSide.__init__" = true := c.fnC 34 (dV := .none) (kV := (HK.fdAt K (ad_fX24 K)).kwdefaults) (cdv := (.ref (ad_cdX24 K))) rfl rfl (HK.dB (c.fact 13 19 rfl rfl)) rfl (HK.dB (c.fact 13 20 rfl rfl))
theorem ex_lcX24 (c : HK.Says fs dfs K) : ∃ e dd sl, K.lookup (ad_cdX24 K) = some ⟨e, dd, .fields (HK.fsAt K (ad_cdX24 K)), sl⟩ := HK.isFields_ok (c.fact 13 21 rfl rfl)
theorem ex_h2X24 (c : HK.Says fs dfs K) : ∃ f t, (HK.fsAt K (ad_cdX24 K))[2]? = some (Value.str f t) ∧ ((RW.prog.main.file : Str) == f) = true := HK.fileB_ok (c.fact 13 22 rfl rfl)
theorem ex_lccX24 (c : HK.Says fs dfs K) : ∃ e d s, K.lookup (ad_ccX24 K) = some ⟨e, d, .cell (some (.ref (ad_CX24 K))), s⟩ := HK.cellB_ok (c.fact 13 23 rfl rfl)
theorem fa_xfX24 (c : HK.Says fs dfs K) : xfB K (ad_CX24 K) = true := (c.fact 13 24 rfl rfl)
theorem fa_noX24 (c : HK.Says fs dfs K) : noB K (ad_CX24 K) NOSX = true := (c.fact 14 0 rfl rfl)
theorem fa_aX25 (c : HK.Says fs dfs K) : PySem.W.nsIn K mainGlobals "UnknownMark" = some (some (.ref (ad_CX25 K))) := HK.dB (c.fact 14 1 rfl rfl)
theorem ex_lX25 (c : HK.Says fs dfs K) : ∃ nm q N bs bm sn sub ab col dd k0 k1 k2 k3 k5, K.lookup (ad_CX25 K) = some (excClassObj nm q (ad_CX25 K) N bs bm true sn sub ab col dd k0 k1 k2 k3 k5 "LookupError.__new__") ∧ PySem.W.excTail [.type "LookupError", .type "Exception", .type "BaseException", .type "object"] bm = true := HK.exB_ok (c.fact 14 2 rfl rfl)
theorem fa_obX25 (c : HK.Says fs dfs K) : oxB K "LookupError" (ad_CX25 K) = true := (c.fact 14 3 rfl rfl)
theorem fa_iX25 (c : HK.Says fs dfs K) : PySem.W.findIn K (.ref (ad_CX25 K)) "__init__" = some (some (.ref (ad_fX25 K))) := HK.dB (c.fact 14 4 rfl rfl)
theorem fa_tiX25 (c : HK.Says fs dfs K) : PySem.W.typeIn K (.ref (ad_fX25 K)) = some (.type "function") := HK.dB (c.fact 14 5 rfl rfl)
theorem ex_lfX25 (c : HK.Says fs dfs K) : (∃ oc od osl doc pm an ct, K.lookup (ad_fX25 K) = some ⟨oc, od, .func (PySem.W.ksFn "__init__" "UnknownMark.__init__" (defArgs st_UnknownMark___init__) (defBody st_UnknownMark___init__) (defScope st_UnknownMark___init__) .none (HK.fdAt K (ad_fX25 K)).kwdefaults doc pm an (.ref (ad_cdX25 K)) ct (ad_ccX25 K)), osl⟩) ∧ PySem.W.codeIn K (.ref (ad_cdX25 K)) "UnknownMark.__init__" = true := c.fnC 35 (dV := .none) (kV := (HK.fdAt K (ad_fX25 K)).kwdefaults) (cdv := (.ref (ad_cdX25 K))) rfl rfl (HK.dB (c.fact 14 6 rfl rfl)) rfl (HK.dB (c.fact 14 7 rfl rfl))
theorem ex_lcX25 (c : HK.Says fs dfs K) : ∃ e dd sl, K.lookup (ad_cdX25 K) = some ⟨e, dd, .fields (HK.fsAt K (ad_cdX25 K)), sl⟩ := HK.isFields_ok (c.fact 14 8 rfl rfl)
theorem ex_h2X25 (c : HK.Says fs dfs K) : ∃ f t, (HK.fsAt K (ad_cdX25 K))[2]? = some (Value.str f t) ∧ ((RW.prog.main.file : Str) == f) = true := HK.fileB_ok (c.fact 14 9 rfl rfl)
theorem ex_lccX25 (c : HK.Says fs dfs K) : ∃ e d s, K.lookup (ad_ccX25 K) = some ⟨e, d, .cell (some (.ref (ad_CX25 K))), s⟩ := HK.cellB_ok (c.fact 14 10 rfl rfl)
theorem fa_xfX25 (c : HK.Says fs dfs K) : xfB K (ad_CX25 K) = true := (c.fact 14 11 rfl rfl)
theorem fa_noX25 (c : HK.Says fs dfs K) : noB K (ad_CX25 K) NOSX = true := (c.fact 14 12 rfl rfl)
theorem fa_aX26 (c : HK.Says fs dfs K) : PySem.W.nsIn K mainGlobals "NothingLeft" = some (some (.ref (ad_CX26 K))) := HK.dB (c.fact 14 13 rfl rfl)
theorem ex_lX26 (c : HK.Says fs dfs K) : ∃ nm q N bs bm sn sub ab col dd k0 k1 k2 k3 k5, K.lookup (ad_CX26 K) = some (excClassObj nm q (ad_CX26 K) N bs bm true sn sub ab col dd k0 k1 k2 k3 k5 "IndexError.__new__") ∧ PySem.W.excTail [.type "IndexError", .type "LookupError", .type "Exception", .type "BaseException", .type "object"] bm = true := HK.exB_ok (c.fact 14 14 rfl rfl)
theorem fa_obX26 (c : HK.Says fs dfs K) : oxB K "IndexError" (ad_CX26 K) = true := (c.fact 14 15 rfl rfl)
theorem fa_iX26 (c : HK.Says fs dfs K) : PySem.W.findIn K (.ref (ad_CX26 K)) "__init__" = some (some (.ref (ad_fX26 K))) := HK.dB (c.fact 14 16 rfl rfl)
theorem fa_tiX26 (c : HK.Says fs dfs K) : PySem.W.typeIn K (.ref (ad_fX26 K)) = some (.type "function") := HK.dB (c.fact 14 17 rfl rfl)
theorem ex_lfX26 (c : HK.Says fs dfs K) : (∃ oc od osl doc pm an ct, K.lookup (ad_fX26 K) = some ⟨oc, od, .func (PySem.W.ksFn "__init__" "NothingLeft.__init__" (defArgs st_NothingLeft___init__) (defBody st_NothingLeft___init__) (defScope st_NothingLeft___init__) .none (HK.fdAt K (ad_fX26 K)).kwdefaults doc pm an (.ref (ad_cdX26 K)) ct (ad_ccX26 K)), osl⟩) ∧ PySem.W.codeIn K (.ref (ad_cdX26 K)) "NothingLeft.__init__" = true := c.fnC 36 (dV := .none) (kV := (HK.fdAt K (ad_fX26 K)).kwdefaults) (cdv := (.ref (ad_cdX26 K))) rfl rfl (HK.dB (c.fact 14 18 rfl rfl)) rfl (HK.dB (c.fact 14 19 rfl rfl))
theorem ex_lcX26 (c : HK.Says fs dfs K) : ∃ e dd sl, K.lookup (ad_cdX26 K) = some ⟨e, dd, .fields (HK.fsAt K (ad_cdX26 K)), sl⟩ := HK.isFields_ok (c.fact 14 20 rfl rfl)
theorem ex_h2X26 (c : HK.Says fs dfs K) : ∃ f t, (HK.fsAt K (ad_cdX26 K))[2]? = some (Value.str f t) ∧ ((RW.prog.main.file : Str) == f) = true := HK.fileB_ok (c.fact 14 21 rfl rfl)
theorem ex_lccX26 (c : HK.Says fs dfs K) : ∃ e d s, K.lookup (ad_ccX26 K) = some ⟨e, d, .cell (some (.ref (ad_CX26 K))), s⟩ := HK.cellB_ok (c.fact 14 22 rfl rfl)
theorem fa_xfX26 (c : HK.Says fs dfs K) : xfB K (ad_CX26 K) = true := (c.fact 14 23 rfl rfl)
theorem fa_noX26 (c : HK.Says fs dfs K) : noB K (ad_CX26 K) NOSX = true := (c.fact 14 24 rfl rfl)
theorem fa_isX0 (c : HK.Says fs dfs K) : isB K (ad_CX0 K) [((.ref (ad_CX13 K)), false), ((.ref (ad_CX8 K)), false), ((.ref (ad_CX4 K)), false), ((.ref (ad_CX15 K)), false), ((.ref (ad_CX1 K)), false), ((.ref (ad_CX11 K)), false), ((.ref (ad_CX25 K)), false), ((.ref (ad_GE K)), true), ((.type "ValueError"), true), ((.ref (ad_MI K)), false), ((.type "LookupError"), false), ((.type "IndexError"), false)] = true := (c.fact 15 0 rfl rfl)
theorem fa_isX1 (c : HK.Says fs dfs K) : isB K (ad_CX1 K) [((.ref (ad_CX13 K)), false), ((.ref (ad_CX8 K)), false), ((.ref (ad_CX4 K)), false), ((.ref (ad_CX15 K)), false), ((.ref (ad_CX1 K)), true), ((.ref (ad_CX11 K)), false), ((.ref (ad_CX25 K)), false), ((.ref (ad_GE K)), true), ((.type "ValueError"), true), ((.ref (ad_MI K)), false), ((.type "LookupError"), false), ((.type "IndexError"), false)] = true := (c.fact 15 1 rfl rfl)
theorem fa_isX2 (c : HK.Says fs dfs K) : isB K (ad_CX2 K) [((.ref (ad_CX13 K)), false), ((.ref (ad_CX8 K)), false), ((.ref (ad_CX4 K)), false), ((.ref (ad_CX15 K)), false), ((.ref (ad_CX1 K)), false), ((.ref (ad_CX11 K)), false), ((.ref (ad_CX25 K)), false), ((.ref (ad_GE K)), true), ((.type "ValueError"), true), ((.ref (ad_MI K)), false), ((.type "LookupError"), false), ((.type "IndexError"), false)] = true := (c.fact 15 2 rfl rfl)
theorem fa_isX3 (c : HK.Says fs dfs K) : isB K (ad_CX3 K) [((.ref (ad_CX13 K)), false), ((.ref (ad_CX8 K)), false), ((.ref (ad_CX4 K)), false), ((.ref (ad_CX15 K)), false), ((.ref (ad_CX1 K)), false), ((.ref (ad_CX11 K)), false), ((.ref (ad_CX25 K)), false), ((.ref (ad_GE K)), true), ((.type "ValueError"), true), ((.ref (ad_MI K)), false), ((.type "LookupError"), false), ((.type "IndexError"), false)] = true := (c.fact 15 3 rfl rfl)
theorem fa_isX4 (c : HK.Says fs dfs K) : isB K (ad_CX4 K) [((.ref (ad_CX13 K)), false), ((.ref (ad_CX8 K)), false), ((.ref (ad_CX4 K)), true), ((.ref (ad_CX15 K)), false), ((.ref (ad_CX1 K)), false), ((.ref (ad_CX11 K)), false), ((.ref (ad_CX25 K)), false), ((.ref (ad_GE K)), true), ((.type "ValueError"), true), ((.ref (ad_MI K)), false), ((.type "LookupError"), false), ((.type "IndexError"), false)] = true := (c.fact 15 4 rfl rfl)
theorem fa_isX5 (c : HK.Says fs dfs K) : isB K (ad_CX5 K) [((.ref (ad_CX13 K)), false), ((.ref (ad_CX8 K)), false), ((.ref (ad_CX4 K)), false), ((.ref (ad_CX15 K)), false), ((.ref (ad_CX1 K)), false), ((.ref (ad_CX11 K)), false), ((.ref (ad_CX25 K)), false), ((.ref (ad_GE K)), true), ((.type "ValueError"), true), ((.ref (ad_MI K)), false), ((.type "LookupError"), false), ((.type "IndexError"), false)] = true := (c.fact 15 5 rfl rfl)
theorem fa_isX6 (c : HK.Says fs dfs K) : isB K (ad_CX6 K) [((.ref (ad_CX13 K)), false), ((.ref (ad_CX8 K)), false), ((.ref (ad_CX4 K)), false), ((.ref (ad_CX15 K)), false), ((.ref (ad_CX1 K)), false), ((.ref (ad_CX11 K)), false), ((.ref (ad_CX25 K)), false), ((.ref (ad_GE K)), true), ((.type "ValueError"), true), ((.ref (ad_MI K)), false), ((.type "LookupError"), false), ((.type "IndexError"), false)] = true := (c.fact 15 6 rfl rfl)
theorem fa_isX7 (c : HK.Says fs dfs K) : isB K (ad_CX7 K) [((.ref (ad_CX13 K)), false), ((.ref (ad_CX8 K)), false), ((.ref (ad_CX4 K)), false), ((.ref (ad_CX15 K)), false), ((.ref (ad_CX1 K)), false), ((.ref (ad_CX11 K)), false), ((.ref (ad_CX25 K)), false), ((.ref (ad_GE K)), true), ((.type "ValueError"), true), ((.ref (ad_MI K)), false), ((.type "LookupError"), false), ((.type "IndexError"), false)] = true := (c.fact 15 7 rfl rfl)
theorem fa_isX8 (c : HK.Says fs dfs K) : isB K (ad_CX8 K) [((.ref (ad_CX13 K)), false), ((.ref (ad_CX8 K)), true), ((.ref (ad_CX4 K)), false), ((.ref (ad_CX15 K)), false), ((.ref (ad_CX1 K)), false), ((.ref (ad_CX11 K)), false), ((.ref (ad_CX25 K)), false), ((.ref (ad_GE K)), true), ((.type "ValueError"), true), ((.ref (ad_MI K)), false), ((.type "LookupError"), false), ((.type "IndexError"), false)] = true := (c.fact 15 8 rfl rfl)
theorem fa_isX9 (c : HK.Says fs dfs K) : isB K (ad_CX9 K) [((.ref (ad_CX13 K)), false), ((.ref (ad_CX8 K)), false), ((.ref (ad_CX4 K)), false), ((.ref (ad_CX15 K)), false), ((.ref (ad_CX1 K)), false), ((.ref (ad_CX11 K)), false), ((.ref (ad_CX25 K)), false), ((.ref (ad_GE K)), true), ((.type "ValueError"), true), ((.ref (ad_MI K)), false), ((.type "LookupError"), false), ((.type "IndexError"), false)] = true := (c.fact 15 9 rfl rfl)
theorem fa_isX10 (c : HK.Says fs dfs K) : isB K (ad_CX10 K) [((.ref (ad_CX13 K)), false), ((.ref (ad_CX8 K)), false), ((.ref (ad_CX4 K)), false), ((.ref (ad_CX15 K)), false), ((.ref (ad_CX1 K)), false), ((.ref (ad_CX11 K)), false), ((.ref (ad_CX25 K)), false), ((.ref (ad_GE K)), true), ((.type "ValueError"), true), ((.ref (ad_MI K)), false), ((.type "LookupError"), false), ((.type "IndexError"), false)] = true := (c.fact 15 10 rfl rfl)
theorem fa_isX11 (c : HK.Says fs dfs K) : isB K (ad_CX11 K) [((.ref (ad_CX13 K)), false), ((.ref (ad_CX8 K)), false), ((.ref (ad_CX4 K)), false), ((.ref (ad_CX15 K)), false), ((.ref (ad_CX1 K)), false), ((.ref (ad_CX11 K)), true), ((.ref (ad_CX25 K)), false), ((.ref (ad_GE K)), true), ((.type "ValueError"), true), ((.ref (ad_MI K)), false), ((.type "LookupError"), false), ((.type "IndexError"), false)] = true := (c.fact 15 11 rfl rfl)
theorem fa_isX12 (c : HK.Says fs dfs K) : isB K (ad_CX12 K) [((.ref (ad_CX13 K)), false), ((.ref (ad_CX8 K)), false), ((.ref (ad_CX4 K)), false), ((.ref (ad_CX15 K)), false), ((.ref (ad_CX1 K)), false), ((.ref (ad_CX11 K)), false), ((.ref (ad_CX25 K)), false), ((.ref (ad_GE K)), true), ((.type "ValueError"), true), ((.ref (ad_MI K)), false), ((.type "LookupError"), false), ((.type "IndexError"), false)] = true := (c.fact 15 12 rfl rfl)
theorem fa_isX13 (c : HK.Says fs dfs K) : isB K (ad_CX13 K) [((.ref (ad_CX13 K)), true), ((.ref (ad_CX8 K)), false), ((.ref (ad_CX4 K)), false), ((.ref (ad_CX15 K)), false), ((.ref (ad_CX1 K)), false), ((.ref (ad_CX11 K)), false), ((.ref (ad_CX25 K)), false), ((.ref (ad_GE K)), true), ((.type "ValueError"), true), ((.ref (ad_MI K)), false), ((.type "LookupError"), false), ((.type "IndexError"), false)] = true := (c.fact 15 13 rfl rfl)
theorem fa_isX14 (c : HK.Says fs dfs K) : isB K (ad_CX14 K) [((.ref (ad_CX13 K)), false), ((.ref (ad_CX8 K)), false), ((.ref (ad_CX4 K)), false), ((.ref (ad_CX15 K)), false), ((.ref (ad_CX1 K)), false), ((.ref (ad_CX11 K)), false), ((.ref (ad_CX25 K)), false), ((.ref (ad_GE K)), true), ((.type "ValueError"), true), ((.ref (ad_MI K)), false), ((.type "LookupError"), false), ((.type "IndexError"), false)] = true := (c.fact 15 14 rfl rfl)
theorem fa_isX15 (c : HK.Says fs dfs K) : isB K (ad_CX15 K) [((.ref (ad_CX13 K)), false), ((.ref (ad_CX8 K)), false), ((.ref (ad_CX4 K)), false), ((.ref (ad_CX15 K)), true), ((.ref (ad_CX1 K)), false), ((.ref (ad_CX11 K)), false), ((.ref (ad_CX25 K)), false), ((.ref (ad_GE K)), true), ((.type "ValueError"), true), ((.ref (ad_MI K)), false), ((.type "LookupError"), false), ((.type "IndexError"), false)] = true := (c.fact 15 15 rfl rfl)
theorem fa_isX16 (c : HK.Says fs dfs K) : isB K (ad_CX16 K) [((.ref (ad_CX13 K)), false), ((.ref (ad_CX8 K)), false), ((.ref (ad_CX4 K)), false), ((.ref (ad_CX15 K)), false), ((.ref (ad_CX1 K)), false), ((.ref (ad_CX11 K)), false), ((.ref (ad_CX25 K)), false), ((.ref (ad_GE K)), true), ((.type "ValueError"), true), ((.ref (ad_MI K)), false), ((.type "LookupError"), false), ((.type "IndexError"), false)] = true := (c.fact 15 16 rfl rfl)
theorem fa_isX17 (c : HK.Says fs dfs K) : isB K (ad_CX17 K) [((.ref (ad_CX13 K)), false), ((.ref (ad_CX8 K)), false), ((.ref (ad_CX4 K)), false), ((.ref (ad_CX15 K)), false), ((.ref (ad_CX1 K)), false), ((.ref (ad_CX11 K)), false), ((.ref (ad_CX25 K)), false), ((.ref (ad_GE K)), true), ((.type "ValueError"), true), ((.ref (ad_MI K)), false), ((.type "LookupError"), false), ((.type "IndexError"), false)] = true := (c.fact 15 17 rfl rfl)
theorem fa_isX18 (c : HK.Says fs dfs K) : isB K (ad_CX18 K) [((.ref (ad_CX13 K)), false), ((.ref (ad_CX8 K)), false), ((.ref (ad_CX4 K)), false), ((.ref (ad_CX15 K)), false), ((.ref (ad_CX1 K)), false), ((.ref (ad_CX11 K)), false), ((.ref (ad_CX25 K)), false), ((.ref (ad_GE K)), true), ((.type "ValueError"), true), ((.ref (ad_MI K)), false), ((.type "LookupError"), false), ((.type "IndexError"), false)] = true := (c.fact 15 18 rfl rfl)
theorem fa_isX19 (c : HK.Says fs dfs K) : isB K (ad_CX19 K) [((.ref (ad_CX13 K)), false), ((.ref (ad_CX8 K)), false), ((.ref (ad_CX4 K)), false), ((.ref (ad_CX15 K)), false), ((.ref (ad_CX1 K)), false), ((.ref (ad_CX11 K)), false), ((.ref (ad_CX25 K)), false), ((.ref (ad_GE K)), true), ((.type "ValueError"), true), ((.ref (ad_MI K)), false), ((.type "LookupError"), false), ((.type "IndexError"), false)] = true := (c.fact 15 19 rfl rfl)
theorem fa_isX20 (c : HK.Says fs dfs K) : isB K (ad_CX20 K) [((.ref (ad_CX13 K)), false), ((.ref (ad_CX8 K)), false), ((.ref (ad_CX4 K)), false), ((.ref (ad_CX15 K)), false), ((.ref (ad_CX1 K)), false), ((.ref (ad_CX11 K)), false), ((.ref (ad_CX25 K)), false), ((.ref (ad_GE K)), true), ((.type "ValueError"), true), ((.ref (ad_MI K)), false), ((.type "LookupError"), false), ((.type "IndexError"), false)] = true := (c.fact 15 20 rfl rfl)
theorem fa_isX21 (c : HK.Says fs dfs K) : isB K (ad_CX21 K) [((.ref (ad_CX13 K)), false), ((.ref (ad_CX8 K)), false), ((.ref (ad_CX4 K)), false), ((.ref (ad_CX15 K)), false), ((.ref (ad_CX1 K)), false), ((.ref (ad_CX11 K)), false), ((.ref (ad_CX25 K)), false), ((.ref (ad_GE K)), true), ((.type "ValueError"), true), ((.ref (ad_MI K)), false), ((.type "LookupError"), false), ((.type "IndexError"), false)] = true := (c.fact 15 21 rfl rfl)
theorem fa_isX22 (c : HK.Says fs dfs K) : isB K (ad_CX22 K) [((.ref (ad_CX13 K)), false), ((.ref (ad_CX8 K)), false), ((.ref (ad_CX4 K)), false), ((.ref (ad_CX15 K)), false), ((.ref (ad_CX1 K)), false), ((.ref (ad_CX11 K)), false), ((.ref (ad_CX25 K)), false), ((.ref (ad_GE K)), true), ((.type "ValueError"), true), ((.ref (ad_MI K)), false), ((.type "LookupError"), false), ((.type "IndexError"), false)] = true := (c.fact 15 22 rfl rfl)
theorem fa_isX23 (c : HK.Says fs dfs K) : isB K (ad_CX23 K) [((.ref (ad_CX13 K)), false), ((.ref (ad_CX8 K)), false), ((.ref (ad_CX4 K)), false), ((.ref (ad_CX15 K)), false), ((.ref (ad_CX1 K)), false), ((.ref (ad_CX11 K)), false), ((.ref (ad_CX25 K)), false), ((.ref (ad_GE K)), false), ((.type "ValueError"), false), ((.ref (ad_MI K)), true), ((.type "LookupError"), true), ((.type "IndexError"), false)] = true := (c.fact 15 23 rfl rfl)
theorem fa_isX24 (c : HK.Says fs dfs K) : isB K (ad_CX24 K) [((.ref (ad_CX13 K)), false), ((.ref (ad_CX8 K)), false), ((.ref (ad_CX4 K)), false), ((.ref (ad_CX15 K)), false), ((.ref (ad_CX1 K)), false), ((.ref (ad_CX11 K)), false), ((.ref (ad_CX25 K)), false), ((.ref (ad_GE K)), false), ((.type "ValueError"), false), ((.ref (ad_MI K)), true), ((.type "LookupError"), true), ((.type "IndexError"), false)] = true := (c.fact 15 24 rfl rfl)
theorem fa_isX25 (c : HK.Says fs dfs K) : isB K (ad_CX25 K) [((.ref (ad_CX13 K)), false), ((.ref (ad_CX8 K)), false), ((.ref (ad_CX4 K)), false), ((.ref (ad_CX15 K)), false), ((.ref (ad_CX1 K)), false), ((.ref (ad_CX11 K)), false), ((.ref (ad_CX25 K)), true), ((.ref (ad_GE K)), false), ((.type "ValueError"), false), ((.ref (ad_MI K)), true), ((.type "LookupError"), true), ((.type "IndexError"), false)] = true := (c.fact 16 0 rfl rfl)
theorem fa_isX26 (c : HK.Says fs dfs K) : isB K (ad_CX26 K) [((.ref (ad_CX13 K)), false), ((.ref (ad_CX8 K)), false), ((.ref (ad_CX4 K)), false), ((.ref (ad_CX15 K)), false), ((.ref (ad_CX1 K)), false), ((.ref (ad_CX11 K)), false), ((.ref (ad_CX25 K)), false), ((.ref (ad_GE K)), false), ((.type "ValueError"), false), ((.ref (ad_MI K)), false), ((.type "LookupError"), true), ((.type "IndexError"), true)] = true := (c.fact 16 1 rfl rfl)
theorem facts {w : World} {h : Heap} {mg : Str → Option Value} {fa : Addr} (X : K.In h) (G : h.Ns mainGlobals mg) (hfa : mg "law" = some (.ref fa)) (c : HK.Says fs dfs K)
    : ∃ fd : FuncData, (∀ (s : Shared) (v : Value), BindsTo s fd ⟨[v], []⟩ [("_law_script", v)]) ∧ ∀ base : Heap, K.In base → base.Ns mainGlobals mg → FnOk RW.prog w K mg base (L2.CX RW.prog w) 18 fa fd ["_law_script"] (spD K 1 ph_law) := by
  obtain ⟨_, _, _, _, _, _, _, h_l0⟩ := (ex_l0 c).1
  obtain ⟨_, _, _, _, _, _, _, h_l1⟩ := (ex_l1 c).1
  obtain ⟨_, _, _, _, _, _, _, h_l2⟩ := (ex_l2 c).1
  obtain ⟨_, _, _, _, _, _, _, h_l3⟩ := (ex_l3 c).1
  obtain ⟨_, _, _, _, _, _, _, h_l4⟩ := (ex_l4 c).1
  obtain ⟨_, _, _, _, _, _, _, h_l5⟩ := (ex_l5 c).1
  obtain ⟨_, _, _, _, _, _, _, h_l6⟩ := (ex_l6 c).1
  obtain ⟨_, _, _, _, _, _, _, h_l7⟩ := (ex_l7 c).1
  obtain ⟨_, _, _, _, _, _, _, h_l8⟩ := (ex_l8 c).1
  obtain ⟨_, _, _, _, _, _, _, h_l9⟩ := (ex_l9 c).1
  obtain ⟨_, _, _, _, _, _, _, _, _, _, _, _, _, _, _, h_lX0, r_bmX0⟩ := ex_lX0 c
  obtain ⟨_, _, _, _, _, _, _, h_lfX0⟩ := (ex_lfX0 c).1
  obtain ⟨_, _, _, h_lcX0⟩ := ex_lcX0 c
  obtain ⟨_, _, h_h2X0, r_fileX0⟩ := ex_h2X0 c
  obtain ⟨_, _, _, h_lccX0⟩ := ex_lccX0 c
  obtain ⟨_, _, _, _, _, _, _, _, _, _, _, _, _, _, _, h_lX1, r_bmX1⟩ := ex_lX1 c
  obtain ⟨_, _, _, _, _, _, _, h_lfX1⟩ := (ex_lfX1 c).1
  obtain ⟨_, _, _, h_lcX1⟩ := ex_lcX1 c
  obtain ⟨_, _, h_h2X1, r_fileX1⟩ := ex_h2X1 c
  obtain ⟨_, _, _, h_lccX1⟩ := ex_lccX1 c
  obtain ⟨_, _, _, _, _, _, _, _, _, _, _, _, _, _, _, h_lX2, r_bmX2⟩ := ex_lX2 c
  obtain ⟨_, _, _, _, _, _, _, h_lfX2⟩ := (ex_lfX2 c).1
  obtain ⟨_, _, _, h_lcX2⟩ := ex_lcX2 c
  obtain ⟨_, _, h_h2X2, r_fileX2⟩ := ex_h2X2 c
  obtain ⟨_, _, _, h_lccX2⟩ := ex_lccX2 c
  obtain ⟨_, _, _, _, _, _, _, _, _, _, _, _, _, _, _, h_lX3, r_bmX3⟩ := ex_lX3 c
  obtain ⟨_, _, _, _, _, _, _, h_lfX3⟩ := (ex_lfX3 c).1
  obtain ⟨_, _, _, h_lcX3⟩ := ex_lcX3 c
  obtain ⟨_, _, h_h2X3, r_fileX3⟩ := ex_h2X3 c
  obtain ⟨_, _, _, h_lccX3⟩ := ex_lccX3 c
  obtain ⟨_, _, _, _, _, _, _, _, _, _, _, _, _, _, _, h_lX4, r_bmX4⟩ := ex_lX4 c
  obtain ⟨_, _, _, _, _, _, _, h_lfX4⟩ := (ex_lfX4 c).1
  obtain ⟨_, _, _, h_lcX4⟩ := ex_lcX4 c
  obtain ⟨_, _, h_h2X4, r_fileX4⟩ := ex_h2X4 c
  obtain ⟨_, _, _, h_lccX4⟩ := ex_lccX4 c
  obtain ⟨_, _, _, _, _, _, _, _, _, _, _, _, _, _, _, h_lX5, r_bmX5⟩ := ex_lX5 c
  obtain ⟨_, _, _, _, _, _, _, h_lfX5⟩ := (ex_lfX5 c).1
  obtain ⟨_, _, _, h_lcX5⟩ := ex_lcX5 c
  obtain ⟨_, _, h_h2X5, r_fileX5⟩ := ex_h2X5 c
  obtain ⟨_, _, _, h_lccX5⟩ := ex_lccX5 c
  obtain ⟨_, _, _, _, _, _, _, _, _, _, _, _, _, _, _, h_lX6, r_bmX6⟩ := ex_lX6 c
  obtain ⟨_, _, _, _, _, _, _, h_lfX6⟩ := (ex_lfX6 c).1
  obtain ⟨_, _, _, h_lcX6⟩ := ex_lcX6 c
  obtain ⟨_, _, h_h2X6, r_fileX6⟩ := ex_h2X6 c
  obtain ⟨_, _, _, h_lccX6⟩ := ex_lccX6 c
  obtain ⟨_, _, _, _, _, _, _, _, _, _, _, _, _, _, _, h_lX7, r_bmX7⟩ := ex_lX7 c
  obtain ⟨_, _, _, _, _, _, _, h_lfX7⟩ := (ex_lfX7 c).1
  obtain ⟨_, _, _, h_lcX7⟩ := ex_lcX7 c
  obtain ⟨_, _, h_h2X7, r_fileX7⟩ := ex_h2X7 c
  obtain ⟨_, _, _, h_lccX7⟩ := ex_lccX7 c
  obtain ⟨_, _, _, _, _, _, _, _, _, _, _, _, _, _, _, h_lX8, r_bmX8⟩ := ex_lX8 c
  obtain ⟨_, _, _, _, _, _, _, h_lfX8⟩ := (ex_lfX8 c).1
  obtain ⟨_, _, _, h_lcX8⟩ := ex_lcX8 c
  obtain ⟨_, _, h_h2X8, r_fileX8⟩ := ex_h2X8 c
  obtain ⟨_, _, _, h_lccX8⟩ := ex_lccX8 c
  obtain ⟨_, _, _, _, _, _, _, _, _, _, _, _, _, _, _, h_lX9, r_bmX9⟩ := ex_lX9 c
  obtain ⟨_, _, _, _, _, _, _, h_lfX9⟩ := (ex_lfX9 c).1
  obtain ⟨_, _, _, h_lcX9⟩ := ex_lcX9 c
  obtain ⟨_, _, h_h2X9, r_fileX9⟩ := ex_h2X9 c
  obtain ⟨_, _, _, h_lccX9⟩ := ex_lccX9 c
  obtain ⟨_, _, _, _, _, _, _, _, _, _, _, _, _, _, _, h_lX10, r_bmX10⟩ := ex_lX10 c
  obtain ⟨_, _, _, _, _, _, _, h_lfX10⟩ := (ex_lfX10 c).1
  obtain ⟨_, _, _, h_lcX10⟩ := ex_lcX10 c
  obtain ⟨_, _, h_h2X10, r_fileX10⟩ := ex_h2X10 c
  obtain ⟨_, _, _, h_lccX10⟩ := ex_lccX10 c
  obtain ⟨_, _, _, _, _, _, _, _, _, _, _, _, _, _, _, h_lX11, r_bmX11⟩ := ex_lX11 c
  obtain ⟨_, _, _, _, _, _, _, h_lfX11⟩ := (ex_lfX11 c).1
  obtain ⟨_, _, _, h_lcX11⟩ := ex_lcX11 c
  obtain ⟨_, _, h_h2X11, r_fileX11⟩ := ex_h2X11 c
  obtain ⟨_, _, _, h_lccX11⟩ := ex_lccX11 c
  obtain ⟨_, _, _, _, _, _, _, _, _, _, _, _, _, _, _, h_lX12, r_bmX12⟩ := ex_lX12 c
  obtain ⟨_, _, _, _, _, _, _, h_lfX12⟩ := (ex_lfX12 c).1
  obtain ⟨_, _, _, h_lcX12⟩ := ex_lcX12 c
  obtain ⟨_, _, h_h2X12, r_fileX12⟩ := ex_h2X12 c
  obtain ⟨_, _, _, h_lccX12⟩ := ex_lccX12 c
  obtain ⟨_, _, _, _, _, _, _, _, _, _, _, _, _, _, _, h_lX13, r_bmX13⟩ := ex_lX13 c
  obtain ⟨_, _, _, _, _, _, _, h_lfX13⟩ := (ex_lfX13 c).1
  obtain ⟨_, _, _, h_lcX13⟩ := ex_lcX13 c
  obtain ⟨_, _, h_h2X13, r_fileX13⟩ := ex_h2X13 c
  obtain ⟨_, _, _, h_lccX13⟩ := ex_lccX13 c
  obtain ⟨_, _, _, _, _, _, _, _, _, _, _, _, _, _, _, h_lX14, r_bmX14⟩ := ex_lX14 c
  obtain ⟨_, _, _, _, _, _, _, h_lfX14⟩ := (ex_lfX14 c).1
  obtain ⟨_, _, _, h_lcX14⟩ := ex_lcX14 c
  obtain ⟨_, _, h_h2X14, r_fileX14⟩ := ex_h2X14 c
  obtain ⟨_, _, _, h_lccX14⟩ := ex_lccX14 c
  obtain ⟨_, _, _, _, _, _, _, _, _, _, _, _, _, _, _, h_lX15, r_bmX15⟩ := ex_lX15 c
  obtain ⟨_, _, _, _, _, _, _, h_lfX15⟩ := (ex_lfX15 c).1
  obtain ⟨_, _, _, h_lcX15⟩ := ex_lcX15 c
  obtain ⟨_, _, h_h2X15, r_fileX15⟩ := ex_h2X15 c
  obtain ⟨_, _, _, h_lccX15⟩ := ex_lccX15 c
  obtain ⟨_, _, _, _, _, _, _, _, _, _, _, _, _, _, _, h_lX16, r_bmX16⟩ := ex_lX16 c
  obtain ⟨_, _, _, _, _, _, _, h_lfX16⟩ := (ex_lfX16 c).1
  obtain ⟨_, _, _, h_lcX16⟩ := ex_lcX16 c
  obtain ⟨_, _, h_h2X16, r_fileX16⟩ := ex_h2X16 c
  obtain ⟨_, _, _, h_lccX16⟩ := ex_lccX16 c
  obtain ⟨_, _, _, _, _, _, _, _, _, _, _, _, _, _, _, h_lX17, r_bmX17⟩ := ex_lX17 c
  obtain ⟨_, _, _, _, _, _, _, h_lfX17⟩ := (ex_lfX17 c).1
  obtain ⟨_, _, _, h_lcX17⟩ := ex_lcX17 c
  obtain ⟨_, _, h_h2X17, r_fileX17⟩ := ex_h2X17 c
  obtain ⟨_, _, _, h_lccX17⟩ := ex_lccX17 c
  obtain ⟨_, _, _, _, _, _, _, _, _, _, _, _, _, _, _, h_lX18, r_bmX18⟩ := ex_lX18 c
  obtain ⟨_, _, _, _, _, _, _, h_lfX18⟩ := (ex_lfX18 c).1
  obtain ⟨_, _, _, h_lcX18⟩ := ex_lcX18 c
  obtain ⟨_, _, h_h2X18, r_fileX18⟩ := ex_h2X18 c
  obtain ⟨_, _, _, h_lccX18⟩ := ex_lccX18 c
  obtain ⟨_, _, _, _, _, _, _, _, _, _, _, _, _, _, _, h_lX19, r_bmX19⟩ := ex_lX19 c
  obtain ⟨_, _, _, _, _, _, _, h_lfX19⟩ := (ex_lfX19 c).1
  obtain ⟨_, _, _, h_lcX19⟩ := ex_lcX19 c
  obtain ⟨_, _, h_h2X19, r_fileX19⟩ := ex_h2X19 c
  obtain ⟨_, _, _, h_lccX19⟩ := ex_lccX19 c
  obtain ⟨_, _, _, _, _, _, _, _, _, _, _, _, _, _, _, h_lX20, r_bmX20⟩ := ex_lX20 c
  obtain ⟨_, _, _, _, _, _, _, h_lfX20⟩ := (ex_lfX20 c).1
  obtain ⟨_, _, _, h_lcX20⟩ := ex_lcX20 c
  obtain ⟨_, _, h_h2X20, r_fileX20⟩ := ex_h2X20 c
  obtain ⟨_, _, _, h_lccX20⟩ := ex_lccX20 c
  obtain ⟨_, _, _, _, _, _, _, _, _, _, _, _, _, _, _, h_lX21, r_bmX21⟩ := ex_lX21 c
  obtain ⟨_, _, _, _, _, _, _, h_lfX21⟩ := (ex_lfX21 c).1
  obtain ⟨_, _, _, h_lcX21⟩ := ex_lcX21 c
  obtain ⟨_, _, h_h2X21, r_fileX21⟩ := ex_h2X21 c
  obtain ⟨_, _, _, h_lccX21⟩ := ex_lccX21 c
  obtain ⟨_, _, _, _, _, _, _, _, _, _, _, _, _, _, _, h_lX22, r_bmX22⟩ := ex_lX22 c
  obtain ⟨_, _, _, _, _, _, _, h_lfX22⟩ := (ex_lfX22 c).1
  obtain ⟨_, _, _, h_lcX22⟩ := ex_lcX22 c
  obtain ⟨_, _, h_h2X22, r_fileX22⟩ := ex_h2X22 c
  obtain ⟨_, _, _, h_lccX22⟩ := ex_lccX22 c
  obtain ⟨_, _, _, _, _, _, _, _, _, _, _, _, _, _, _, h_lX23, r_bmX23⟩ := ex_lX23 c
  obtain ⟨_, _, _, _, _, _, _, h_lfX23⟩ := (ex_lfX23 c).1
  obtain ⟨_, _, _, h_lcX23⟩ := ex_lcX23 c
  obtain ⟨_, _, h_h2X23, r_fileX23⟩ := ex_h2X23 c
  obtain ⟨_, _, _, h_lccX23⟩ := ex_lccX23 c
  obtain ⟨_, _, _, _, _, _, _, _, _, _, _, _, _, _, _, h_lX24, r_bmX24⟩ := ex_lX24 c
  obtain ⟨_, _, _, _, _, _, _, h_lfX24⟩ := (ex_lfX24 c).1
  obtain ⟨_, _, _, h_lcX24⟩ := ex_lcX24 c
  obtain ⟨_, _, h_h2X24, r_fileX24⟩ := ex_h2X24 c
  obtain ⟨_, _, _, h_lccX24⟩ := ex_lccX24 c
  obtain ⟨_, _, _, _, _, _, _, _, _, _, _, _, _, _, _, h_lX25, r_bmX25⟩ := ex_lX25 c
  obtain ⟨_, _, _, _, _, _, _, h_lfX25⟩ := (ex_lfX25 c).1
  obtain ⟨_, _, _, h_lcX25⟩ := ex_lcX25 c
  obtain ⟨_, _, h_h2X25, r_fileX25⟩ := ex_h2X25 c
  obtain ⟨_, _, _, h_lccX25⟩ := ex_lccX25 c
  obtain ⟨_, _, _, _, _, _, _, _, _, _, _, _, _, _, _, h_lX26, r_bmX26⟩ := ex_lX26 c
  obtain ⟨_, _, _, _, _, _, _, h_lfX26⟩ := (ex_lfX26 c).1
  obtain ⟨_, _, _, h_lcX26⟩ := ex_lcX26 c
  obtain ⟨_, _, h_h2X26, r_fileX26⟩ := ex_h2X26 c
  obtain ⟨_, _, _, h_lccX26⟩ := ex_lccX26 c
  exact all_mk (l := RW) X G hfa (fa_hn c) (fa_htk c) (fa_a0 c) h_l0 (ex_l0 c).2 (fa_k0 c) (fa_a1 c) h_l1 (ex_l1 c).2 (fa_k1 c) (fa_a2 c) h_l2 (ex_l2 c).2 (fa_k2 c) (fa_a3 c) h_l3 (ex_l3 c).2 (fa_k3 c) (fa_a4 c) h_l4 (ex_l4 c).2 (fa_k4 c) (fa_a5 c) h_l5 (ex_l5 c).2 (fa_k5 c) (fa_a6 c) h_l6 (ex_l6 c).2 (fa_k6 c) (fa_a7 c) h_l7 (ex_l7 c).2 (fa_k7 c) (fa_a8 c) h_l8 (ex_l8 c).2 (fa_k8 c) (fa_a9 c) h_l9 (ex_l9 c).2 (fa_k9 c) (fa_b_IndexError c) (fa_b_LookupError c) (fa_b_ValueError c) (fa_b_all c) (fa_b_bool c) (fa_b_int c) (fa_b_isinstance c) (fa_b_len c) (fa_b_list c) (fa_b_str c) (fa_b_tuple c) (fa_b_zip c) (fa_gG c) (fa_gM c) (fa_gValueError c) (fa_gLookupError c) (fa_gIndexError c) (fa_suX c) (fa_opX c) (by kernel_rfl) (fa_aX0 c) h_lX0 r_bmX0 (fa_obX0 c) (fa_iX0 c) (fa_tiX0 c) h_lfX0 h_lcX0 h_h2X0 r_fileX0 h_lccX0 (ex_lfX0 c).2 (fa_xfX0 c) (fa_noX0 c) (fa_aX1 c) h_lX1 r_bmX1 (fa_obX1 c) (fa_iX1 c) (fa_tiX1 c) h_lfX1 h_lcX1 h_h2X1 r_fileX1 h_lccX1 (ex_lfX1 c).2 (fa_xfX1 c) (fa_noX1 c) (fa_aX2 c) h_lX2 r_bmX2 (fa_obX2 c) (fa_iX2 c) (fa_tiX2 c) h_lfX2 h_lcX2 h_h2X2 r_fileX2 h_lccX2 (ex_lfX2 c).2 (fa_xfX2 c) (fa_noX2 c) (fa_aX3 c) h_lX3 r_bmX3 (fa_obX3 c) (fa_iX3 c) (fa_tiX3 c) h_lfX3 h_lcX3 h_h2X3 r_fileX3 h_lccX3 (ex_lfX3 c).2 (fa_xfX3 c) (fa_noX3 c) (fa_aX4 c) h_lX4 r_bmX4 (fa_obX4 c) (fa_iX4 c) (fa_tiX4 c) h_lfX4 h_lcX4 h_h2X4 r_fileX4 h_lccX4 (ex_lfX4 c).2 (fa_xfX4 c) (fa_noX4 c) (fa_aX5 c) h_lX5 r_bmX5 (fa_obX5 c) (fa_iX5 c) (fa_tiX5 c) h_lfX5 h_lcX5 h_h2X5 r_fileX5 h_lccX5 (ex_lfX5 c).2 (fa_xfX5 c) (fa_noX5 c) (fa_aX6 c) h_lX6 r_bmX6 (fa_obX6 c) (fa_iX6 c) (fa_tiX6 c) h_lfX6 h_lcX6 h_h2X6 r_fileX6 h_lccX6 (ex_lfX6 c).2 (fa_xfX6 c) (fa_noX6 c) (fa_aX7 c) h_lX7 r_bmX7 (fa_obX7 c) (fa_iX7 c) (fa_tiX7 c) h_lfX7 h_lcX7 h_h2X7 r_fileX7 h_lccX7 (ex_lfX7 c).2 (fa_xfX7 c) (fa_noX7 c) (fa_aX8 c) h_lX8 r_bmX8 (fa_obX8 c) (fa_iX8 c) (fa_tiX8 c) h_lfX8 h_lcX8 h_h2X8 r_fileX8 h_lccX8 (ex_lfX8 c).2 (fa_xfX8 c) (fa_noX8 c) (fa_aX9 c) h_lX9 r_bmX9 (fa_obX9 c) (fa_iX9 c) (fa_tiX9 c) h_lfX9 h_lcX9 h_h2X9 r_fileX9 h_lccX9 (ex_lfX9 c).2 (fa_xfX9 c) (fa_noX9 c) (fa_aX10 c) h_lX10 r_bmX10 (fa_obX10 c) (fa_iX10 c) (fa_tiX10 c) h_lfX10 h_lcX10 h_h2X10 r_fileX10 h_lccX10 (ex_lfX10 c).2 (fa_xfX10 c) (fa_noX10 c) (fa_aX11 c) h_lX11 r_bmX11 (fa_obX11 c) (fa_iX11 c) (fa_tiX11 c) h_lfX11 h_lcX11 h_h2X11 r_fileX11 h_lccX11 (ex_lfX11 c).2 (fa_xfX11 c) (fa_noX11 c) (fa_aX12 c) h_lX12 r_bmX12 (fa_obX12 c) (fa_iX12 c) (fa_tiX12 c) h_lfX12 h_lcX12 h_h2X12 r_fileX12 h_lccX12 (ex_lfX12 c).2 (fa_xfX12 c) (fa_noX12 c) (fa_aX13 c) h_lX13 r_bmX13 (fa_obX13 c) (fa_iX13 c) (fa_tiX13 c) h_lfX13 h_lcX13 h_h2X13 r_fileX13 h_lccX13 (ex_lfX13 c).2 (fa_xfX13 c) (fa_noX13 c) (fa_aX14 c) h_lX14 r_bmX14 (fa_obX14 c) (fa_iX14 c) (fa_tiX14 c) h_lfX14 h_lcX14 h_h2X14 r_fileX14 h_lccX14 (ex_lfX14 c).2 (fa_xfX14 c) (fa_noX14 c) (fa_aX15 c) h_lX15 r_bmX15 (fa_obX15 c) (fa_iX15 c) (fa_tiX15 c) h_lfX15 h_lcX15 h_h2X15 r_fileX15 h_lccX15 (ex_lfX15 c).2 (fa_xfX15 c) (fa_noX15 c) (fa_aX16 c) h_lX16 r_bmX16 (fa_obX16 c) (fa_iX16 c) (fa_tiX16 c) h_lfX16 h_lcX16 h_h2X16 r_fileX16 h_lccX16 (ex_lfX16 c).2 (fa_xfX16 c) (fa_noX16 c) (fa_aX17 c) h_lX17 r_bmX17 (fa_obX17 c) (fa_iX17 c) (fa_tiX17 c) h_lfX17 h_lcX17 h_h2X17 r_fileX17 h_lccX17 (ex_lfX17 c).2 (fa_xfX17 c) (fa_noX17 c) (fa_aX18 c) h_lX18 r_bmX18 (fa_obX18 c) (fa_iX18 c) (fa_tiX18 c) h_lfX18 h_lcX18 h_h2X18 r_fileX18 h_lccX18 (ex_lfX18 c).2 (fa_xfX18 c) (fa_noX18 c) (fa_aX19 c) h_lX19 r_bmX19 (fa_obX19 c) (fa_iX19 c) (fa_tiX19 c) h_lfX19 h_lcX19 h_h2X19 r_fileX19 h_lccX19 (ex_lfX19 c).2 (fa_xfX19 c) (fa_noX19 c) (fa_aX20 c) h_lX20 r_bmX20 (fa_obX20 c) (fa_iX20 c) (fa_tiX20 c) h_lfX20 h_lcX20 h_h2X20 r_fileX20 h_lccX20 (ex_lfX20 c).2 (fa_xfX20 c) (fa_noX20 c) (fa_aX21 c) h_lX21 r_bmX21 (fa_obX21 c) (fa_iX21 c) (fa_tiX21 c) h_lfX21 h_lcX21 h_h2X21 r_fileX21 h_lccX21 (ex_lfX21 c).2 (fa_xfX21 c) (fa_noX21 c) (fa_aX22 c) h_lX22 r_bmX22 (fa_obX22 c) (fa_iX22 c) (fa_tiX22 c) h_lfX22 h_lcX22 h_h2X22 r_fileX22 h_lccX22 (ex_lfX22 c).2 (fa_xfX22 c) (fa_noX22 c) (fa_aX23 c) h_lX23 r_bmX23 (fa_obX23 c) (fa_iX23 c) (fa_tiX23 c) h_lfX23 h_lcX23 h_h2X23 r_fileX23 h_lccX23 (ex_lfX23 c).2 (fa_xfX23 c) (fa_noX23 c) (fa_aX24 c) h_lX24 r_bmX24 (fa_obX24 c) (fa_iX24 c) (fa_tiX24 c) h_lfX24 h_lcX24 h_h2X24 r_fileX24 h_lccX24 (ex_lfX24 c).2 (fa_xfX24 c) (fa_noX24 c) (fa_aX25 c) h_lX25 r_bmX25 (fa_obX25 c) (fa_iX25 c) (fa_tiX25 c) h_lfX25 h_lcX25 h_h2X25 r_fileX25 h_lccX25 (ex_lfX25 c).2 (fa_xfX25 c) (fa_noX25 c) (fa_aX26 c) h_lX26 r_bmX26 (fa_obX26 c) (fa_iX26 c) (fa_tiX26 c) h_lfX26 h_lcX26 h_h2X26 r_fileX26 h_lccX26 (ex_lfX26 c).2 (fa_xfX26 c) (fa_noX26 c) (fa_isX0 c) (fa_isX1 c) (fa_isX2 c) (fa_isX3 c) (fa_isX4 c) (fa_isX5 c) (fa_isX6 c) (fa_isX7 c) (fa_isX8 c) (fa_isX9 c) (fa_isX10 c) (fa_isX11 c) (fa_isX12 c) (fa_isX13 c) (fa_isX14 c) (fa_isX15 c) (fa_isX16 c) (fa_isX17 c) (fa_isX18 c) (fa_isX19 c) (fa_isX20 c) (fa_isX21 c) (fa_isX22 c) (fa_isX23 c) (fa_isX24 c) (fa_isX25 c) (fa_isX26 c)
end
def nm0 : List PySem.Str := ["GustError", "Missing", "InvalidRatio", "InvalidSpan", "InvalidText", "InvalidName", "DuplicateName", "InvalidCorners", "NotConvex", "InvalidWinds", "SplitSide", "InvalidTiles", "TooMany", "Overlap", "LooseCorner", "InvalidWall", "InvalidChord", "NotJoined", "MarkedSide", "InvalidPlace", "InvalidRound", "InvalidCount", "TooFar", "InvalidDeed", "InvalidLimit", "UnknownTile", "UnknownSide", "UnknownMark", "NothingLeft", "_law_sort"]
def nm1 : List PySem.Str := ["_law_same", "_law_fields", "_law_start", "_law_pull", "_law_pick", "_law_stray", "_law_kinds_apart", "_law_errors_so"]
def names : List PySem.Str := nm0 ++ nm1
abbrev RO : PySem.W.OpenRow := PySem.W.OpenLaw.row RW
abbrev qv : Program := PySem.W.view RO.prog [40]
abbrev hk : PySem.W.Hook := HK.hookK fs dfs
theorem run (w : World) : HandSHeadRun.RunEq RO qv hk (HK.obK fs dfs) 40000 names w := by
  intro os
  kernel_rfl
end W09
open PySem PySem.W PySem.Calls PyProof.Rows
theorem PySem.Challenge.cw_gustfloor_k09_errors_by_themselves_holds : PySem.Challenge.rw_gustfloor_k09_errors_by_themselves.Holds := by
  w_on; o_law
  refine HandSHeadRun.head_any (r := OpenLaw.row PySem.Challenge.rw_gustfloor_k09_errors_by_themselves) (q := W09.qv) (H := W09.hk) (ob := HK.obK W09.fs W09.dfs) (M := 40000) (loose := W09.names) (d := HandSHeadRun.topDef (OpenLaw.row PySem.Challenge.rw_gustfloor_k09_errors_by_themselves).prog 40) (kwd := []) (HK.obK_eq W09.fs W09.dfs)
    (by kernel_rfl) (fun s => by kernel_rfl) W09.run (by kernel_rfl) (by kernel_rfl) (by kernel_rfl) (by rfl) (by first | assumption | decide +kernel) (by decide +kernel) ⟨rfl, rfl, rfl, rfl, rfl, by decide +kernel⟩ ?hw ?hc
  case hw => w_witness2
  case hc =>
    refine DL.walk_DE (l := PySem.Challenge.rw_gustfloor_k09_errors_by_themselves) (k := 18) (φ := W09.ph_law) (x := "_law_script") rfl rfl ⟨rfl, by decide, by decide⟩ (fun ns M kk xx h1 h2 h3 h4 => W09.ph_law_of h1 h2 h3 h4) ?F
    intro w mg fa h Y G hmg0
    obtain ⟨K, KX, c⟩ := Y
    have hmg : mg ("law" : PySem.Str) = some (.ref fa) := by
      have e : (HandSHeadRun.topDef (OpenLaw.row PySem.Challenge.rw_gustfloor_k09_errors_by_themselves).prog 40).name = ("law" : PySem.Str) := by kernel_rfl
      rw [← e]
      exact hmg0
    exact ⟨K, KX, W09.facts KX G hmg c⟩
#print axioms PySem.Challenge.cw_gustfloor_k09_errors_by_themselves_holds
