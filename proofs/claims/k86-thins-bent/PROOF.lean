import PyProof.Rows.All
import Wide.All
import OpenK.AllK
import Wide.FinOn
import KE.KStateDown
import KE.SortData
import HandS.ForMost
import HandS.ForExc
import HandS.Flow
import HandS.Style
import HandS.TupAny
import HandS.TupMul
import HandS.TupLe
import HandS.Deep
import HandS.Conv
import HandS.IsInst
import HandS.Zip
import HandS.Star
import HandS.More
import KE.GoesEnum
import HandS.Defaults
import HandS.SortInts
import HandS.Text
import HandS.Iter
import HandS.HeadHook2
import KE.DataCmp
import KE.SortCalls
import KE.KTupSum
import PyProof.P3In
import PySem.Challenge.RW_barscut_k86_thins_bent
import HandS.Words
import HandS.WordsExc
import HandS.Head0
import HandS.Head1
import HandS.Head2
import HandS.HeadEnd
import HandS.HeadHook1
import Lean
set_option Elab.async false
set_option linter.all false
set_option maxRecDepth 100000
set_option maxHeartbeats 0
/-! ### Ev: data values, what they mean on the heap, states of bodies -/
namespace Ev
open PySem PySem.Spec PyProof.Rows L2

/-- data: what a value is worth, whatever its address. obj: a finished instance (class's name, fields); mref: the i-th changing object; scr: the script -/
inductive D where
  | non | bl (b : Bool) | int (i : Int) | str (x : Str)
  | tup (xs : List D) | lst (xs : List D) | obj (c : Str) (fs : List (Str × D)) | mref (i : Nat) | scr (ns : List Int)
/-- the changing objects: dicts with keys that are ints, texts -/
abbrev Sto := List (List (Key × D))
inductive Res (α : Type) where
  | ok (a : α) (s : Sto)
  | bad
abbrev M (α : Type) := Sto → Res α
def Res.then {α β : Type} (r : Res α) (k : α → Sto → Res β) : Res β := match r with
  | .ok a s => k a s
  | .bad => .bad
@[simp] theorem Res.then_ok {α β : Type} (a : α) (s : Sto) (k : α → Sto → Res β) : (Res.ok a s).then k = k a s := rfl
@[simp] theorem Res.then_bad {α β : Type} (k : α → Sto → Res β) : (Res.bad : Res α).then k = .bad := rfl
def Res.post {α : Type} (r : Res α) (P : α → Sto → Prop) : Prop := match r with
  | .ok a s => P a s
  | .bad => False
@[simp] theorem Res.post_ok {α : Type} (a : α) (s : Sto) (P : α → Sto → Prop) : (Res.ok a s).post P = P a s := rfl
@[simp] theorem Res.post_bad {α : Type} (P : α → Sto → Prop) : (Res.bad : Res α).post P = False := rfl
theorem Res.post_ex {α : Type} {r : Res α} {P : α → Sto → Prop} (h : r.post P) : ∃ a s, r = .ok a s ∧ P a s := by
  cases r with
  | ok a s => exact ⟨a, s, rfl, h⟩
  | bad => exact h.elim
theorem Res.then_ex {α β : Type} {r : Res α} {k : α → Sto → Res β} {b : β} {s' : Sto} (h : r.then k = .ok b s') : ∃ a s, r = .ok a s ∧ k a s = .ok b s' := by
  cases r with
  | ok a s => exact ⟨a, s, rfl, h⟩
  | bad => cases h
theorem Res.post_then {α β : Type} {r : Res α} {k : α → Sto → Res β} {P : β → Sto → Prop} : (r.then k).post P ↔ r.post fun a s => (k a s).post P := by
  cases r <;> rfl
theorem Res.post_mono {α : Type} {r : Res α} {P P' : α → Sto → Prop} (h : r.post P) (f : ∀ a s, P a s → P' a s) : r.post P' := by
  cases r with
  | ok a s => exact f _ _ h
  | bad => exact h.elim
def optR {α : Type} (o : Option α) (s : Sto) : Res α := match o with
  | some a => .ok a s
  | none => .bad
@[simp] theorem optR_some {α : Type} (a : α) (s : Sto) : optR (some a) s = .ok a s := rfl
@[simp] theorem optR_none {α : Type} (s : Sto) : optR (none : Option α) s = .bad := rfl
theorem optR_ex {α : Type} {o : Option α} {s s' : Sto} {a : α} (h : optR o s = .ok a s') : o = some a ∧ s = s' := by
  cases o with
  | some b => cases h; exact ⟨rfl, rfl⟩
  | none => cases h

/-- the ghost: what stands for good; where the changing objects are -/
structure Gh where
  F : Hp
  as : List Addr
  me : Addr

section
variable (K : PySem.W.Frag) (mg : Str → Option Value)
mutual
inductive Rep (g : Gh) : V → D → Prop
  | non : Rep g .non .non
  | bl (b : Bool) : Rep g (.bl b) (.bl b)
  | int (i : Int) : Rep g (.int i) (.int i)
  | str (x : Str) : Rep g (.str x) (.str x)
  | tup {a : Addr} {vs : List V} {ds : List D} : g.F a = some (.tup vs) → Reps g vs ds → Rep g (.ref a) (.tup ds)
  | lst {a : Addr} {vs : List V} {ds : List D} : g.F a = some (.lst vs) → Reps g vs ds → Rep g (.ref a) (.lst ds)
  | obj {a C dx : Addr} {fvs : List (Str × V)} {c : Str} {fs : List (Str × D)} : mg c = some (.ref C) → g.F a = some (.ins C dx fvs) → g.F dx = some (.own a) → FReps g fvs fs → Rep g (.ref a) (.obj c fs)
  | mref {i : Nat} {a : Addr} : g.as[i]? = some a → Rep g (.ref a) (.mref i)
  | scr {a : Addr} {ns : List Int} : SqL K g.F a (ns.map V.int) → Rep g (.ref a) (.scr ns)
inductive Reps (g : Gh) : List V → List D → Prop
  | nil : Reps g [] []
  | cons {v : V} {d : D} {vs : List V} {ds : List D} : Rep g v d → Reps g vs ds → Reps g (v :: vs) (d :: ds)
inductive FReps (g : Gh) : List (Str × V) → List (Str × D) → Prop
  | nil : FReps g [] []
  | cons {x : Str} {v : V} {d : D} {vs : List (Str × V)} {ds : List (Str × D)} : Rep g v d → FReps g vs ds → FReps g ((x, v) :: vs) ((x, d) :: ds)
end
end
section
variable {K : PySem.W.Frag} {mg : Str → Option Value} {g g' : Gh} {H H' : Hp} {S S' : Sto}
structure GLe (g g' : Gh) : Prop where
  F : Same g.F g'.F
  as : ∀ (i : Nat) (a : Addr), g.as[i]? = some a → g'.as[i]? = some a
  me : g'.me = g.me
theorem GLe.refl (g : Gh) : GLe g g := ⟨Same.refl _, fun _ _ h => h, rfl⟩
theorem GLe.trans {g1 g2 g3 : Gh} (a : GLe g1 g2) (b : GLe g2 g3) : GLe g1 g3 := ⟨a.F.trans b.F, fun i x h => b.as i x (a.as i x h), b.me.trans a.me⟩
mutual
theorem Rep.mono0 (lF : Same g.F g'.F) (la : ∀ (i : Nat) (a : Addr), g.as[i]? = some a → g'.as[i]? = some a) : ∀ {v : V} {d : D}, Rep K mg g v d → Rep K mg g' v d
  | _, _, .non => .non
  | _, _, .bl b => .bl b
  | _, _, .int i => .int i
  | _, _, .str x => .str x
  | _, _, .tup h r => .tup (lF _ _ h) (Reps.mono0 lF la r)
  | _, _, .lst h r => .lst (lF _ _ h) (Reps.mono0 lF la r)
  | _, _, .obj m h h2 r => .obj m (lF _ _ h) (lF _ _ h2) (FReps.mono0 lF la r)
  | _, _, .mref h => .mref (la _ _ h)
  | _, _, .scr h => .scr (lF.seq h)
theorem Reps.mono0 (lF : Same g.F g'.F) (la : ∀ (i : Nat) (a : Addr), g.as[i]? = some a → g'.as[i]? = some a) : ∀ {vs : List V} {ds : List D}, Reps K mg g vs ds → Reps K mg g' vs ds
  | _, _, .nil => .nil
  | _, _, .cons h r => .cons (Rep.mono0 lF la h) (Reps.mono0 lF la r)
theorem FReps.mono0 (lF : Same g.F g'.F) (la : ∀ (i : Nat) (a : Addr), g.as[i]? = some a → g'.as[i]? = some a) : ∀ {vs : List (Str × V)} {ds : List (Str × D)}, FReps K mg g vs ds → FReps K mg g' vs ds
  | _, _, .nil => .nil
  | _, _, .cons h r => .cons (Rep.mono0 lF la h) (FReps.mono0 lF la r)
end
theorem Rep.mono (l : GLe g g') {v : V} {d : D} (r : Rep K mg g v d) : Rep K mg g' v d := r.mono0 l.F l.as
theorem Reps.mono (l : GLe g g') {vs : List V} {ds : List D} (r : Reps K mg g vs ds) : Reps K mg g' vs ds := r.mono0 l.F l.as
theorem FReps.mono (l : GLe g g') {vs : List (Str × V)} {ds : List (Str × D)} (r : FReps K mg g vs ds) : FReps K mg g' vs ds := r.mono0 l.F l.as
theorem Reps.length : ∀ {vs : List V} {ds : List D}, Reps K mg g vs ds → vs.length = ds.length
  | _, _, .nil => rfl
  | _, _, .cons _ r => congrArg (· + 1) (Reps.length r)
theorem Reps.get : ∀ {vs : List V} {ds : List D} {i : Nat} {d : D}, Reps K mg g vs ds → ds[i]? = some d → ∃ v, vs[i]? = some v ∧ Rep K mg g v d
  | _, _, _, _, .nil, h => by simp at h
  | _, _, 0, _, .cons r _, h => by simp at h; subst h; exact ⟨_, rfl, r⟩
  | _, _, i + 1, _, .cons _ r, h => by
    obtain ⟨v, h1, h2⟩ := Reps.get (i := i) r (by simpa using h)
    exact ⟨v, by simpa using h1, h2⟩
theorem Reps.getV : ∀ {vs : List V} {ds : List D} {i : Nat} {v : V}, Reps K mg g vs ds → vs[i]? = some v → ∃ d, ds[i]? = some d ∧ Rep K mg g v d
  | _, _, _, _, .nil, h => by simp at h
  | _, _, 0, _, .cons r _, h => by simp at h; subst h; exact ⟨_, rfl, r⟩
  | _, _, i + 1, _, .cons _ r, h => by
    obtain ⟨v, h1, h2⟩ := Reps.getV (i := i) r (by simpa using h)
    exact ⟨v, by simpa using h1, h2⟩
theorem Reps.append : ∀ {vs ws : List V} {ds es : List D}, Reps K mg g vs ds → Reps K mg g ws es → Reps K mg g (vs ++ ws) (ds ++ es)
  | _, _, _, _, .nil, r => r
  | _, _, _, _, .cons h r, q => .cons h (Reps.append r q)
theorem Reps.one {v : V} {d : D} (h : Rep K mg g v d) : Reps K mg g [v] [d] := .cons h .nil
theorem Reps.set {v : V} {d : D} (h : Rep K mg g v d) : ∀ {vs : List V} {ds : List D} (i : Nat), Reps K mg g vs ds → Reps K mg g (vs.set i v) (ds.set i d)
  | _, _, _, .nil => .nil
  | _, _, 0, .cons _ r => .cons h r
  | _, _, i + 1, .cons q r => .cons q (Reps.set h i r)
theorem Reps.take : ∀ {vs : List V} {ds : List D} (n : Nat), Reps K mg g vs ds → Reps K mg g (vs.take n) (ds.take n)
  | _, _, 0, _ => .nil
  | _, _, _ + 1, .nil => .nil
  | _, _, n + 1, .cons h r => .cons h (Reps.take n r)
theorem Reps.drop : ∀ {vs : List V} {ds : List D} (n : Nat), Reps K mg g vs ds → Reps K mg g (vs.drop n) (ds.drop n)
  | _, _, 0, h => h
  | _, _, _ + 1, .nil => .nil
  | _, _, n + 1, .cons _ r => Reps.drop n r
theorem Reps.eraseIdx : ∀ {vs : List V} {ds : List D} (n : Nat), Reps K mg g vs ds → Reps K mg g (vs.eraseIdx n) (ds.eraseIdx n)
  | _, _, _, .nil => .nil
  | _, _, 0, .cons _ r => r
  | _, _, n + 1, .cons h r => .cons h (Reps.eraseIdx n r)
theorem Reps.dropLast : ∀ {vs : List V} {ds : List D}, Reps K mg g vs ds → Reps K mg g vs.dropLast ds.dropLast
  | _, _, .nil => .nil
  | _, _, .cons h .nil => .nil
  | _, _, .cons h (.cons h2 r) => .cons h (Reps.dropLast (.cons h2 r))
theorem Reps.rep {vs : List V} {ds : List D} (h : Reps K mg g vs ds) : ∀ k : Nat, Reps K mg g (List.replicate k vs).flatten (List.replicate k ds).flatten
  | 0 => .nil
  | k + 1 => by
    rw [List.replicate_succ, List.replicate_succ, List.flatten_cons, List.flatten_cons]
    exact h.append (Reps.rep h k)
theorem FReps.look : ∀ {vs : List (Str × V)} {ds : List (Str × D)} {f : Str} {d : D}, FReps K mg g vs ds → ds.lookup f = some d → ∃ v, vs.lookup f = some v ∧ Rep K mg g v d
  | _, _, _, _, .nil, h => by simp at h
  | _, _, f, d, .cons (x := x) r q, h => by
    by_cases e : (f == x) = true
    · simp only [List.lookup_cons, e] at h ⊢
      cases h
      exact ⟨_, rfl, r⟩
    · have e' : (f == x) = false := by simpa using e
      simp only [List.lookup_cons, e'] at h ⊢
      exact FReps.look q h
theorem FReps.length : ∀ {vs : List (Str × V)} {ds : List (Str × D)}, FReps K mg g vs ds → vs.length = ds.length
  | _, _, .nil => rfl
  | _, _, .cons _ r => congrArg (· + 1) (FReps.length r)
def putD (f : Str) (d : D) : List (Str × D) → List (Str × D)
  | [] => [(f, d)]
  | (x, e) :: r => if x = f then (f, d) :: r else (x, e) :: putD f d r
theorem FReps.put {f : Str} {v : V} {d : D} (h : Rep K mg g v d) : ∀ {vs : List (Str × V)} {ds : List (Str × D)}, FReps K mg g vs ds → FReps K mg g (putF f v vs) (putD f d ds)
  | _, _, .nil => .cons h .nil
  | _, _, .cons (x := x) r q => by
    unfold putF putD
    by_cases e : x = f
    · subst e
      simp only [if_true]
      exact .cons h q
    · simp only [if_neg e]
      exact .cons r (FReps.put h q)

/-- a dict's pairs -/
inductive KReps (K : PySem.W.Frag) (mg : Str → Option Value) (g : Gh) : List (Key × V) → List (Key × D) → Prop
  | nil : KReps K mg g [] []
  | cons {k : Key} {v : V} {d : D} {vs : List (Key × V)} {ds : List (Key × D)} : Rep K mg g v d → KReps K mg g vs ds → KReps K mg g ((k, v) :: vs) ((k, d) :: ds)
theorem KReps.mono (l : GLe g g') : ∀ {vs : List (Key × V)} {ds : List (Key × D)}, KReps K mg g vs ds → KReps K mg g' vs ds
  | _, _, .nil => .nil
  | _, _, .cons h r => .cons (h.mono l) (KReps.mono l r)

/-- the ghost is true of a heap -/
structure GOk (K : PySem.W.Frag) (mg : Str → Option Value) (g : Gh) (H : Hp) (S : Sto) : Prop where
  sub : Same g.F H
  nd : g.as.Nodup
  len : S.length = g.as.length
  nf : ∀ a ∈ g.as, g.F a = none
  st : ∀ (i : Nat) (a : Addr), g.as[i]? = some a → ∃ kvs kds, H a = some (.dK kvs) ∧ S[i]? = some kds ∧ KReps K mg g kvs kds
/-- from one state to a later one -/
structure Stp (g : Gh) (H : Hp) (g' : Gh) (H' : Hp) : Prop where
  le : GLe g g'
  keep : ∀ a o, H a = some o → a ∉ g.as → H' a = some o
  there : ∀ a, H a ≠ none → H' a ≠ none
  newF : ∀ a, g'.F a ≠ none → g.F a ≠ none ∨ H a = none
  newA : ∀ a ∈ g'.as, a ∈ g.as ∨ H a = none
theorem Stp.refl : Stp g H g H := ⟨.refl _, fun _ _ h _ => h, fun _ h => h, fun _ h => .inl h, fun _ h => .inl h⟩
theorem Stp.trans {g1 g2 g3 : Gh} {H1 H2 H3 : Hp} (a : Stp g1 H1 g2 H2) (b : Stp g2 H2 g3 H3) : Stp g1 H1 g3 H3 where
  le := a.le.trans b.le
  keep := fun x o h n => b.keep x o (a.keep x o h n) fun q => (a.newA x q).elim n fun z => by rw [z] at h; cases h
  there := fun x h => b.there x (a.there x h)
  newF := fun x h => (b.newF x h).elim (a.newF x) fun z => .inr (by
    cases q : H1 x with
    | none => rfl
    | some o => exact absurd z (a.there x (by rw [q]; exact fun z => nomatch z)))
  newA := fun x h => (b.newA x h).elim (a.newA x) fun z => .inr (by
    cases q : H1 x with
    | none => rfl
    | some o => exact absurd z (a.there x (by rw [q]; exact fun z => nomatch z)))
/-- a new object, for good -/
def Gh.add (g : Gh) (p : Addr) (o : HO) : Gh := ⟨upd g.F p o, g.as, g.me⟩
theorem GOk.nfree (G : GOk K mg g H S) {p : Addr} (h : H p = none) : g.F p = none := G.sub.free h
theorem GOk.notin (G : GOk K mg g H S) {p : Addr} (h : H p = none) : p ∉ g.as := fun q => by
  obtain ⟨i, hi, e⟩ := List.mem_iff_getElem.mp q
  obtain ⟨_, _, h1, _⟩ := G.st i p (by rw [List.getElem?_eq_getElem hi, e])
  rw [h] at h1; cases h1
theorem gle_add {p : Addr} {o : HO} (h : g.F p = none) : GLe g (g.add p o) := ⟨fun b u e => by
  show upd g.F p o b = some u
  rw [upd_ne (ne_of_none e h)]; exact e, fun _ _ h => h, rfl⟩
theorem GOk.add (G : GOk K mg g H S) {p : Addr} {o : HO} (h : H p = none) : GOk K mg (g.add p o) (upd H p o) S := by
  have hf := G.nfree h
  refine ⟨fun b u e => ?_, G.nd, G.len, fun a ha => ?_, fun i a e => ?_⟩
  · have e' : upd g.F p o b = some u := e
    by_cases hb : b = p
    · subst hb; rw [upd_same] at e' ⊢; exact e'
    · rw [upd_ne hb] at e' ⊢; exact G.sub _ _ e'
  · show upd g.F p o a = none
    rw [upd_ne (fun z : a = p => G.notin h (z ▸ ha))]; exact G.nf a ha
  · obtain ⟨kvs, kds, h1, h2, h3⟩ := G.st i a e
    exact ⟨kvs, kds, by rw [upd_ne (ne_of_none h1 h)]; exact h1, h2, h3.mono (gle_add hf)⟩
theorem stp_add (G : GOk K mg g H S) {p : Addr} {o : HO} (h : H p = none) : Stp g H (g.add p o) (upd H p o) := by
  refine ⟨gle_add (G.nfree h), fun b u e _ => by rw [upd_ne (ne_of_none e h)]; exact e, fun b e => ?_, fun b e => ?_, fun b e => .inl e⟩
  · by_cases hb : b = p
    · subst hb; rw [upd_same]; exact fun z => nomatch z
    · rw [upd_ne hb]; exact e
  · by_cases hb : b = p
    · subst hb; exact .inr h
    · have e' : upd g.F p o b ≠ Option.none := e
      rw [upd_ne hb] at e'; exact .inl e'
/-- a new object that is not for good yet -/
theorem GOk.fresh (G : GOk K mg g H S) {p : Addr} {o : HO} (h : H p = none) : GOk K mg g (upd H p o) S := by
  refine ⟨fun b u e => ?_, G.nd, G.len, G.nf, fun i a e => ?_⟩
  · rw [upd_ne (ne_of_none (G.sub _ _ e) h)]; exact G.sub _ _ e
  · obtain ⟨kvs, kds, h1, h2, h3⟩ := G.st i a e
    exact ⟨kvs, kds, by rw [upd_ne (ne_of_none h1 h)]; exact h1, h2, h3⟩
theorem stp_fresh {p : Addr} {o : HO} (h : H p = none) : Stp g H g (upd H p o) := by
  refine ⟨.refl _, fun b u e _ => by rw [upd_ne (ne_of_none e h)]; exact e, fun b e => ?_, fun b e => .inl e, fun b e => .inl e⟩
  by_cases hb : b = p
  · subst hb; rw [upd_same]; exact fun z => nomatch z
  · rw [upd_ne hb]; exact e
/-- an object that stands is for good from now on -/
theorem GOk.freeze (G : GOk K mg g H S) {p : Addr} {o : HO} (h : H p = some o) (hf : g.F p = none) (ha : p ∉ g.as) : GOk K mg (g.add p o) H S := by
  refine ⟨fun b u e => ?_, G.nd, G.len, fun a q => ?_, fun i a e => ?_⟩
  · have e' : upd g.F p o b = some u := e
    by_cases hb : b = p
    · subst hb; rw [upd_same] at e'; rw [h]; exact e'
    · rw [upd_ne hb] at e'; exact G.sub _ _ e'
  · show upd g.F p o a = none
    rw [upd_ne (fun z : a = p => ha (z ▸ q))]; exact G.nf a q
  · obtain ⟨kvs, kds, h1, h2, h3⟩ := G.st i a e
    exact ⟨kvs, kds, h1, h2, h3.mono (gle_add hf)⟩

/-- read: for good, or a list of the body's own that stands -/
def RepR (K : PySem.W.Frag) (mg : Str → Option Value) (g : Gh) (H : Hp) (v : V) (d : D) : Prop :=
  Rep K mg g v d ∨ ∃ p vs ds, v = .ref p ∧ d = .lst ds ∧ H p = some (.lst vs) ∧ p ∉ g.as ∧ Reps K mg g vs ds
theorem RepR.step {v : V} {d : D} (r : RepR K mg g H v d) (s : Stp g H g' H') : RepR K mg g' H' v d := by
  rcases r with r | ⟨p, vs, ds, e1, e2, h, n, r⟩
  · exact .inl (r.mono s.le)
  · refine .inr ⟨p, vs, ds, e1, e2, s.keep _ _ h n, fun q => ?_, r.mono s.le⟩
    rcases s.newA p q with z | z
    · exact n z
    · rw [h] at z; cases z
theorem RepR.lst {v : V} {ds : List D} (G : GOk K mg g H S) (r : RepR K mg g H v (.lst ds)) : ∃ p vs, v = .ref p ∧ H p = some (.lst vs) ∧ Reps K mg g vs ds := by
  rcases r with r | ⟨p, vs, ds', e1, e2, h, n, r⟩
  · cases r with
    | lst h r => exact ⟨_, _, rfl, G.sub _ _ h, r⟩
  · cases e2
    exact ⟨p, vs, e1, h, r⟩
theorem RepR.tup {v : V} {ds : List D} (G : GOk K mg g H S) (r : RepR K mg g H v (.tup ds)) : ∃ p vs, v = .ref p ∧ H p = some (.tup vs) ∧ Reps K mg g vs ds := by
  rcases r with r | ⟨p, vs, ds', e1, e2, h, n, r⟩
  · cases r with
    | tup h r => exact ⟨_, _, rfl, G.sub _ _ h, r⟩
  · cases e2
theorem RepR.rep {v : V} {d : D} (r : RepR K mg g H v d) (h : ∀ ds, d ≠ .lst ds) : Rep K mg g v d := by
  rcases r with r | ⟨p, vs, ds', e1, e2, _⟩
  · exact r
  · exact absurd e2 (h _)
theorem RepR.int {v : V} {i : Int} (r : RepR K mg g H v (.int i)) : v = .int i := by
  cases r.rep (fun _ e => nomatch e); rfl
theorem RepR.str {v : V} {x : Str} (r : RepR K mg g H v (.str x)) : v = .str x := by
  cases r.rep (fun _ e => nomatch e); rfl
theorem RepR.bl {v : V} {b : Bool} (r : RepR K mg g H v (.bl b)) : v = .bl b := by
  cases r.rep (fun _ e => nomatch e); rfl
theorem RepR.non {v : V} (r : RepR K mg g H v .non) : v = .non := by
  cases r.rep (fun _ e => nomatch e); rfl
inductive RepRs (K : PySem.W.Frag) (mg : Str → Option Value) (g : Gh) (H : Hp) : List V → List D → Prop
  | nil : RepRs K mg g H [] []
  | cons {v : V} {d : D} {vs : List V} {ds : List D} : RepR K mg g H v d → RepRs K mg g H vs ds → RepRs K mg g H (v :: vs) (d :: ds)
theorem Reps.r {vs : List V} {ds : List D} (h : Reps K mg g vs ds) : RepRs K mg g H vs ds := by
  induction vs generalizing ds with
  | nil => cases h; exact .nil
  | cons v vs ih => cases h with
    | cons h1 h2 => exact .cons (.inl h1) (ih h2)
end

abbrev DEnv := List (Option D)
/-- what the body owns at a slot: a list or an instance that is being made -/
def Owned (K : PySem.W.Frag) (mg : Str → Option Value) (g : Gh) (H H0 : Hp) (p : Addr) (d : D) : Prop :=
  g.F p = none ∧ p ∉ g.as ∧ H0 p = none ∧
  ((∃ vs ds, d = .lst ds ∧ H p = some (.lst vs) ∧ Reps K mg g vs ds) ∨
   (∃ C dx c fvs fs, (p = g.me ∧ d = .obj c fs) ∧ mg c = some (.ref C) ∧ H p = some (.ins C dx fvs) ∧ H dx = some (.own p) ∧ g.F dx = none ∧ dx ∉ g.as ∧ H0 dx = none ∧ FReps K mg g fvs fs))
/-- a body's state -/
structure EnvOk (K : PySem.W.Frag) (mg : Str → Option Value) (g0 : Gh) (H0 : Hp) (own : List Nat) (ρ : DEnv) (σ : L2.St) (g : Gh) (H : Hp) (S : Sto) : Prop where
  gok : GOk K mg g H S
  stp : Stp g0 H0 g H
  len : ρ.length = σ.length
  fro : ∀ (i : Nat) (d : D), ρ[i]? = some (some d) → i ∉ own → ∃ v, σ[i]? = some (some v) ∧ Rep K mg g v d
  ow : ∀ i ∈ own, ∃ p d, ρ[i]? = some (some d) ∧ σ[i]? = some (some (.ref p)) ∧ Owned K mg g H H0 p d
  dis : ∀ i ∈ own, ∀ j ∈ own, i ≠ j → σ[i]? ≠ σ[j]?
section
variable {K : PySem.W.Frag} {mg : Str → Option Value} {g0 g g' : Gh} {H0 H H' : Hp} {S S' : Sto} {own : List Nat} {ρ : DEnv} {σ : L2.St}
theorem Owned.step {p : Addr} {d : D} (o : Owned K mg g H H0 p d) (s : Stp g H g' H') : Owned K mg g' H' H0 p d := by
  obtain ⟨h1, h2, h3, h4⟩ := o
  have out : ∀ {q : Addr} {ob : HO}, H q = some ob → g.F q = none → q ∉ g.as → g'.F q = none ∧ q ∉ g'.as := fun {q ob} hq hF hA => by
    refine ⟨?_, fun z => ?_⟩
    · cases e : g'.F q with
      | none => rfl
      | some u =>
        rcases s.newF q (by rw [e]; exact fun z => nomatch z) with z | z
        · exact absurd hF z
        · rw [hq] at z; cases z
    · rcases s.newA q z with z | z
      · exact hA z
      · rw [hq] at z; cases z
  rcases h4 with ⟨vs, ds, e, h, r⟩ | ⟨C, dx, c, fvs, fs, e, hm, h, hd, f1, f2, f3, r⟩
  · obtain ⟨q1, q2⟩ := out h h1 h2
    exact ⟨q1, q2, h3, .inl ⟨vs, ds, e, s.keep _ _ h h2, r.mono s.le⟩⟩
  · obtain ⟨q1, q2⟩ := out h h1 h2
    obtain ⟨q3, q4⟩ := out hd f1 f2
    exact ⟨q1, q2, h3, .inr ⟨C, dx, c, fvs, fs, ⟨e.1.trans s.le.me.symm, e.2⟩, hm, s.keep _ _ h h2, s.keep _ _ hd f2, q3, q4, f3, r.mono s.le⟩⟩
/-- behind something that changes nothing of the body's own -/
theorem EnvOk.step (E : EnvOk K mg g0 H0 own ρ σ g H S) (G : GOk K mg g' H' S') (s : Stp g H g' H') : EnvOk K mg g0 H0 own ρ σ g' H' S' where
  gok := G
  stp := E.stp.trans s
  len := E.len
  fro := fun i d h n => by
    obtain ⟨v, h1, h2⟩ := E.fro i d h n
    exact ⟨v, h1, h2.mono s.le⟩
  ow := fun i hi => by
    obtain ⟨p, d, h1, h2, h3⟩ := E.ow i hi
    exact ⟨p, d, h1, h2, h3.step s⟩
  dis := E.dis
theorem EnvOk.read (E : EnvOk K mg g0 H0 own ρ σ g H S) {i : Nat} {d : D} (h : ρ[i]? = some (some d)) (hd : ∀ c fs, i ∈ own → d ≠ .obj c fs) : ∃ v, σ[i]? = some (some v) ∧ RepR K mg g H v d := by
  by_cases hi : i ∈ own
  · obtain ⟨p, d', h1, h2, h3, h4, _, h5⟩ := E.ow i hi
    rw [h] at h1; cases h1
    rcases h5 with ⟨vs, ds, e, hh, r⟩ | ⟨C, dx, c, fvs, fs, e, _⟩
    · exact ⟨_, h2, .inr ⟨p, vs, ds, rfl, e, hh, h4, r⟩⟩
    · exact absurd e.2 (hd c fs hi)
  · obtain ⟨v, h1, h2⟩ := E.fro i d h hi
    exact ⟨v, h1, .inl h2⟩
end
end Ev
namespace Ev
open PySem PySem.Spec PyProof.Rows L2
abbrev SE := DEnv → M D
abbrev SB := DEnv → M Bool
section
variable (X : Cx) (own : List Nat)
/-- an expression's value, for good | to be read | a new list -/
def tE (se : SE) : TE := fun σ H Q => ∃ g0 H0 ρ g S, EnvOk X.K X.mg g0 H0 own ρ σ g H S ∧ (se ρ S).post fun d S' => ∀ v g' H', GOk X.K X.mg g' H' S' → Stp g H g' H' → Rep X.K X.mg g' v d → Q v H'
def tR (se : SE) : TE := fun σ H Q => ∃ g0 H0 ρ g S, EnvOk X.K X.mg g0 H0 own ρ σ g H S ∧ (se ρ S).post fun d S' => ∀ v g' H', GOk X.K X.mg g' H' S' → Stp g H g' H' → RepR X.K X.mg g' H' v d → Q v H'
def tF (se : SE) : TE := fun σ H Q => ∃ g0 H0 ρ g S, EnvOk X.K X.mg g0 H0 own ρ σ g H S ∧ (se ρ S).post fun d S' => ∃ ds, d = .lst ds ∧ ∀ p vs g' H', GOk X.K X.mg g' H' S' → Stp g H g' H' → H' p = some (.lst vs) → g'.F p = none → p ∉ g'.as → H p = none → Reps X.K X.mg g' vs ds → Q (.ref p) H'
def tB (sb : SB) : TT := fun σ H Q => ∃ g0 H0 ρ g S, EnvOk X.K X.mg g0 H0 own ρ σ g H S ∧ (sb ρ S).post fun b S' => ∀ g' H', GOk X.K X.mg g' H' S' → Stp g H g' H' → Q b H'
def SimE (e : Expr) (se : SE) : Prop := PE X e (tE X own se)
def SimR (e : Expr) (se : SE) : Prop := PE X e (tR X own se)
def SimF (e : Expr) (se : SE) : Prop := PE X e (tF X own se)
def SimT (e : Expr) (sb : SB) : Prop := PT X e (tB X own sb)
def SimW (e : Expr) (sb : SB) : Prop := PW X e (tB X own sb)
end
theorem pe_weak {X : Cx} {e : Expr} {t t' : TE} (h : PE X e t) (w : ∀ σ H Q, t' σ H Q → t σ H Q) : PE X e t' := ⟨fun pins s σ H Q I q => h.run pins s σ H Q I (w σ H Q q)⟩
theorem pt_weak {X : Cx} {e : Expr} {t t' : TT} (h : PT X e t) (w : ∀ σ H Q, t' σ H Q → t σ H Q) : PT X e t' := ⟨fun pins s σ H Q I q => h.run pins s σ H Q I (w σ H Q q)⟩
theorem pw_weak {X : Cx} {e : Expr} {t t' : TT} (h : PW X e t) (w : ∀ σ H Q, t' σ H Q → t σ H Q) : PW X e t' := ⟨fun wh pins s σ H Q I q => h.run wh pins s σ H Q I (w σ H Q q)⟩
section
variable {X : Cx} {own : List Nat} {e a b c : Expr} {se sa sb sc : SE} {pos : Pos}
theorem SimE.r (h : SimE X own e se) : SimR X own e se := pe_weak h fun σ H Q ⟨g0, H0, ρ, g, S, E, q⟩ =>
  ⟨g0, H0, ρ, g, S, E, Res.post_mono q fun d S' k v g' H' G s r => k v g' H' G s (.inl r)⟩
theorem SimF.r (h : SimF X own e se) (hl : ∀ ρ S d S', se ρ S = .ok d S' → ∃ ds, d = .lst ds) : SimR X own e se := pe_weak h fun σ H Q ⟨g0, H0, ρ, g, S, E, q⟩ => by
  obtain ⟨d, S', e1, k⟩ := Res.post_ex q
  obtain ⟨ds, rfl⟩ := hl _ _ _ _ e1
  refine ⟨g0, H0, ρ, g, S, E, ?_⟩
  rw [e1]
  exact ⟨ds, rfl, fun p vs g' H' G s h1 h2 h3 h4 r => k _ g' H' G s (.inr ⟨p, vs, ds, rfl, rfl, h1, h3, r⟩)⟩
theorem SimF.ev (h : SimF X own e se) (hl : ∀ ρ S d S', se ρ S = .ok d S' → ∃ ds, d = .lst ds) : SimE X own e se := pe_weak h fun σ H Q ⟨g0, H0, ρ, g, S, E, q⟩ => by
  obtain ⟨d, S', e1, k⟩ := Res.post_ex q
  obtain ⟨ds, rfl⟩ := hl _ _ _ _ e1
  refine ⟨g0, H0, ρ, g, S, E, ?_⟩
  rw [e1]
  refine ⟨ds, rfl, fun p vs g' H' G s h1 h2 h3 h4 r => ?_⟩
  have le := gle_add (o := .lst vs) h2
  refine k _ (g'.add p (.lst vs)) H' (G.freeze h1 h2 h3) ⟨s.le.trans le, s.keep, s.there, fun a ha => ?_, s.newA⟩ (.lst (by exact upd_same) (r.mono le))
  by_cases e : a = p
  · subst e; exact .inr h4
  · have ha' : upd g'.F p (.lst vs) a ≠ none := ha
    rw [upd_ne e] at ha'
    exact s.newF a ha'

/-! ### names, constants -/
def sVar (i : Nat) : SE := fun ρ S => match ρ[i]? with
  | some (some d) => .ok d S
  | _ => .bad
def sC (d : D) : SE := fun _ S => .ok d S
theorem sVar_ex {i : Nat} {ρ : DEnv} {S : Sto} {P : D → Sto → Prop} (h : (sVar i ρ S).post P) : ∃ d, ρ[i]? = some (some d) ∧ P d S := by
  unfold sVar at h
  split at h
  · exact ⟨_, ‹_›, h⟩
  · exact h.elim
theorem sim_var {i : Nat} {x : Str} (h : PE X (.Name x pos) (tVar i)) (hi : i ∉ own) : SimE X own (.Name x pos) (sVar i) := pe_weak h fun σ H Q ⟨g0, H0, ρ, g, S, E, q⟩ => by
  obtain ⟨d, h1, k⟩ := sVar_ex q
  obtain ⟨v, h2, r⟩ := E.fro i d h1 hi
  exact ⟨v, h2, k v g H E.gok .refl r⟩
/-- a name that is read where it stands: a list of the body's own, too (not an instance in the making) -/
def noObj : D → Bool
  | .obj _ _ => false
  | _ => true
def sVarR (i : Nat) : SE := fun ρ S => match ρ[i]? with
  | some (some d) => if noObj d then .ok d S else .bad
  | _ => .bad
theorem sim_varR {i : Nat} {x : Str} (h : PE X (.Name x pos) (tVar i)) : SimR X own (.Name x pos) (sVarR i) := pe_weak h fun σ H Q ⟨g0, H0, ρ, g, S, E, q⟩ => by
  unfold sVarR at q
  split at q
  · rename_i d h1
    split at q
    · rename_i hn
      obtain ⟨v, h2, r⟩ := E.read h1 fun c fs _ e => by subst e; cases hn
      exact ⟨v, h2, q v g H E.gok .refl r⟩
    · exact q.elim
  · exact q.elim
theorem sim_c {v : V} {d : D} (h : PE X e (tC v)) (r : ∀ g, Rep X.K X.mg g v d) : SimE X own e (sC d) := pe_weak h fun σ H Q ⟨g0, H0, ρ, g, S, E, q⟩ => q v g H E.gok .refl (r g)
theorem sim_int {i j} : SimE X own (.Constant (.int i) j pos) (sC (.int i)) := sim_c pe_int fun _ => .int i
theorem sim_bl {b j} : SimE X own (.Constant (.bool b) j pos) (sC (.bl b)) := sim_c pe_bl fun _ => .bl b
theorem sim_non {j} : SimE X own (.Constant .none j pos) (sC .non) := sim_c pe_non fun _ => .non
theorem sim_str {x j} : SimE X own (.Constant (.str x) j pos) (sC (.str x)) := sim_c pe_str fun _ => .str x
theorem sim_gint {x : Str} {i : Int} (hg : Gl X x) (hm : ∃ t, X.mg x = some (.int i t)) (hd : (x == ("__debug__" : Str)) = false := by decide) : SimE X own (.Name x pos) (sC (.int i)) := by
  obtain ⟨t, ht⟩ := hm
  exact sim_c (pe_glob hg ht (v := .int i) ⟨t, rfl⟩ hd) fun _ => .int i
theorem sim_gstr {x z : Str} (hg : Gl X x) (hm : ∃ t, X.mg x = some (.str z t)) (hd : (x == ("__debug__" : Str)) = false := by decide) : SimE X own (.Name x pos) (sC (.str z)) := by
  obtain ⟨t, ht⟩ := hm
  exact sim_c (pe_glob hg ht (v := .str z) ⟨t, rfl⟩ hd) fun _ => .str z

/-! ### operations on values -/
def sOp2 (f : D → D → Option D) (sa sb : SE) : SE := fun ρ S => (sa ρ S).then fun x S1 => (sb ρ S1).then fun y S2 => optR (f x y) S2
def sOp1 (f : D → Option D) (sa : SE) : SE := fun ρ S => (sa ρ S).then fun x S1 => optR (f x) S1
def Op2 (X : Cx) (f : D → D → Option D) (r : R2) : Prop := ∀ (g : Gh) (H : Hp) (S : Sto) (x y : V) (a b d : D) (Q : VK), GOk X.K X.mg g H S → RepR X.K X.mg g H x a → RepR X.K X.mg g H y b → f a b = some d →
  (∀ v g' H', GOk X.K X.mg g' H' S → Stp g H g' H' → Rep X.K X.mg g' v d → Q v H') → r x y H Q
def Op1 (X : Cx) (f : D → Option D) (r : V → Hp → VK → Prop) : Prop := ∀ (g : Gh) (H : Hp) (S : Sto) (x : V) (a d : D) (Q : VK), GOk X.K X.mg g H S → RepR X.K X.mg g H x a → f a = some d →
  (∀ v g' H', GOk X.K X.mg g' H' S → Stp g H g' H' → Rep X.K X.mg g' v d → Q v H') → r x H Q
theorem two_of {f : D → D → Option D} {r : R2} (hf : Op2 X f r) {σ : L2.St} {H : Hp} {Q : VK} (h : tE X own (sOp2 f sa sb) σ H Q) : tOp r (tR X own sa) (tR X own sb) σ H Q := by
  obtain ⟨g0, H0, ρ, g, S, E, q⟩ := h
  obtain ⟨d, S', e1, k⟩ := Res.post_ex q
  obtain ⟨x, S1, e2, e1⟩ := Res.then_ex e1
  obtain ⟨y, S2, e3, e1⟩ := Res.then_ex e1
  obtain ⟨e4, rfl⟩ := optR_ex e1
  refine ⟨g0, H0, ρ, g, S, E, ?_⟩
  rw [e2]
  intro v g1 H1 G1 s1 r1
  refine ⟨g0, H0, ρ, g1, S1, E.step G1 s1, ?_⟩
  rw [e3]
  intro v2 g2 H2 G2 s2 r2
  exact hf g2 H2 S2 v v2 x y d Q G2 (r1.step s2) r2 e4 fun v3 g3 H3 G3 s3 r3 => k v3 g3 H3 G3 ((s1.trans s2).trans s3) r3
theorem sim_op {op : Operator} {f : D → D → Option D} {r : R2} (ho : OpR X (binaryOp op) r) (hf : Op2 X f r) (ha : SimR X own a sa) (hb : SimR X own b sb) : SimE X own (.BinOp a op b pos) (sOp2 f sa sb) :=
  pe_weak (pe_op ho ha hb) fun _ _ _ h => two_of hf h
theorem sim_cmp {op : CmpOp} {f : D → D → Option D} {r : R2} (ho : OpR X (compareOp op) r) (hf : Op2 X f r) (ha : SimR X own a sa) (hb : SimR X own b sb) (hm : behindInMarks op b = false) : SimE X own (.Compare a [op] [b] pos) (sOp2 f sa sb) :=
  pe_weak (pe_cmpR ho ha hb hm) fun _ _ _ h => two_of hf h
def sBool (se : SE) : SB := fun ρ S => (se ρ S).then fun d S' => match d with
  | .bl b => .ok b S'
  | _ => .bad
theorem sBool_of {σ : L2.St} {H : Hp} {Q : Bool → Hp → Prop} (h : tB X own (sBool se) σ H Q) : tE X own se σ H fun v H' => ∃ k, v = .bl k ∧ Q k H' := by
  obtain ⟨g0, H0, ρ, g, S, E, q⟩ := h
  obtain ⟨b, S', e1, k⟩ := Res.post_ex q
  obtain ⟨d, S1, e2, e1⟩ := Res.then_ex e1
  refine ⟨g0, H0, ρ, g, S, E, ?_⟩
  rw [e2]
  intro v g' H' G s r
  cases d with
  | bl x =>
    cases e1
    cases r
    exact ⟨b, rfl, k g' H' G s⟩
  | _ => cases e1
theorem sim_cmpT {op : CmpOp} {f : D → D → Option D} {r : R2} (ho : OpR X (compareOp op) r) (hf : Op2 X f r) (ha : SimR X own a sa) (hb : SimR X own b sb) (hm : behindInMarks op b = false) : SimT X own (.Compare a [op] [b] pos) (sBool (sOp2 f sa sb)) :=
  pt_weak (pt_cmpR ho ha hb hm) fun _ _ _ h => two_of hf (sBool_of h)
theorem sim_un {op : UnaryOp} {f : D → Option D} {r : V → Hp → VK → Prop} (ho : UnR X (unaryOp op) r) (hf : Op1 X f r) (ha : SimR X own a sa) : SimE X own (.UnaryOp op a pos) (sOp1 f sa) :=
  pe_weak (pe_un ho ha) fun σ H Q ⟨g0, H0, ρ, g, S, E, q⟩ => by
    obtain ⟨d, S', e1, k⟩ := Res.post_ex q
    obtain ⟨x, S1, e2, e1⟩ := Res.then_ex e1
    obtain ⟨e4, rfl⟩ := optR_ex e1
    refine ⟨g0, H0, ρ, g, S, E, ?_⟩
    rw [e2]
    intro v g1 H1 G1 s1 r1
    exact hf g1 H1 S1 v x d Q G1 r1 e4 fun v3 g3 H3 G3 s3 r3 => k v3 g3 H3 G3 (s1.trans s3) r3
/-- a < b < c -/
def sChain (f f' : D → D → Option D) (sa sb sc : SE) : SE := fun ρ S => (sa ρ S).then fun x S1 => (sb ρ S1).then fun y S2 => (optR (f x y) S2).then fun z S3 => match z with
  | .bl true => (sc ρ S3).then fun w S4 => optR (f' y w) S4
  | .bl false => .ok (.bl false) S3
  | _ => .bad

/-! ### tests -/
def dTruth : D → Option Bool
  | .non => some false
  | .bl b => some b
  | .int i => some (i != 0)
  | .str x => if x.length ≤ sizeLine then some ((x.length : Int) != 0) else none
  | .tup xs => some (!xs.isEmpty)
  | .lst xs => some (!xs.isEmpty)
  | _ => none
theorem reps_empty {K : PySem.W.Frag} {mg : Str → Option Value} {g : Gh} {vs : List V} {ds : List D} (r : Reps K mg g vs ds) : (!vs.isEmpty) = !ds.isEmpty := by cases r <;> rfl
theorem tru_of {g : Gh} {H : Hp} {S : Sto} {v : V} {d : D} {k : Bool} (G : GOk X.K X.mg g H S) (r : RepR X.K X.mg g H v d) (h : dTruth d = some k) : TruV X.K v H k := by
  cases d with
  | non => cases r.non; cases h; rfl
  | bl b => cases r.bl; cases h; rfl
  | int i => cases r.int; cases h; rfl
  | str x =>
    cases r.str
    have h' : (if x.length ≤ sizeLine then some ((x.length : Int) != 0) else none) = some k := h
    split at h'
    · cases h'; exact ⟨‹_›, rfl⟩
    · cases h'
  | tup xs =>
    obtain ⟨p, vs, rfl, hp, rs⟩ := r.tup G
    cases h
    exact .inr (.inl ⟨vs, SqT.of hp, (reps_empty rs).symm⟩)
  | lst xs =>
    obtain ⟨p, vs, rfl, hp, rs⟩ := r.lst G
    cases h
    exact .inl ⟨vs, SqL.of hp, (reps_empty rs).symm⟩
  | _ => cases h
def sTru (se : SE) : SB := fun ρ S => (se ρ S).then fun d S' => optR (dTruth d) S'
theorem sim_truth (ha : SimR X own a sa) (he : ∀ whole, isTrue a X.env whole = (do let v ← whole; standAt a.pos; holding [v] (truthy v)) := by intro _; rfl) : SimT X own a (sTru sa) :=
  pt_weak (pt_truth ha he) fun σ H Q ⟨g0, H0, ρ, g, S, E, q⟩ => by
    obtain ⟨b, S', e1, k⟩ := Res.post_ex q
    obtain ⟨d, S1, e2, e1⟩ := Res.then_ex e1
    obtain ⟨e3, rfl⟩ := optR_ex e1
    refine ⟨g0, H0, ρ, g, S, E, ?_⟩
    rw [e2]
    exact fun v g' H' G s r => ⟨b, tru_of G r e3, k g' H' G s⟩
def sNotB (sb : SB) : SB := fun ρ S => (sb ρ S).then fun b S' => .ok (!b) S'
def sAndB (sb sc : SB) : SB := fun ρ S => (sb ρ S).then fun b S' => if b then sc ρ S' else .ok false S'
def sOrB (sb sc : SB) : SB := fun ρ S => (sb ρ S).then fun b S' => if b then .ok true S' else sc ρ S'
variable {ba bb : SB} {rest : List Expr}
theorem sim_notT (h : SimT X own a ba) : SimT X own (.UnaryOp .Not a pos) (sNotB ba) := pt_weak (pt_not h) fun σ H Q ⟨g0, H0, ρ, g, S, E, q⟩ => by
  obtain ⟨b, S', e1, k⟩ := Res.post_ex q
  obtain ⟨d, S1, e2, e1⟩ := Res.then_ex e1
  cases e1
  refine ⟨g0, H0, ρ, g, S, E, ?_⟩
  rw [e2]
  exact k
theorem sim_and1 (h : SimT X own a ba) : SimW X own (.BoolOp .And [a] pos) ba := pw_and1 h
theorem sim_or1 (h : SimT X own a ba) : SimW X own (.BoolOp .Or [a] pos) ba := pw_or1 h
theorem sim_andW (h : SimT X own a ba) (h2 : SimW X own (.BoolOp .And (b :: rest) pos) bb) : SimW X own (.BoolOp .And (a :: b :: rest) pos) (sAndB ba bb) := pw_weak (pw_and h h2) fun σ H Q ⟨g0, H0, ρ, g, S, E, q⟩ => by
  obtain ⟨c, S', e1, k⟩ := Res.post_ex q
  obtain ⟨d, S1, e2, e1⟩ := Res.then_ex e1
  refine ⟨g0, H0, ρ, g, S, E, ?_⟩
  rw [e2]
  intro g' H' G s
  cases d with
  | true =>
    refine ⟨g0, H0, ρ, g', S1, E.step G s, ?_⟩
    have e1' : bb ρ S1 = .ok c S' := e1
    rw [e1']
    exact fun g2 H2 G2 s2 => k g2 H2 G2 (s.trans s2)
  | false =>
    have e1' : (Res.ok false S1 : Res Bool) = .ok c S' := e1
    cases e1'
    exact k g' H' G s
theorem sim_orW (h : SimT X own a ba) (h2 : SimW X own (.BoolOp .Or (b :: rest) pos) bb) : SimW X own (.BoolOp .Or (a :: b :: rest) pos) (sOrB ba bb) := pw_weak (pw_or h h2) fun σ H Q ⟨g0, H0, ρ, g, S, E, q⟩ => by
  obtain ⟨c, S', e1, k⟩ := Res.post_ex q
  obtain ⟨d, S1, e2, e1⟩ := Res.then_ex e1
  refine ⟨g0, H0, ρ, g, S, E, ?_⟩
  rw [e2]
  intro g' H' G s
  cases d with
  | false =>
    refine ⟨g0, H0, ρ, g', S1, E.step G s, ?_⟩
    have e1' : bb ρ S1 = .ok c S' := e1
    rw [e1']
    exact fun g2 H2 G2 s2 => k g2 H2 G2 (s.trans s2)
  | true =>
    have e1' : (Res.ok true S1 : Res Bool) = .ok c S' := e1
    cases e1'
    exact k g' H' G s
theorem SimW.t {ba : SB} (h : SimW X own e ba) : SimT X own e ba := PW.pt h
/-- and, or, not as values -/
def sAndV (sa sb : SE) : SE := fun ρ S => (sBool sa ρ S).then fun b S' => if b then sb ρ S' else .ok (.bl false) S'
def sOrV (sa sb : SE) : SE := fun ρ S => (sBool sa ρ S).then fun b S' => if b then .ok (.bl true) S' else sb ρ S'
def sNotV (sb : SB) : SE := fun ρ S => (sb ρ S).then fun b S' => .ok (.bl (!b)) S'
theorem sBool_run {ρ : DEnv} {S S1 : Sto} {b : Bool} (e : sBool sa ρ S = .ok b S1) : sa ρ S = .ok (.bl b) S1 := by
  obtain ⟨d, S2, e2, e1⟩ := Res.then_ex e
  cases d with
  | bl x => cases e1; exact e2
  | _ => cases e1
theorem sim_one {op} (h : SimE X own a sa) : SimE X own (.BoolOp op [a] pos) sa := pe_one h
theorem sim_andV (h : SimE X own a sa) (h2 : SimE X own (.BoolOp .And (b :: rest) pos) sb) : SimE X own (.BoolOp .And (a :: b :: rest) pos) (sAndV sa sb) := pe_weak (pe_and h h2) fun σ H Q ⟨g0, H0, ρ, g, S, E, q⟩ => by
  obtain ⟨c, S', e1, k⟩ := Res.post_ex q
  obtain ⟨d, S1, e2, e1⟩ := Res.then_ex e1
  refine ⟨g0, H0, ρ, g, S, E, ?_⟩
  rw [sBool_run e2]
  intro v g' H' G s r
  cases r
  refine ⟨d, rfl, ?_⟩
  cases d with
  | true =>
    rw [if_pos rfl]
    refine ⟨g0, H0, ρ, g', S1, E.step G s, ?_⟩
    have e1' : sb ρ S1 = .ok c S' := e1
    rw [e1']
    exact fun v2 g2 H2 G2 s2 r2 => k v2 g2 H2 G2 (s.trans s2) r2
  | false =>
    rw [if_neg Bool.false_ne_true]
    have e1' : (Res.ok (.bl false) S1 : Res D) = .ok c S' := e1
    cases e1'
    exact k _ g' H' G s (.bl false)
theorem sim_orV (h : SimE X own a sa) (h2 : SimE X own (.BoolOp .Or (b :: rest) pos) sb) : SimE X own (.BoolOp .Or (a :: b :: rest) pos) (sOrV sa sb) := pe_weak (pe_or h h2) fun σ H Q ⟨g0, H0, ρ, g, S, E, q⟩ => by
  obtain ⟨c, S', e1, k⟩ := Res.post_ex q
  obtain ⟨d, S1, e2, e1⟩ := Res.then_ex e1
  refine ⟨g0, H0, ρ, g, S, E, ?_⟩
  rw [sBool_run e2]
  intro v g' H' G s r
  cases r
  refine ⟨d, rfl, ?_⟩
  cases d with
  | false =>
    rw [if_neg Bool.false_ne_true]
    refine ⟨g0, H0, ρ, g', S1, E.step G s, ?_⟩
    have e1' : sb ρ S1 = .ok c S' := e1
    rw [e1']
    exact fun v2 g2 H2 G2 s2 r2 => k v2 g2 H2 G2 (s.trans s2) r2
  | true =>
    rw [if_pos rfl]
    have e1' : (Res.ok (.bl true) S1 : Res D) = .ok c S' := e1
    cases e1'
    exact k _ g' H' G s (.bl true)
theorem sim_notV (h : SimR X own a sa) : SimE X own (.UnaryOp .Not a pos) (sNotV (sTru sa)) := pe_weak (pe_notT h) fun σ H Q ⟨g0, H0, ρ, g, S, E, q⟩ => by
  obtain ⟨c, S', e1, k⟩ := Res.post_ex q
  obtain ⟨d, S1, e2, e1⟩ := Res.then_ex e1
  obtain ⟨x, S2, e3, e2⟩ := Res.then_ex e2
  obtain ⟨e4, rfl⟩ := optR_ex e2
  cases e1
  refine ⟨g0, H0, ρ, g, S, E, ?_⟩
  rw [e3]
  exact fun v g' H' G s r => ⟨d, tru_of G r e4, k _ g' H' G s (.bl _)⟩
/-- a if t else b -/
def sIfE (st : SB) (sa sb : SE) : SE := fun ρ S => (st ρ S).then fun c S' => if c then sa ρ S' else sb ρ S'
theorem sim_if {t : Expr} {st : SB} (h : SimT X own t st) (ha : SimE X own a sa) (hb : SimE X own b sb) : SimE X own (.IfExp t a b pos) (sIfE st sa sb) := pe_weak (pe_ifExp h ha hb) fun σ H Q ⟨g0, H0, ρ, g, S, E, q⟩ => by
  obtain ⟨c, S', e1, k⟩ := Res.post_ex q
  obtain ⟨d, S1, e2, e1⟩ := Res.then_ex e1
  refine ⟨g0, H0, ρ, g, S, E, ?_⟩
  rw [e2]
  intro g' H' G s
  cases d with
  | true =>
    rw [if_pos rfl]
    refine ⟨g0, H0, ρ, g', S1, E.step G s, ?_⟩
    have e1' : sa ρ S1 = .ok c S' := e1
    rw [e1']
    exact fun v2 g2 H2 G2 s2 r2 => k v2 g2 H2 G2 (s.trans s2) r2
  | false =>
    rw [if_neg Bool.false_ne_true]
    refine ⟨g0, H0, ρ, g', S1, E.step G s, ?_⟩
    have e1' : sb ρ S1 = .ok c S' := e1
    rw [e1']
    exact fun v2 g2 H2 G2 s2 r2 => k v2 g2 H2 G2 (s.trans s2) r2
theorem chain_of {f f' : D → D → Option D} {r r' : R2} (hf : Op2 X f r) (hf' : Op2 X f' r') {σ : L2.St} {H : Hp} {Q : VK} (h : tE X own (sChain f f' sa sb sc) σ H Q) : tChain r r' (tR X own sa) (tR X own sb) (tR X own sc) σ H Q := by
  obtain ⟨g0, H0, ρ, g, S, E, q⟩ := h
  obtain ⟨d, S', e1, k⟩ := Res.post_ex q
  obtain ⟨x, S1, e2, e1⟩ := Res.then_ex e1
  obtain ⟨y, S2, e3, e1⟩ := Res.then_ex e1
  obtain ⟨z, S3, e4, e1⟩ := Res.then_ex e1
  obtain ⟨e4', eS⟩ := optR_ex e4
  subst eS
  refine ⟨g0, H0, ρ, g, S, E, ?_⟩
  rw [e2]
  intro v g1 H1 G1 s1 r1
  refine ⟨g0, H0, ρ, g1, S1, E.step G1 s1, ?_⟩
  rw [e3]
  intro v2 g2 H2 G2 s2 r2
  refine hf g2 H2 S2 v v2 x y z _ G2 (r1.step s2) r2 e4' fun v3 g3 H3 G3 s3 r3 => ?_
  cases z with
  | bl bz =>
    cases r3
    refine ⟨bz, rfl, ?_⟩
    cases bz with
    | false =>
      rw [if_neg Bool.false_ne_true]
      have e1' : (Res.ok (.bl false) S2 : Res D) = .ok d S' := e1
      cases e1'
      exact k _ g3 H3 G3 ((s1.trans s2).trans s3) (.bl false)
    | true =>
      rw [if_pos rfl]
      have e1' : ((sc ρ S2).then fun w S4 => optR (f' y w) S4) = .ok d S' := e1
      obtain ⟨w, S4, e5, e6⟩ := Res.then_ex e1'
      obtain ⟨e6', eS⟩ := optR_ex e6
      subst eS
      refine ⟨g0, H0, ρ, g3, S2, E.step G3 ((s1.trans s2).trans s3), ?_⟩
      rw [e5]
      intro v4 g4 H4 G4 s4 r4
      exact hf' g4 H4 S4 v2 v4 y w d Q G4 ((r2.step s3).step s4) r4 e6' fun v5 g5 H5 G5 s5 r5 => k v5 g5 H5 G5 ((((s1.trans s2).trans s3).trans s4).trans s5) r5
  | _ => cases e1
theorem sim_chain {op op' : CmpOp} {f f' : D → D → Option D} {r r' : R2} (ho : OpR X (compareOp op) r) (ho' : OpR X (compareOp op') r') (hf : Op2 X f r) (hf' : Op2 X f' r') (ha : SimR X own a sa) (hb : SimR X own b sb) (hc : SimR X own c sc)
    (hm : lastMarks [op, op'] [b, c] = false := by with_unfolding_all rfl) : SimE X own (.Compare a [op, op'] [b, c] pos) (sChain f f' sa sb sc) :=
  pe_weak (pe_chain ho ho' ha hb hc hm) fun _ _ _ h => chain_of hf hf' h
theorem sim_chainT {op op' : CmpOp} {f f' : D → D → Option D} {r r' : R2} (ho : OpR X (compareOp op) r) (ho' : OpR X (compareOp op') r') (hf : Op2 X f r) (hf' : Op2 X f' r') (ha : SimR X own a sa) (hb : SimR X own b sb) (hc : SimR X own c sc)
    (hm : lastMarks [op, op'] [b, c] = false := by with_unfolding_all rfl) : SimT X own (.Compare a [op, op'] [b, c] pos) (sBool (sChain f f' sa sb sc)) :=
  pt_weak (pt_chain ho ho' ha hb hc hm) fun _ _ _ h => chain_of hf hf' (sBool_of h)
end
end Ev
namespace Ev
open PySem PySem.Spec PyProof.Rows L2
section
variable {K : PySem.W.Frag} {mg : Str → Option Value} {g : Gh} {H : Hp} {S : Sto} {p : Addr} {vs : List V} {ds : List D}
theorem Rep.newT (G : GOk K mg g H S) (h : H p = none) (r : Reps K mg g vs ds) : Rep K mg (g.add p (.tup vs)) (.ref p) (.tup ds) := .tup upd_same (r.mono (gle_add (G.nfree h)))
theorem Rep.newL (G : GOk K mg g H S) (h : H p = none) (r : Reps K mg g vs ds) : Rep K mg (g.add p (.lst vs)) (.ref p) (.lst ds) := .lst upd_same (r.mono (gle_add (G.nfree h)))
end
/-! ### operators -/
def dAdd : D → D → Option D
  | .int i, .int j => some (.int (i + j))
  | .str x, .str y => if x.length + y.length ≤ sizeLine then some (.str (x ++ y)) else none
  | .tup xs, .tup ys => if xs.length + ys.length ≤ sizeLine then some (.tup (xs ++ ys)) else none
  | .lst xs, .lst ys => if xs.length + ys.length ≤ sizeLine then some (.lst (xs ++ ys)) else none
  | _, _ => none
def dSub : D → D → Option D
  | .int i, .int j => some (.int (i - j))
  | _, _ => none
theorem lg_lt {n k : Nat} (h : n.log2 < k) : n < 2 ^ k := by
  by_cases z : n = 0
  · subst z; exact Nat.two_pow_pos k
  · exact (Nat.log2_lt z).mp h
theorem lt_lg {n k : Nat} (hk : 0 < k) (h : n < 2 ^ k) : n.log2 < k := by
  by_cases z : n = 0
  · subst z; simpa using hk
  · exact (Nat.log2_lt z).mpr h
/-- guards: sizes by their logarithms -/
@[irreducible] def cMul (i j : Int) : Bool := decide (i.natAbs.log2 < 64) || decide (j.natAbs.log2 < 64)
@[irreducible] def fdOk (j : Int) : Bool := decide (j ≠ 0 ∧ j.natAbs.log2 < 30)
theorem fdOk_ok {j : Int} (h : fdOk j = true) : j ≠ 0 ∧ j.natAbs < 1073741824 := by
  unfold fdOk at h
  have h := of_decide_eq_true h
  exact ⟨h.1, lg_lt h.2⟩
theorem fdOk_of {j : Int} (h : j ≠ 0) (h2 : j.natAbs < 1073741824) : fdOk j = true := by
  unfold fdOk
  exact decide_eq_true ⟨h, lt_lg (by decide) h2⟩
@[irreducible] def pwOk (i j : Int) : Bool := decide (0 ≤ j ∧ j.natAbs.log2 < 19 ∧ i.natAbs.log2 < 64)
theorem pwOk_ok {i j : Int} (h : pwOk i j = true) : 0 ≤ j ∧ j ≤ 1000000 ∧ i.natAbs < 18446744073709551616 := by
  unfold pwOk at h
  have h := of_decide_eq_true h
  have h2 := lg_lt h.2.1
  have e : (2 : Nat) ^ 19 = 524288 := by decide
  exact ⟨h.1, by omega, lg_lt h.2.2⟩
theorem pwOk_of {i j : Int} (h : 0 ≤ j) (h1 : j < 524288) (h2 : i.natAbs < 18446744073709551616) : pwOk i j = true := by
  unfold pwOk
  have e : (2 : Nat) ^ 19 = 524288 := by decide
  exact decide_eq_true ⟨h, lt_lg (by decide) (by omega), lt_lg (by decide) h2⟩
@[irreducible] def rpOk (n : Nat) (k : Int) : Bool := decide (k.natAbs.log2 < 63 ∧ n * k.toNat ≤ sizeLine)
theorem rpOk_ok {n : Nat} {k : Int} (h : rpOk n k = true) : -9223372036854775808 ≤ k ∧ k < 9223372036854775808 ∧ n * k.toNat ≤ sizeLine := by
  unfold rpOk at h
  have h := of_decide_eq_true h
  have h2 := lg_lt h.1
  have e : (2 : Nat) ^ 63 = 9223372036854775808 := by decide
  exact ⟨by omega, by omega, h.2⟩
theorem rpOk_of {n : Nat} {k : Int} (h : k.natAbs < 9223372036854775808) (h2 : n * k.toNat ≤ sizeLine) : rpOk n k = true := by
  unfold rpOk
  exact decide_eq_true ⟨lt_lg (by decide) h, h2⟩
def dMul : D → D → Option D
  | .int i, .int j => if cMul i j then some (.int (i * j)) else none
  | .lst xs, .int k => if rpOk xs.length k then some (.lst (List.replicate k.toNat xs).flatten) else none
  | _, _ => none
def dFdiv : D → D → Option D
  | .int i, .int j => if fdOk j then some (.int (i.fdiv j)) else none
  | _, _ => none
def dMod : D → D → Option D
  | .int i, .int j => if j ≠ 0 then some (.int (i.fmod j)) else none
  | _, _ => none
def dPow : D → D → Option D
  | .int i, .int j => if pwOk i j then some (.int (i ^ j.toNat)) else none
  | _, _ => none
def dNeg : D → Option D
  | .int i => some (.int (-i))
  | _ => none
section
variable {X : Cx}
theorem op2_add : Op2 X dAdd (fun x y H Q => (rI0 (fun i j => .int (i + j)) x y H Q ∨ (∃ i j, x = .str i ∧ y = .str j ∧ i.length + j.length ≤ sizeLine ∧ Q (.str (i ++ j)) H)) ∨ (rCatA X.K x y H Q ∨ rCat x y H Q)) := by
  intro g H S x y a b d Q G ra rb e k
  unfold dAdd at e
  split at e
  · cases e
    cases ra.int
    cases rb.int
    exact .inl (.inl ⟨_, _, rfl, rfl, k _ g H G .refl (.int _)⟩)
  · split at e
    · cases e
      cases ra.str
      cases rb.str
      exact .inl (.inr ⟨_, _, rfl, rfl, by assumption, k _ g H G .refl (.str _)⟩)
    · cases e
  · split at e
    · rename_i xs ys hz
      cases e
      have fa := ra.rep (fun _ e => nomatch e)
      have fb := rb.rep (fun _ e => nomatch e)
      obtain ⟨p, vs, rfl, hp, rs⟩ := ra.tup G
      obtain ⟨q, ws, rfl, hq, rt⟩ := rb.tup G
      refine .inr (.inl ⟨p, q, vs, ws, rfl, rfl, SqT.of hp, SqT.of hq, by rw [rs.length, rt.length]; exact hz, fun e => ?_, fun _ e => ?_, fun _ _ l hl => ?_⟩)
      · subst e
        cases rs
        exact k _ g H G .refl fb
      · subst e
        cases rt
        rw [List.append_nil] at k
        exact k _ g H G .refl fa
      · exact k _ _ _ (G.add hl) (stp_add G hl) (.newT G hl (rs.append rt))
    · cases e
  · split at e
    · rename_i xs ys hz
      cases e
      obtain ⟨p, vs, rfl, hp, rs⟩ := ra.lst G
      obtain ⟨q, ws, rfl, hq, rt⟩ := rb.lst G
      refine .inr (.inr ⟨p, q, vs, ws, rfl, rfl, hp, hq, by rw [rs.length, rt.length]; exact hz, fun l hl => ?_⟩)
      exact k _ _ _ (G.add hl) (stp_add G hl) (.newL G hl (rs.append rt))
    · cases e
  · cases e
theorem opr_add : OpR X (binaryOp .Add) (fun x y H Q => (rI0 (fun i j => .int (i + j)) x y H Q ∨ (∃ i j, x = .str i ∧ y = .str j ∧ i.length + j.length ≤ sizeLine ∧ Q (.str (i ++ j)) H)) ∨ (rCatA X.K x y H Q ∨ rCat x y H Q)) :=
  (op_add.or op_add_str).or (op_catA.or op_cat)
theorem op2_sub : Op2 X dSub (rI0 fun i j => .int (i - j)) := by
  intro g H S x y a b d Q G ra rb e k
  unfold dSub at e
  split at e
  · cases e
    cases ra.int
    cases rb.int
    exact ⟨_, _, rfl, rfl, k _ g H G .refl (.int _)⟩
  · cases e
theorem cMul_ok {i j : Int} (h : cMul i j = true) : CMul i j := by
  unfold cMul at h
  rw [Bool.or_eq_true, decide_eq_true_eq, decide_eq_true_eq] at h
  have e : (2 : Int) ^ 64 = 18446744073709551616 := by decide
  have e2 : (2 : Nat) ^ 64 = 18446744073709551616 := by decide
  unfold CMul
  rw [e]
  rcases h with h | h
  · have := lg_lt h
    omega
  · have := lg_lt h
    omega
theorem cMul_of {i j : Int} (h : i.natAbs < 18446744073709551616 ∨ j.natAbs < 18446744073709551616) : cMul i j = true := by
  unfold cMul
  rw [Bool.or_eq_true, decide_eq_true_eq, decide_eq_true_eq]
  exact h.imp (lt_lg (by decide)) (lt_lg (by decide))
theorem op2_mul : Op2 X dMul (fun x y H Q => rI CMul (fun i j => .int (i * j)) x y H Q ∨ rRep x y H Q) := by
  intro g H S x y a b d Q G ra rb e k
  unfold dMul at e
  split at e
  · split at e
    · cases e
      cases ra.int
      cases rb.int
      exact .inl ⟨_, _, rfl, rfl, cMul_ok (by assumption), k _ g H G .refl (.int _)⟩
    · cases e
  · split at e
    · rename_i hz
      replace hz := rpOk_ok hz
      cases e
      cases rb.int
      obtain ⟨p, vs, rfl, hp, rs⟩ := ra.lst G
      have e63 : (2 : Int) ^ 63 = 9223372036854775808 := by decide
      refine .inr ⟨p, _, vs, rfl, rfl, hp, by rw [e63]; exact hz.1, by rw [e63]; exact hz.2.1, by rw [rs.length]; exact hz.2.2, fun l hl => ?_⟩
      exact k _ _ _ (G.add hl) (stp_add G hl) (.newL G hl (rs.rep _))
    · cases e
  · cases e
theorem opr_mul : OpR X (binaryOp .Mult) (fun x y H Q => rI CMul (fun i j => .int (i * j)) x y H Q ∨ rRep x y H Q) := op_mul.or op_rep
theorem op2_fdiv : Op2 X dFdiv (rI CDivN fun i j => .int (i.fdiv j)) := by
  intro g H S x y a b d Q G ra rb e k
  unfold dFdiv at e
  split at e
  · split at e
    · cases e
      cases ra.int
      cases rb.int
      exact ⟨_, _, rfl, rfl, fdOk_ok (by assumption), k _ g H G .refl (.int _)⟩
    · cases e
  · cases e
theorem op2_mod : Op2 X dMod (rI (fun _ j => j ≠ 0) fun i j => .int (i.fmod j)) := by
  intro g H S x y a b d Q G ra rb e k
  unfold dMod at e
  split at e
  · split at e
    · cases e
      cases ra.int
      cases rb.int
      exact ⟨_, _, rfl, rfl, by assumption, k _ g H G .refl (.int _)⟩
    · cases e
  · cases e
theorem op2_pow : Op2 X dPow (rI CPow fun i j => .int (i ^ j.toNat)) := by
  intro g H S x y a b d Q G ra rb e k
  unfold dPow at e
  split at e
  · split at e
    · cases e
      cases ra.int
      cases rb.int
      exact ⟨_, _, rfl, rfl, pwOk_ok (by assumption), k _ g H G .refl (.int _)⟩
    · cases e
  · cases e
theorem op1_neg : Op1 X dNeg (rU fun i => .int (-i)) := by
  intro g H S x a d Q G ra e k
  unfold dNeg at e
  split at e
  · cases e
    cases ra.int
    exact ⟨_, rfl, k _ g H G .refl (.int _)⟩
  · cases e
/-! ### comparisons -/
def dI2 (f : Int → Int → Bool) : D → D → Option D
  | .int i, .int j => some (.bl (f i j))
  | _, _ => none
theorem op2_i2 (f : Int → Int → Bool) : Op2 X (dI2 f) (rI0 fun i j => .bl (f i j)) := by
  intro g H S x y a b d Q G ra rb e k
  unfold dI2 at e
  split at e
  · cases e
    cases ra.int
    cases rb.int
    exact ⟨_, _, rfl, rfl, k _ g H G .refl (.bl _)⟩
  · cases e
abbrev dLt : D → D → Option D := dI2 fun i j => decide (i < j)
abbrev dLe : D → D → Option D := dI2 fun i j => decide (i ≤ j)
abbrev dGt : D → D → Option D := dI2 fun i j => decide (j < i)
abbrev dGe : D → D → Option D := dI2 fun i j => decide (j ≤ i)
mutual
def D.py : D → Option PyData
  | .non => some .none
  | .bl b => some (.bool b)
  | .int i => some (.int i)
  | .str x => some (.str x)
  | .tup xs => (pyAll xs).map .tuple
  | .lst xs => (pyAll xs).map .list
  | _ => none
def pyAll : List D → Option (List PyData)
  | [] => some []
  | d :: ds => match d.py, pyAll ds with
    | some x, some xs => some (x :: xs)
    | _, _ => none
end
section
variable {K : PySem.W.Frag} {mg : Str → Option Value} {g : Gh} {H : Hp}
mutual
theorem dp_of (hs : Same g.F H) : ∀ {v : V} {d : D} {x : PyData}, Rep K mg g v d → d.py = some x → Dp K H v x
  | _, _, _, .non, e => by cases (show some PyData.none = some _ from e); exact .non
  | _, _, _, .bl b, e => by cases (show some (PyData.bool b) = some _ from e); exact .bl b
  | _, _, _, .int i, e => by cases (show some (PyData.int i) = some _ from e); exact .int i
  | _, _, _, .str x, e => by cases (show some (PyData.str x) = some _ from e); exact .str x
  | _, _, _, .tup (ds := ds) h r, e => by
    have e' : (pyAll ds).map PyData.tuple = some _ := e
    cases q : pyAll ds with
    | none => rw [q] at e'; cases e'
    | some xs => rw [q] at e'; cases e'; exact .tup (SqT.of (hs _ _ h)) (dpAll_of hs r q)
  | _, _, _, .lst (ds := ds) h r, e => by
    have e' : (pyAll ds).map PyData.list = some _ := e
    cases q : pyAll ds with
    | none => rw [q] at e'; cases e'
    | some xs => rw [q] at e'; cases e'; exact .lst (SqL.of (hs _ _ h)) (dpAll_of hs r q)
  | _, _, _, .obj .., e => by cases (show (none : Option PyData) = some _ from e)
  | _, _, _, .mref _, e => by cases (show (none : Option PyData) = some _ from e)
  | _, _, _, .scr _, e => by cases (show (none : Option PyData) = some _ from e)
theorem dpAll_of (hs : Same g.F H) : ∀ {vs : List V} {ds : List D} {xs : List PyData}, Reps K mg g vs ds → pyAll ds = some xs → DpAll K H vs xs
  | _, _, _, .nil, e => by cases (show some ([] : List PyData) = some _ from e); exact .nil
  | _, _, xs, .cons (d := d) (ds := ds) h r, e => by
    have e' : (match d.py, pyAll ds with
      | some x, some xs => some (x :: xs)
      | _, _ => none) = some xs := e
    cases q : d.py with
    | none => rw [q] at e'; cases e'
    | some x => cases q2 : pyAll ds with
      | none => rw [q, q2] at e'; cases e'
      | some ys => rw [q, q2] at e'; cases e'; exact .cons (dp_of hs h q) (dpAll_of hs r q2)
end
theorem dp_read {S : Sto} {v : V} {d : D} {x : PyData} (G : GOk K mg g H S) (r : RepR K mg g H v d) (e : d.py = some x) : Dp K H v x := by
  rcases r with r | ⟨p, vs, ds, rfl, rfl, hp, _, r⟩
  · exact dp_of G.sub r e
  · have e' : (pyAll ds).map PyData.list = some _ := e
    cases q : pyAll ds with
    | none => rw [q] at e'; cases e'
    | some xs => rw [q] at e'; cases e'; exact .lst (SqL.of hp) (dpAll_of G.sub r q)
end
def dEqv (neg : Bool) (a b : D) : Option D := match a.py, b.py with
  | some x, some y => if (SeqAt.shaped x && SeqAt.shaped y) = true then some (.bl (if neg then !PyData.eqv x y else PyData.eqv x y)) else none
  | _, _ => none
abbrev dEq := dEqv false
abbrev dNe := dEqv true
theorem op2_eq : Op2 X dEq (rEqD X.K) := by
  intro g H S x y a b d Q G ra rb e k
  unfold dEq dEqv at e
  split at e
  · rename_i u w q1 q2
    split at e
    · rename_i hz
      cases e
      obtain ⟨h1, h2⟩ := Bool.and_eq_true_iff.mp hz
      exact ⟨u, w, dp_read G ra q1, dp_read G rb q2, h1, h2, k _ g H G .refl (.bl _)⟩
    · cases e
  · cases e
theorem op2_ne : Op2 X dNe (rNeD X.K) := by
  intro g H S x y a b d Q G ra rb e k
  unfold dNe dEqv at e
  split at e
  · rename_i u w q1 q2
    split at e
    · rename_i hz
      cases e
      obtain ⟨h1, h2⟩ := Bool.and_eq_true_iff.mp hz
      exact ⟨u, w, dp_read G ra q1, dp_read G rb q2, h1, h2, k _ g H G .refl (.bl _)⟩
    · cases e
  · cases e
/-- is None, is not None -/
def dIsN (neg : Bool) : D → D → Option D
  | a, .non => some (.bl (match a with
    | .non => !neg
    | _ => neg))
  | _, _ => none
theorem rep_non {K : PySem.W.Frag} {mg : Str → Option Value} {g : Gh} {H : Hp} {v : V} {d : D} (r : RepR K mg g H v d) : decide (v = .non) = (match d with
    | .non => true
    | _ => false) := by
  rcases r with r | ⟨p, vs, ds, rfl, rfl, _⟩
  · cases r <;> rfl
  · rfl
theorem op2_isN : Op2 X (dIsN false) (fun x y H Q => y = .non ∧ Q (.bl (decide (x = .non))) H) := by
  intro g H S x y a b d Q G ra rb e k
  unfold dIsN at e
  split at e
  · cases e
    refine ⟨rb.non, k _ g H G .refl ?_⟩
    rw [rep_non ra]
    cases a <;> exact .bl _
  · cases e
theorem op2_notN : Op2 X (dIsN true) (fun x y H Q => y = .non ∧ Q (.bl (!decide (x = .non))) H) := by
  intro g H S x y a b d Q G ra rb e k
  unfold dIsN at e
  split at e
  · cases e
    refine ⟨rb.non, k _ g H G .refl ?_⟩
    rw [rep_non ra]
    cases a <;> exact .bl _
  · cases e
/-- is True, is not True, of truth values -/
def dIsB (neg : Bool) : D → D → Option D
  | .bl a, .bl b => some (.bl (if neg then !decide (a = b) else decide (a = b)))
  | _, _ => none
theorem op2_isB : Op2 X (dIsB false) rIsB := by
  intro g H S x y a b d Q G ra rb e k
  unfold dIsB at e
  split at e
  · cases e
    cases ra.bl
    cases rb.bl
    exact ⟨_, _, rfl, rfl, k _ g H G .refl (.bl _)⟩
  · cases e
theorem op2_notB : Op2 X (dIsB true) rNotB := by
  intro g H S x y a b d Q G ra rb e k
  unfold dIsB at e
  split at e
  · cases e
    cases ra.bl
    cases rb.bl
    exact ⟨_, _, rfl, rfl, k _ g H G .refl (.bl _)⟩
  · cases e
/-- x in s, texts; x in a list of data -/
def dInS (x y : Str) : Bool := !(Builtin.Str.occurrences y x 0 y.length 1).isEmpty
def dIn (neg : Bool) (a b : D) : Option D := match a, b with
  | .str x, .str y => some (.bl (if neg then !dInS x y else dInS x y))
  | a, .lst ys => (match a.py, pyAll ys with
    | some x, some zs => if (SeqAt.shaped x && SeqAt.shaped (.list zs)) = true then some (.bl (if neg then !zs.any fun z => PyData.eqv z x else zs.any fun z => PyData.eqv z x)) else none
    | _, _ => none)
  | _, _ => none
theorem op2_in : Op2 X (dIn false) (fun x y H Q => (∃ i j, x = .str i ∧ y = .str j ∧ Q (.bl (!(Builtin.Str.occurrences j i 0 j.length 1).isEmpty)) H) ∨ rInD X.K x y H Q) := by
  intro g H S x y a b d Q G ra rb e k
  unfold dIn at e
  split at e
  · cases e
    cases ra.str
    cases rb.str
    exact .inl ⟨_, _, rfl, rfl, k _ g H G .refl (.bl _)⟩
  · rename_i ys
    split at e
    · rename_i u zs q1 q2
      split at e
      · rename_i hz
        cases e
        obtain ⟨h1, h2⟩ := Bool.and_eq_true_iff.mp hz
        refine .inr ⟨u, zs, dp_read G ra q1, dp_read G rb ?_, h1, h2, k _ g H G .refl (.bl _)⟩
        show (pyAll ys).map PyData.list = _
        rw [q2] <;> rfl
      · cases e
    · cases e
  · cases e
theorem op2_notIn : Op2 X (dIn true) (fun x y H Q => (∃ i j, x = .str i ∧ y = .str j ∧ Q (.bl (!(!(Builtin.Str.occurrences j i 0 j.length 1).isEmpty))) H) ∨ rNotInD X.K x y H Q) := by
  intro g H S x y a b d Q G ra rb e k
  unfold dIn at e
  split at e
  · cases e
    cases ra.str
    cases rb.str
    exact .inl ⟨_, _, rfl, rfl, k _ g H G .refl (.bl _)⟩
  · rename_i ys
    split at e
    · rename_i u zs q1 q2
      split at e
      · rename_i hz
        cases e
        obtain ⟨h1, h2⟩ := Bool.and_eq_true_iff.mp hz
        refine .inr ⟨u, zs, dp_read G ra q1, dp_read G rb ?_, h1, h2, k _ g H G .refl (.bl _)⟩
        show (pyAll ys).map PyData.list = _
        rw [q2] <;> rfl
      · cases e
    · cases e
  · cases e
theorem opr_in {k : Nat} (hr : Room k X.A) : OpR X (compareOp .In) (fun x y H Q => (∃ i j, x = .str i ∧ y = .str j ∧ Q (.bl (!(Builtin.Str.occurrences j i 0 j.length 1).isEmpty)) H) ∨ rInD X.K x y H Q) := op_in_str.or (op_inD (by have := hr.un; omega))
theorem opr_notIn {k : Nat} (hr : Room k X.A) : OpR X (compareOp .NotIn) (fun x y H Q => (∃ i j, x = .str i ∧ y = .str j ∧ Q (.bl (!(!(Builtin.Str.occurrences j i 0 j.length 1).isEmpty))) H) ∨ rNotInD X.K x y H Q) := op_notin_str.or (op_notInD (by have := hr.un; omega))

/-! ### subscripts -/
def dIx : D → D → Option D
  | .lst xs, .int i => atI xs i
  | .tup xs, .int i => atI xs i
  | .str z, .int i => if z.length ≤ sizeLine then (atI z.cps.toList i).map fun c => .str ⟨#[c]⟩ else none
  | _, _ => none
theorem atI_reps {K : PySem.W.Frag} {mg : Str → Option Value} {g : Gh} {vs : List V} {ds : List D} {i : Int} {d : D} (r : Reps K mg g vs ds) (e : atI ds i = some d) : ∃ v, atI vs i = some v ∧ Rep K mg g v d := by
  unfold atI at e ⊢
  rw [r.length]
  cases q : ixN ds.length i with
  | none => rw [q] at e; cases e
  | some j =>
    rw [q] at e
    exact r.get e
theorem op2_ix : Op2 X dIx (rIx X.K) := by
  intro g H S x y a b d Q G ra rb e k
  unfold dIx at e
  split at e
  · cases rb.int
    obtain ⟨p, vs, rfl, hp, rs⟩ := ra.lst G
    obtain ⟨v, h1, h2⟩ := atI_reps rs e
    exact .inl ⟨p, vs, _, v, rfl, rfl, SqL.of hp, h1, k v g H G .refl h2⟩
  · cases rb.int
    obtain ⟨p, vs, rfl, hp, rs⟩ := ra.tup G
    obtain ⟨v, h1, h2⟩ := atI_reps rs e
    exact .inr (.inl ⟨p, vs, _, v, rfl, rfl, SqT.of hp, h1, k v g H G .refl h2⟩)
  · cases ra.str
    cases rb.int
    split at e
    · rename_i z i hz
      cases q : atI z.cps.toList i with
      | none => rw [q] at e; cases e
      | some c =>
        rw [q] at e
        cases e
        exact .inr (.inr ⟨_, _, c, rfl, rfl, hz, q, k _ g H G .refl (.str _)⟩)
    · cases e
  · cases e
section
variable {own : List Nat} {e a b : Expr} {se sa sb : SE} {pos p2 : Pos}
theorem sim_ix (ha : SimR X own a sa) (hb : SimR X own b sb) (hs : PlainIx b) : SimE X own (.Subscript a b pos) (sOp2 dIx sa sb) := pe_weak (pe_ix ix_seq ha hb hs) fun _ _ _ h => two_of op2_ix h
/-- a slice's end -/
abbrev SO := DEnv → M (Option Int)
def tO (X : Cx) (own : List Nat) (so : SO) : TO := fun σ H Q => ∃ g0 H0 ρ g S, EnvOk X.K X.mg g0 H0 own ρ σ g H S ∧ (so ρ S).post fun o S' => ∀ g' H', GOk X.K X.mg g' H' S' → Stp g H g' H' → Q o H'
def SimO (X : Cx) (own : List Nat) (e : Option Expr) (so : SO) : Prop := PO X e (tO X own so)
def sNoPart : SO := fun _ S => .ok none S
def sPart (se : SE) : SO := fun ρ S => (se ρ S).then fun d S' => match d with
  | .int i => .ok (some i) S'
  | _ => .bad
theorem po_weak {o : Option Expr} {t t' : TO} (h : PO X o t) (w : ∀ σ H Q, t' σ H Q → t σ H Q) : PO X o t' := ⟨fun pins s σ H Q I q => h.run pins s σ H Q I (w σ H Q q)⟩
theorem sim_noPart : SimO X own none sNoPart := po_weak po_none fun σ H Q ⟨g0, H0, ρ, g, S, E, q⟩ => q g H E.gok .refl
theorem sim_part (h : SimE X own e se) : SimO X own (some e) (sPart se) := po_weak (po_some h) fun σ H Q ⟨g0, H0, ρ, g, S, E, q⟩ => by
  obtain ⟨o, S', e1, k⟩ := Res.post_ex q
  obtain ⟨d, S1, e2, e1⟩ := Res.then_ex e1
  refine ⟨g0, H0, ρ, g, S, E, ?_⟩
  rw [e2]
  intro v g' H' G s r
  cases d with
  | int i => cases e1; cases r; exact ⟨i, rfl, k g' H' G s⟩
  | _ => cases e1
def cutD (xs : List D) (lo hi : Option Int) : List D := (xs.drop (HT.sIx xs.length 0 lo)).take (HT.sIx xs.length xs.length hi - HT.sIx xs.length 0 lo)
theorem Reps.cut {K : PySem.W.Frag} {mg : Str → Option Value} {g : Gh} {vs : List V} {ds : List D} (r : Reps K mg g vs ds) (lo hi : Option Int) : Reps K mg g (cutV vs lo hi) (cutD ds lo hi) := by
  unfold cutV cutD
  rw [r.length]
  exact (r.drop _).take _
def sSlice (sa : SE) (sl sh : SO) : SE := fun ρ S => (sa ρ S).then fun x S1 => (sl ρ S1).then fun lo S2 => (sh ρ S2).then fun hi S3 => match x with
  | .tup xs => .ok (.tup (cutD xs lo hi)) S3
  | .lst xs => .ok (.lst (cutD xs lo hi)) S3
  | _ => .bad
theorem cut_whole {xs : List D} {lo hi : Option Int} (h : HT.sIx xs.length 0 lo = 0 ∧ HT.sIx xs.length xs.length hi = xs.length) : cutD xs lo hi = xs := by
  unfold cutD
  rw [h.1, h.2]
  simp
variable {lo hi : Option Expr} {sl sh : SO}
theorem sim_slice (ha : SimR X own a sa) (hl : SimO X own lo sl) (hh : SimO X own hi sh) : SimE X own (.Subscript a (.Slice lo hi none p2) pos) (sSlice sa sl sh) :=
  pe_weak (pe_slice (r := fun x lo hi H Q => rSlA X.K x lo hi H Q ∨ rSlL X.K x lo hi H Q) (sl_tupA.or sl_list) ha hl hh) fun σ H Q ⟨g0, H0, ρ, g, S, E, q⟩ => by
    obtain ⟨d, S', e1, k⟩ := Res.post_ex q
    obtain ⟨x, S1, e2, e1⟩ := Res.then_ex e1
    obtain ⟨l, S2, e3, e1⟩ := Res.then_ex e1
    obtain ⟨h, S3, e4, e1⟩ := Res.then_ex e1
    refine ⟨g0, H0, ρ, g, S, E, ?_⟩
    rw [e2]
    intro v g1 H1 G1 s1 r1
    refine ⟨g0, H0, ρ, g1, S1, E.step G1 s1, ?_⟩
    rw [e3]
    intro g2 H2 G2 s2
    refine ⟨g0, H0, ρ, g2, S2, E.step G2 (s1.trans s2), ?_⟩
    rw [e4]
    intro g3 H3 G3 s3
    have r3 := (r1.step s2).step s3
    cases x with
    | tup xs =>
      cases e1
      have f3 := r3.rep (fun _ e => nomatch e)
      obtain ⟨p, vs, rfl, hp, rs⟩ := r3.tup G3
      refine .inl ⟨p, vs, rfl, SqT.of hp, fun z => ?_, fun z l hl => ?_⟩
      · rw [rs.length] at z
        rw [cut_whole z] at k
        exact k _ g3 H3 G3 ((s1.trans s2).trans s3) f3
      · exact k _ _ _ (G3.add hl) (((s1.trans s2).trans s3).trans (stp_add G3 hl)) (.newT G3 hl (rs.cut _ _))
    | lst xs =>
      cases e1
      obtain ⟨p, vs, rfl, hp, rs⟩ := r3.lst G3
      refine .inr ⟨p, vs, rfl, SqL.of hp, fun l hl => ?_⟩
      exact k _ _ _ (G3.add hl) (((s1.trans s2).trans s3).trans (stp_add G3 hl)) (.newL G3 hl (rs.cut _ _))
    | _ => cases e1
end

/-! ### arguments, displays -/
section
variable {own : List Nat} {e : Expr} {es : List Expr} {se : SE} {pos : Pos}
def sArgs : List (Bool × SE) → DEnv → M (List D)
  | [], _ => fun S => .ok [] S
  | (star, a) :: as, ρ => fun S => (a ρ S).then fun d S1 => (match star, d with
    | false, d => some [d]
    | true, .tup xs => some xs
    | true, .lst xs => some xs
    | _, _ => none : Option (List D)).elim .bad fun xs => (sArgs as ρ S1).then fun ds S2 => .ok (xs ++ ds) S2
def tA (X : Cx) (own : List Nat) (sa : List (Bool × SE)) : TA := fun σ H Q => ∃ g0 H0 ρ g S, EnvOk X.K X.mg g0 H0 own ρ σ g H S ∧ (sArgs sa ρ S).post fun ds S' => ∀ vs g' H', GOk X.K X.mg g' H' S' → Stp g H g' H' → Reps X.K X.mg g' vs ds → Q vs H'
def tAR (X : Cx) (own : List Nat) (sa : List (Bool × SE)) : TA := fun σ H Q => ∃ g0 H0 ρ g S, EnvOk X.K X.mg g0 H0 own ρ σ g H S ∧ (sArgs sa ρ S).post fun ds S' => ∀ vs g' H', GOk X.K X.mg g' H' S' → Stp g H g' H' → RepRs X.K X.mg g' H' vs ds → Q vs H'
def SimA (X : Cx) (own : List Nat) (es : List Expr) (sa : List (Bool × SE)) : Prop := PA X es (tA X own sa)
def SimAR (X : Cx) (own : List Nat) (es : List Expr) (sa : List (Bool × SE)) : Prop := PA X es (tAR X own sa)
theorem pa_weak {es : List Expr} {t t' : TA} (h : PA X es t) (w : ∀ σ H Q, t' σ H Q → t σ H Q) : PA X es t' := ⟨fun pos pins s σ H Q I q => h.run pos pins s σ H Q I (w σ H Q q)⟩
variable {sas : List (Bool × SE)}
theorem sima_nil : SimA X own [] [] := pa_weak pa_nil fun σ H Q ⟨g0, H0, ρ, g, S, E, q⟩ => q [] g H E.gok .refl .nil
theorem sima_cons (h : SimE X own e se) (hr : SimA X own es sas) (hs : starEach (e :: es) X.env = (false, eval e X.env) :: starEach es X.env := by rfl) : SimA X own (e :: es) ((false, se) :: sas) := pa_weak (pa_cons h hr hs) fun σ H Q ⟨g0, H0, ρ, g, S, E, q⟩ => by
  obtain ⟨ds, S', e1, k⟩ := Res.post_ex q
  obtain ⟨d, S1, e2, e1⟩ := Res.then_ex e1
  obtain ⟨es', S2, e3, e1⟩ := Res.then_ex e1
  cases e1
  refine ⟨g0, H0, ρ, g, S, E, ?_⟩
  rw [e2]
  intro v g1 H1 G1 s1 r1
  refine ⟨g0, H0, ρ, g1, S1, E.step G1 s1, ?_⟩
  rw [e3]
  intro vs g2 H2 G2 s2 r2
  exact k (v :: vs) g2 H2 G2 (s1.trans s2) (.cons (r1.mono s2.le) r2)
theorem sima_star {sp : Pos} (h : SimR X own e se) (hr : SimA X own es sas) (hs : starEach (.Starred e sp :: es) X.env = (true, eval e X.env) :: starEach es X.env := by rfl) : SimA X own (.Starred e sp :: es) ((true, se) :: sas) := pa_weak (StX.pa_star h hr hs) fun σ H Q ⟨g0, H0, ρ, g, S, E, q⟩ => by
  obtain ⟨ds, S', e1, k⟩ := Res.post_ex q
  obtain ⟨d, S1, e2, e1⟩ := Res.then_ex e1
  refine ⟨g0, H0, ρ, g, S, E, ?_⟩
  rw [e2]
  intro v g1 H1 G1 s1 r1
  cases d with
  | tup xs =>
    obtain ⟨es', S2, e3, e1⟩ := Res.then_ex e1
    cases e1
    obtain ⟨p, vs, rfl, hp, rs⟩ := r1.tup G1
    refine ⟨p, vs, rfl, .inl (SqT.of hp), ?_⟩
    refine ⟨g0, H0, ρ, g1, S1, E.step G1 s1, ?_⟩
    rw [e3]
    intro ws g2 H2 G2 s2 r2
    exact k (vs ++ ws) g2 H2 G2 (s1.trans s2) ((rs.mono s2.le).append r2)
  | lst xs =>
    obtain ⟨es', S2, e3, e1⟩ := Res.then_ex e1
    cases e1
    obtain ⟨p, vs, rfl, hp, rs⟩ := r1.lst G1
    refine ⟨p, vs, rfl, .inr (SqL.of hp), ?_⟩
    refine ⟨g0, H0, ρ, g1, S1, E.step G1 s1, ?_⟩
    rw [e3]
    intro ws g2 H2 G2 s2 r2
    exact k (vs ++ ws) g2 H2 G2 (s1.trans s2) ((rs.mono s2.le).append r2)
  | _ => cases e1
theorem RepRs.step {g g' : Gh} {H H' : Hp} {vs : List V} {ds : List D} (r : RepRs X.K X.mg g H vs ds) (s : Stp g H g' H') : RepRs X.K X.mg g' H' vs ds := by
  induction r with
  | nil => exact .nil
  | cons h _ ih => exact .cons (h.step s) ih
theorem simr_nil : SimAR X own [] [] := pa_weak pa_nil fun σ H Q ⟨g0, H0, ρ, g, S, E, q⟩ => q [] g H E.gok .refl .nil
theorem simr_cons (h : SimR X own e se) (hr : SimAR X own es sas) (hs : starEach (e :: es) X.env = (false, eval e X.env) :: starEach es X.env := by rfl) : SimAR X own (e :: es) ((false, se) :: sas) := pa_weak (pa_cons h hr hs) fun σ H Q ⟨g0, H0, ρ, g, S, E, q⟩ => by
  obtain ⟨ds, S', e1, k⟩ := Res.post_ex q
  obtain ⟨d, S1, e2, e1⟩ := Res.then_ex e1
  obtain ⟨es', S2, e3, e1⟩ := Res.then_ex e1
  cases e1
  refine ⟨g0, H0, ρ, g, S, E, ?_⟩
  rw [e2]
  intro v g1 H1 G1 s1 r1
  refine ⟨g0, H0, ρ, g1, S1, E.step G1 s1, ?_⟩
  rw [e3]
  intro vs g2 H2 G2 s2 r2
  exact k (v :: vs) g2 H2 G2 (s1.trans s2) (.cons (r1.step s2) r2)
def sTup (sas : List (Bool × SE)) : SE := fun ρ S => (sArgs sas ρ S).then fun ds S' => if ds.length ≤ sizeLine then .ok (.tup ds) S' else .bad
def sLst (sas : List (Bool × SE)) : SE := fun ρ S => (sArgs sas ρ S).then fun ds S' => if ds.length ≤ sizeLine then .ok (.lst ds) S' else .bad
theorem sim_tup {x1} (h : SimA X own es sas) : SimE X own (.Tuple es x1 pos) (sTup sas) := pe_weak (pe_tup h) fun σ H Q ⟨g0, H0, ρ, g, S, E, q⟩ => by
  obtain ⟨d, S', e1, k⟩ := Res.post_ex q
  obtain ⟨ds, S1, e2, e1⟩ := Res.then_ex e1
  split at e1
  · cases e1
    refine ⟨g0, H0, ρ, g, S, E, ?_⟩
    rw [e2]
    intro vs g1 H1 G1 s1 r1
    exact ⟨by rw [r1.length]; assumption, fun p hp => k _ _ _ (G1.add hp) (s1.trans (stp_add G1 hp)) (.newT G1 hp r1)⟩
  · cases e1
theorem sLst_lst {ρ : DEnv} {S S' : Sto} {d : D} (e : sLst sas ρ S = .ok d S') : ∃ ds, d = .lst ds := by
  obtain ⟨ds, S1, _, e1⟩ := Res.then_ex e
  split at e1
  · cases e1; exact ⟨ds, rfl⟩
  · cases e1
/-- from a rule for a new list: its end -/
theorem fresh_end {g g1 : Gh} {H H1 : Hp} {S1 : Sto} {p : Addr} {vs : List V} {ds : List D} (G1 : GOk X.K X.mg g1 H1 S1) (s1 : Stp g H g1 H1) (hp : H1 p = none) (r1 : Reps X.K X.mg g1 vs ds) {Q : VK}
    (k : ∀ p vs g' H', GOk X.K X.mg g' H' S1 → Stp g H g' H' → H' p = some (.lst vs) → g'.F p = none → p ∉ g'.as → H p = none → Reps X.K X.mg g' vs ds → Q (.ref p) H') : Q (.ref p) (upd H1 p (.lst vs)) := by
  refine k p vs g1 _ (G1.fresh hp) (s1.trans (stp_fresh hp)) upd_same (G1.nfree hp) (G1.notin hp) ?_ r1
  cases q : H p with
  | none => rfl
  | some o => exact absurd hp (s1.there p (by rw [q]; exact fun z => nomatch z))
theorem sim_lst (h : SimA X own es sas) : SimF X own (.List es pos) (sLst sas) := pe_weak (pe_lst h) fun σ H Q ⟨g0, H0, ρ, g, S, E, q⟩ => by
  obtain ⟨d, S', e1, k⟩ := Res.post_ex q
  obtain ⟨ds, S1, e2, e1⟩ := Res.then_ex e1
  split at e1
  · cases e1
    obtain ⟨ds', e, k⟩ := k
    cases e
    refine ⟨g0, H0, ρ, g, S, E, ?_⟩
    rw [e2]
    intro vs g1 H1 G1 s1 r1
    exact ⟨by rw [r1.length]; assumption, fun p hp => fresh_end G1 s1 hp r1 k⟩
  · cases e1
end
end
end Ev
namespace Ev
open PySem PySem.Spec PyProof.Rows L2
/-! ### calls of built-ins -/
def sCallN (f : List D → Option D) (sas : List (Bool × SE)) : SE := fun ρ S => (sArgs sas ρ S).then fun ds S' => optR (f ds) S'
def OpN (X : Cx) (f : List D → Option D) (r : List V → Hp → VK → Prop) : Prop := ∀ (g : Gh) (H : Hp) (S : Sto) (xs : List V) (ds : List D) (d : D) (Q : VK), GOk X.K X.mg g H S → RepRs X.K X.mg g H xs ds → f ds = some d →
  (∀ v g' H', GOk X.K X.mg g' H' S → Stp g H g' H' → Rep X.K X.mg g' v d → Q v H') → r xs H Q
/-- .. that give a new list -/
def OpF (X : Cx) (f : List D → Option D) (r : List V → Hp → VK → Prop) : Prop := ∀ (g : Gh) (H : Hp) (S : Sto) (xs : List V) (ds : List D) (d : D) (Q : VK), GOk X.K X.mg g H S → RepRs X.K X.mg g H xs ds → f ds = some d →
  ∃ es, d = .lst es ∧ ((∀ p vs, H p = none → Reps X.K X.mg g vs es → Q (.ref p) (upd H p (.lst vs))) → r xs H Q)
section
variable {X : Cx} {own : List Nat} {e : Expr} {es : List Expr} {se : SE} {sas : List (Bool × SE)} {pos p : Pos} {x : Str} {f : List D → Option D} {r : List V → Hp → VK → Prop}
theorem callN_of (hf : OpN X f r) {σ : L2.St} {H : Hp} {Q : VK} (h : tE X own (sCallN f sas) σ H Q) : tCB r (tAR X own sas) σ H Q := by
  obtain ⟨g0, H0, ρ, g, S, E, q⟩ := h
  obtain ⟨d, S', e1, k⟩ := Res.post_ex q
  obtain ⟨ds, S1, e2, e1⟩ := Res.then_ex e1
  obtain ⟨e3, eS⟩ := optR_ex e1
  subst eS
  refine ⟨g0, H0, ρ, g, S, E, ?_⟩
  rw [e2]
  intro vs g1 H1 G1 s1 r1
  exact hf g1 H1 S1 vs ds d Q G1 r1 e3 fun v g2 H2 G2 s2 r2 => k v g2 H2 G2 (s1.trans s2) r2
theorem callF_of (hf : OpF X f r) {σ : L2.St} {H : Hp} {Q : VK} (h : tF X own (sCallN f sas) σ H Q) : tCB r (tAR X own sas) σ H Q := by
  obtain ⟨g0, H0, ρ, g, S, E, q⟩ := h
  obtain ⟨d, S', e1, k⟩ := Res.post_ex q
  obtain ⟨ds, S1, e2, e1⟩ := Res.then_ex e1
  obtain ⟨e3, eS⟩ := optR_ex e1
  subst eS
  refine ⟨g0, H0, ρ, g, S, E, ?_⟩
  rw [e2]
  intro vs g1 H1 G1 s1 r1
  obtain ⟨es, ed, kr⟩ := hf g1 H1 S1 vs ds d Q G1 r1 e3
  obtain ⟨es', ed', k⟩ := k
  rw [ed] at ed'
  cases ed'
  exact kr fun p vs hp rs => fresh_end G1 s1 hp rs k
theorem sim_callB {id : String} (hc : CallR X (.builtin id) r) (hf : OpN X f r) (hg : Gl X x) (hm : X.mg x = none) (hv : bootBuiltins x = some (.builtin id)) (ha : SimAR X own (e :: es) sas) (hn : x ≠ "__name__" := by decide) (hdb : (x == ("__debug__" : Str)) = false := by decide)
    (he : starEach (e :: es) X.env = (false, eval e X.env) :: starEach es X.env := by rfl) (hpl : (backTo pos (starEach es X.env)).any (·.1) = false := by rfl) : SimE X own (.Call (.Name x p) (e :: es) [] pos) (sCallN f sas) :=
  pe_weak (pe_callB hc hg hm hv ha hn hdb he hpl) fun _ _ _ h => callN_of hf h
theorem sim_callTy {id : String} (hc : CallR X (.type id) r) (hf : OpN X f r) (hg : Gl X x) (hm : X.mg x = none) (hv : bootBuiltins x = some (.type id)) (ha : SimAR X own (e :: es) sas) (hn : x ≠ "__name__" := by decide) (hdb : (x == ("__debug__" : Str)) = false := by decide)
    (he : starEach (e :: es) X.env = (false, eval e X.env) :: starEach es X.env := by rfl) (hpl : (backTo pos (starEach es X.env)).any (·.1) = false := by rfl) : SimE X own (.Call (.Name x p) (e :: es) [] pos) (sCallN f sas) :=
  pe_weak (pe_callTy hc hg hm hv ha hn hdb he hpl) fun _ _ _ h => callN_of hf h
theorem simf_callB {id : String} (hc : CallR X (.builtin id) r) (hf : OpF X f r) (hg : Gl X x) (hm : X.mg x = none) (hv : bootBuiltins x = some (.builtin id)) (ha : SimAR X own (e :: es) sas) (hn : x ≠ "__name__" := by decide) (hdb : (x == ("__debug__" : Str)) = false := by decide)
    (he : starEach (e :: es) X.env = (false, eval e X.env) :: starEach es X.env := by rfl) (hpl : (backTo pos (starEach es X.env)).any (·.1) = false := by rfl) : SimF X own (.Call (.Name x p) (e :: es) [] pos) (sCallN f sas) :=
  pe_weak (pe_callB hc hg hm hv ha hn hdb he hpl) fun _ _ _ h => callF_of hf h
theorem simf_callTy {id : String} (hc : CallR X (.type id) r) (hf : OpF X f r) (hg : Gl X x) (hm : X.mg x = none) (hv : bootBuiltins x = some (.type id)) (ha : SimAR X own (e :: es) sas) (hn : x ≠ "__name__" := by decide) (hdb : (x == ("__debug__" : Str)) = false := by decide)
    (he : starEach (e :: es) X.env = (false, eval e X.env) :: starEach es X.env := by rfl) (hpl : (backTo pos (starEach es X.env)).any (·.1) = false := by rfl) : SimF X own (.Call (.Name x p) (e :: es) [] pos) (sCallN f sas) :=
  pe_weak (pe_callTy hc hg hm hv ha hn hdb he hpl) fun _ _ _ h => callF_of hf h
end
section
variable {X : Cx}
theorem rr1 {g : Gh} {H : Hp} {xs : List V} {a : D} (r : RepRs X.K X.mg g H xs [a]) : ∃ x, xs = [x] ∧ RepR X.K X.mg g H x a := by
  cases r with
  | cons h r => cases r; exact ⟨_, rfl, h⟩
theorem rr2 {g : Gh} {H : Hp} {xs : List V} {a b : D} (r : RepRs X.K X.mg g H xs [a, b]) : ∃ x y, xs = [x, y] ∧ RepR X.K X.mg g H x a ∧ RepR X.K X.mg g H y b := by
  cases r with
  | cons h r => cases r with
    | cons h2 r => cases r; exact ⟨_, _, rfl, h, h2⟩
def dLen : List D → Option D
  | [.str x] => if x.length ≤ sizeLine then some (.int x.length) else none
  | [.tup xs] => some (.int xs.length)
  | [.lst xs] => some (.int xs.length)
  | [.scr ns] => some (.int ns.length)
  | _ => none
theorem opN_len : OpN X dLen (fun xs H Q => ∃ x n, xs = [x] ∧ LenV X.K x H n ∧ Q (.int n) H) := by
  intro g H S xs ds d Q G r e k
  unfold dLen at e
  split at e
  · split at e
    · cases e
      obtain ⟨x, rfl, h⟩ := rr1 r
      cases h.str
      exact ⟨_, _, rfl, ⟨by assumption, rfl⟩, k _ g H G .refl (.int _)⟩
    · cases e
  · cases e
    obtain ⟨x, rfl, h⟩ := rr1 r
    obtain ⟨p, vs, rfl, hp, rs⟩ := h.tup G
    exact ⟨_, _, rfl, .inr ⟨vs, SqT.of hp, rs.length.symm⟩, k _ g H G .refl (.int _)⟩
  · cases e
    obtain ⟨x, rfl, h⟩ := rr1 r
    obtain ⟨p, vs, rfl, hp, rs⟩ := h.lst G
    exact ⟨_, _, rfl, .inl ⟨vs, SqL.of hp, rs.length.symm⟩, k _ g H G .refl (.int _)⟩
  · rename_i ns
    cases e
    obtain ⟨x, rfl, h⟩ := rr1 r
    cases h.rep (fun _ e => nomatch e) with
    | scr hs => exact ⟨_, _, rfl, .inl ⟨_, G.sub.seq hs, (List.length_map _).symm⟩, k _ g H G .refl (.int _)⟩
  · cases e
def dIntOf : List D → Option D
  | [.int i] => some (.int i)
  | [.bl b] => some (.int (if b then 1 else 0))
  | _ => none
theorem opN_int : OpN X dIntOf (fun xs H Q => (∃ i, xs = [.int i] ∧ Q (.int i) H) ∨ ∃ k, xs = [.bl k] ∧ Q (.int (if k then 1 else 0)) H) := by
  intro g H S xs ds d Q G r e k
  unfold dIntOf at e
  split at e
  · cases e
    obtain ⟨x, rfl, h⟩ := rr1 r
    cases h.int
    exact .inl ⟨_, rfl, k _ g H G .refl (.int _)⟩
  · cases e
    obtain ⟨x, rfl, h⟩ := rr1 r
    cases h.bl
    exact .inr ⟨_, rfl, k _ g H G .refl (.int _)⟩
  · cases e
def dStrOf : List D → Option D
  | [.int i] => if i.natAbs.log2 < 1920 then some (.str (toString i)) else none
  | _ => none
theorem opN_str : OpN X dStrOf (fun xs H Q => ∃ i, xs = [.int i] ∧ i.natAbs.log2 < 1920 ∧ Q (.str (toString i)) H) := by
  intro g H S xs ds d Q G r e k
  unfold dStrOf at e
  split at e
  · split at e
    · cases e
      obtain ⟨x, rfl, h⟩ := rr1 r
      cases h.int
      exact ⟨_, rfl, by assumption, k _ g H G .refl (.str _)⟩
    · cases e
  · cases e
def dTupOf : List D → Option D
  | [.tup xs] => some (.tup xs)
  | [.lst xs] => some (.tup xs)
  | _ => none
theorem opN_tup : OpN X dTupOf (fun xs H Q => ∃ p ys, xs = [.ref p] ∧ ((SqL X.K H p ys ∧ ∀ l, H l = none → Q (.ref l) (upd H l (.tup ys))) ∨ (SqT X.K H p ys ∧ Q (.ref p) H))) := by
  intro g H S xs ds d Q G r e k
  unfold dTupOf at e
  split at e
  · cases e
    obtain ⟨x, rfl, h⟩ := rr1 r
    have f := h.rep (fun _ e => nomatch e)
    obtain ⟨p, vs, rfl, hp, rs⟩ := h.tup G
    exact ⟨p, vs, rfl, .inr ⟨SqT.of hp, k _ g H G .refl f⟩⟩
  · cases e
    obtain ⟨x, rfl, h⟩ := rr1 r
    obtain ⟨p, vs, rfl, hp, rs⟩ := h.lst G
    exact ⟨p, vs, rfl, .inl ⟨SqL.of hp, fun l hl => k _ _ _ (G.add hl) (stp_add G hl) (.newT G hl rs)⟩⟩
  · cases e
def dLstOf : List D → Option D
  | [.tup xs] => some (.lst xs)
  | [.lst xs] => some (.lst xs)
  | [.scr ns] => some (.lst (ns.map .int))
  | _ => none
theorem reps_ints {K : PySem.W.Frag} {mg : Str → Option Value} {g : Gh} : ∀ ns : List Int, Reps K mg g (ns.map V.int) (ns.map D.int)
  | [] => .nil
  | n :: r => .cons (.int n) (reps_ints r)
theorem opF_lst : OpF X dLstOf (fun xs H Q => ∃ p ys, xs = [.ref p] ∧ (SqL X.K H p ys ∨ SqT X.K H p ys) ∧ ∀ l, H l = none → Q (.ref l) (upd H l (.lst ys))) := by
  intro g H S xs ds d Q G r e
  unfold dLstOf at e
  split at e
  · cases e
    refine ⟨_, rfl, fun k => ?_⟩
    obtain ⟨x, rfl, h⟩ := rr1 r
    obtain ⟨p, vs, rfl, hp, rs⟩ := h.tup G
    exact ⟨p, vs, rfl, .inr (SqT.of hp), fun l hl => k l vs hl rs⟩
  · cases e
    refine ⟨_, rfl, fun k => ?_⟩
    obtain ⟨x, rfl, h⟩ := rr1 r
    obtain ⟨p, vs, rfl, hp, rs⟩ := h.lst G
    exact ⟨p, vs, rfl, .inl (SqL.of hp), fun l hl => k l vs hl rs⟩
  · cases e
    refine ⟨_, rfl, fun k => ?_⟩
    obtain ⟨x, rfl, h⟩ := rr1 r
    cases h.rep (fun _ e => nomatch e) with
    | scr hs => exact ⟨_, _, rfl, .inl (G.sub.seq hs), fun l hl => k l _ hl (reps_ints _)⟩
  · cases e
/-- lists of ints, of truth values -/
def intsD : List D → Option (List Int)
  | [] => some []
  | .int i :: r => (intsD r).map (i :: ·)
  | _ => none
def blsD : List D → Option (List Bool)
  | [] => some []
  | .bl b :: r => (blsD r).map (b :: ·)
  | _ => none
theorem ints_of {K : PySem.W.Frag} {mg : Str → Option Value} {g : Gh} : ∀ {ds : List D} {vs : List V} {ns : List Int}, Reps K mg g vs ds → intsD ds = some ns → vs = ns.map V.int
  | [], _, _, .nil, e => by cases (show some ([] : List Int) = some _ from e); rfl
  | .int i :: ds, _, ns, .cons h r, e => by
    cases h
    have e' : (intsD ds).map (i :: ·) = some ns := e
    cases q : intsD ds with
    | none => rw [q] at e'; cases e'
    | some ms => rw [q] at e'; cases e'; rw [ints_of r q] <;> rfl
  | .non :: _, _, _, _, e => by cases (show (none : Option (List Int)) = some _ from e)
  | .bl _ :: _, _, _, _, e => by cases (show (none : Option (List Int)) = some _ from e)
  | .str _ :: _, _, _, _, e => by cases (show (none : Option (List Int)) = some _ from e)
  | .tup _ :: _, _, _, _, e => by cases (show (none : Option (List Int)) = some _ from e)
  | .lst _ :: _, _, _, _, e => by cases (show (none : Option (List Int)) = some _ from e)
  | .obj _ _ :: _, _, _, _, e => by cases (show (none : Option (List Int)) = some _ from e)
  | .mref _ :: _, _, _, _, e => by cases (show (none : Option (List Int)) = some _ from e)
  | .scr _ :: _, _, _, _, e => by cases (show (none : Option (List Int)) = some _ from e)
theorem bls_of {K : PySem.W.Frag} {mg : Str → Option Value} {g : Gh} : ∀ {ds : List D} {vs : List V} {ns : List Bool}, Reps K mg g vs ds → blsD ds = some ns → vs = ns.map V.bl
  | [], _, _, .nil, e => by cases (show some ([] : List Bool) = some _ from e); rfl
  | .bl i :: ds, _, ns, .cons h r, e => by
    cases h
    have e' : (blsD ds).map (i :: ·) = some ns := e
    cases q : blsD ds with
    | none => rw [q] at e'; cases e'
    | some ms => rw [q] at e'; cases e'; rw [bls_of r q] <;> rfl
  | .non :: _, _, _, _, e => by cases (show (none : Option (List Bool)) = some _ from e)
  | .int _ :: _, _, _, _, e => by cases (show (none : Option (List Bool)) = some _ from e)
  | .str _ :: _, _, _, _, e => by cases (show (none : Option (List Bool)) = some _ from e)
  | .tup _ :: _, _, _, _, e => by cases (show (none : Option (List Bool)) = some _ from e)
  | .lst _ :: _, _, _, _, e => by cases (show (none : Option (List Bool)) = some _ from e)
  | .obj _ _ :: _, _, _, _, e => by cases (show (none : Option (List Bool)) = some _ from e)
  | .mref _ :: _, _, _, _, e => by cases (show (none : Option (List Bool)) = some _ from e)
  | .scr _ :: _, _, _, _, e => by cases (show (none : Option (List Bool)) = some _ from e)
@[simp] theorem intsD_map (ns : List Int) : intsD (ns.map .int) = some ns := by
  induction ns with
  | nil => rfl
  | cons n r ih =>
    show (intsD (r.map .int)).map (n :: ·) = _
    rw [ih] <;> rfl
@[simp] theorem blsD_map (ns : List Bool) : blsD (ns.map .bl) = some ns := by
  induction ns with
  | nil => rfl
  | cons n r ih =>
    show (blsD (r.map .bl)).map (n :: ·) = _
    rw [ih] <;> rfl
def dSum : List D → Option D
  | [.lst xs] => (intsD xs).map fun ns => .int ns.sum
  | _ => none
theorem opN_sum : OpN X dSum (rSum X.K) := by
  intro g H S xs ds d Q G r e k
  unfold dSum at e
  split at e
  · rename_i ys
    cases q : intsD ys with
    | none => rw [q] at e; cases e
    | some ns =>
      rw [q] at e
      cases e
      obtain ⟨x, rfl, h⟩ := rr1 r
      obtain ⟨p, vs, rfl, hp, rs⟩ := h.lst G
      cases ints_of rs q
      exact ⟨p, ns, rfl, SqL.of hp, k _ g H G .refl (.int _)⟩
  · cases e
def dAny : List D → Option D
  | [.lst xs] => (blsD xs).map fun ns => .bl (ns.any id)
  | _ => none
def dAll : List D → Option D
  | [.lst xs] => (blsD xs).map fun ns => .bl (ns.all id)
  | _ => none
theorem opN_any : OpN X dAny (rAny X.K) := by
  intro g H S xs ds d Q G r e k
  unfold dAny at e
  split at e
  · rename_i ys
    cases q : blsD ys with
    | none => rw [q] at e; cases e
    | some ns =>
      rw [q] at e
      cases e
      obtain ⟨x, rfl, h⟩ := rr1 r
      obtain ⟨p, vs, rfl, hp, rs⟩ := h.lst G
      cases bls_of rs q
      exact ⟨p, ns, rfl, SqL.of hp, k _ g H G .refl (.bl _)⟩
  · cases e
theorem opN_all : OpN X dAll (rAll X.K) := by
  intro g H S xs ds d Q G r e k
  unfold dAll at e
  split at e
  · rename_i ys
    cases q : blsD ys with
    | none => rw [q] at e; cases e
    | some ns =>
      rw [q] at e
      cases e
      obtain ⟨x, rfl, h⟩ := rr1 r
      obtain ⟨p, vs, rfl, hp, rs⟩ := h.lst G
      cases bls_of rs q
      exact ⟨p, ns, rfl, SqL.of hp, k _ g H G .refl (.bl _)⟩
  · cases e
def maxI : List Int → Int
  | [] => 0
  | [x] => x
  | x :: y :: r => maxI ((if y > x then y else x) :: r)
termination_by l => l.length
def minI : List Int → Int
  | [] => 0
  | [x] => x
  | x :: y :: r => minI ((if y < x then y else x) :: r)
termination_by l => l.length
theorem maxI_spec : ∀ (l : List Int), l ≠ [] → maxI l ∈ l ∧ ∀ y ∈ l, y ≤ maxI l
  | [], h => absurd rfl h
  | [x], _ => by unfold maxI; simp
  | x :: y :: r, _ => by
    unfold maxI
    obtain ⟨h1, h2⟩ := maxI_spec ((if y > x then y else x) :: r) (by simp)
    have hm := h2 _ List.mem_cons_self
    refine ⟨?_, fun z hz => ?_⟩
    · rcases List.mem_cons.mp h1 with e | e
      · rw [e]
        split <;> simp
      · simp [e]
    · rcases List.mem_cons.mp hz with rfl | hz
      · refine Int.le_trans ?_ hm
        split <;> omega
      · rcases List.mem_cons.mp hz with rfl | hz
        · refine Int.le_trans ?_ hm
          split <;> omega
        · exact h2 z (List.mem_cons_of_mem _ hz)
termination_by l => l.length
theorem minI_spec : ∀ (l : List Int), l ≠ [] → minI l ∈ l ∧ ∀ y ∈ l, minI l ≤ y
  | [], h => absurd rfl h
  | [x], _ => by unfold minI; simp
  | x :: y :: r, _ => by
    unfold minI
    obtain ⟨h1, h2⟩ := minI_spec ((if y < x then y else x) :: r) (by simp)
    have hm := h2 _ List.mem_cons_self
    refine ⟨?_, fun z hz => ?_⟩
    · rcases List.mem_cons.mp h1 with e | e
      · rw [e]
        split <;> simp
      · simp [e]
    · rcases List.mem_cons.mp hz with rfl | hz
      · refine Int.le_trans hm ?_
        split <;> omega
      · rcases List.mem_cons.mp hz with rfl | hz
        · refine Int.le_trans hm ?_
          split <;> omega
        · exact h2 z (List.mem_cons_of_mem _ hz)
termination_by l => l.length
def dMax : List D → Option D
  | [.int i, .int j] => some (.int (if j > i then j else i))
  | [.lst xs] => (intsD xs).bind fun ns => if ns.isEmpty then none else some (.int (maxI ns))
  | _ => none
def dMin : List D → Option D
  | [.int i, .int j] => some (.int (if j < i then j else i))
  | [.lst xs] => (intsD xs).bind fun ns => if ns.isEmpty then none else some (.int (minI ns))
  | _ => none
theorem ne_len {α : Type} {l : List α} (h : ¬ l.isEmpty = true) : l ≠ [] ∧ 0 < l.length := by
  cases l with
  | nil => exact absurd rfl h
  | cons a r => exact ⟨by simp, by simp⟩
theorem opN_max : OpN X dMax (fun xs H Q => (∃ i j, xs = [.int i, .int j] ∧ Q (.int (if j > i then j else i)) H) ∨ rMax X.K xs H Q) := by
  intro g H S xs ds d Q G r e k
  unfold dMax at e
  split at e
  · cases e
    obtain ⟨x, y, rfl, h, h2⟩ := rr2 r
    cases h.int
    cases h2.int
    exact .inl ⟨_, _, rfl, k _ g H G .refl (.int _)⟩
  · rename_i ys
    cases q : intsD ys with
    | none => rw [q] at e; cases e
    | some ns =>
      rw [q] at e
      have e' : (if ns.isEmpty then none else some (D.int (maxI ns))) = some d := e
      split at e'
      · cases e'
      · rename_i hne
        cases e'
        obtain ⟨x, rfl, h⟩ := rr1 r
        obtain ⟨p, vs, rfl, hp, rs⟩ := h.lst G
        cases ints_of rs q
        obtain ⟨h1, h2⟩ := ne_len hne
        refine .inr ⟨p, ns, rfl, SqL.of hp, h2, fun m hm hle => ?_⟩
        obtain ⟨z1, z2⟩ := maxI_spec ns h1
        have e3 : m = maxI ns := Int.le_antisymm (z2 m hm) (hle _ z1)
        rw [e3]
        exact k _ g H G .refl (.int _)
  · cases e
theorem opN_min : OpN X dMin (fun xs H Q => (∃ i j, xs = [.int i, .int j] ∧ Q (.int (if j < i then j else i)) H) ∨ rMin X.K xs H Q) := by
  intro g H S xs ds d Q G r e k
  unfold dMin at e
  split at e
  · cases e
    obtain ⟨x, y, rfl, h, h2⟩ := rr2 r
    cases h.int
    cases h2.int
    exact .inl ⟨_, _, rfl, k _ g H G .refl (.int _)⟩
  · rename_i ys
    cases q : intsD ys with
    | none => rw [q] at e; cases e
    | some ns =>
      rw [q] at e
      have e' : (if ns.isEmpty then none else some (D.int (minI ns))) = some d := e
      split at e'
      · cases e'
      · rename_i hne
        cases e'
        obtain ⟨x, rfl, h⟩ := rr1 r
        obtain ⟨p, vs, rfl, hp, rs⟩ := h.lst G
        cases ints_of rs q
        obtain ⟨h1, h2⟩ := ne_len hne
        refine .inr ⟨p, ns, rfl, SqL.of hp, h2, fun m hm hle => ?_⟩
        obtain ⟨z1, z2⟩ := minI_spec ns h1
        have e3 : m = minI ns := Int.le_antisymm (hle _ z1) (z2 m hm)
        rw [e3]
        exact k _ g H G .refl (.int _)
  · cases e
theorem call_maxA (hc : X.calm = true) : CallR X (.builtin "max") (fun xs H Q => (∃ i j, xs = [.int i, .int j] ∧ Q (.int (if j > i then j else i)) H) ∨ rMax X.K xs H Q) := (call_max2 hc).or (cr_max hc)
theorem call_minA (hc : X.calm = true) : CallR X (.builtin "min") (fun xs H Q => (∃ i j, xs = [.int i, .int j] ∧ Q (.int (if j < i then j else i)) H) ∨ rMin X.K xs H Q) := (call_min2 hc).or (cr_min hc)
/-! ### isinstance of built-in types -/
def tyD : D → Option String
  | .non => some "NoneType"
  | .bl _ => some "bool"
  | .int _ => some "int"
  | .str _ => some "str"
  | .tup _ => some "tuple"
  | .lst _ => some "list"
  | _ => none
def isTyS (t T : String) : Bool := t == T || (t == "bool" && T == "int")
def sIsi (Ts : List String) (sa : SE) : SE := fun ρ S => (sa ρ S).then fun d S' => match tyD d with
  | some t => .ok (.bl (Ts.any fun T => isTyS t T)) S'
  | none => .bad
theorem tyx_of {g : Gh} {H : Hp} {S : Sto} {v : V} {d : D} {t : String} (G : GOk X.K X.mg g H S) (r : RepR X.K X.mg g H v d) (e : tyD d = some t) : TyX X.K H v (.type t) := by
  cases d with
  | non => cases r.non; cases e; exact .base .non
  | bl b => cases r.bl; cases e; exact .base (.bl b)
  | int i => cases r.int; cases e; exact .base (.int i)
  | str x => cases r.str; cases e; exact .base (.str x)
  | tup xs =>
    obtain ⟨p, vs, rfl, hp, rs⟩ := r.tup G
    cases e
    exact .base (.tup hp)
  | lst xs =>
    obtain ⟨p, vs, rfl, hp, rs⟩ := r.lst G
    cases e
    exact .base (.lst hp)
  | _ => cases e
/-- the table of answers: seen once, by running -/
def tyNames : List String := ["NoneType", "bool", "int", "str", "tuple", "list"]
theorem ty_mem {d : D} {t : String} (e : tyD d = some t) : t ∈ tyNames := by
  cases d <;> cases e <;> decide
theorem kit_tab : ∀ t ∈ tyNames, ∀ T ∈ (["int", "bool", "str", "tuple", "list"] : List String), kitB t T = some (isTyS t T) := by decide +kernel
def isTypes : List String := ["int", "bool", "str", "tuple", "list"]
theorem kit_any {K : PySem.W.Frag} {t : String} (ht : t ∈ tyNames) : ∀ {Ts : List String}, (∀ T ∈ Ts, T ∈ isTypes) → PySem.W.kitAny K (.type t) (Ts.map Value.type) = some (Ts.any fun T => isTyS t T)
  | [], _ => rfl
  | T :: r, h => by
    have h1 := kit_ty (K := K) (kit_tab t ht T (h T List.mem_cons_self))
    have h2 := kit_any (K := K) ht (Ts := r) fun T hT => h T (List.mem_cons_of_mem _ hT)
    show PySem.W.kitAny K (.type t) (Value.type T :: r.map Value.type) = _
    unfold PySem.W.kitAny
    rw [h1, List.any_cons]
    cases isTyS t T with
    | true => rfl
    | false => simpa using h2
section
variable {own : List Nat} {a : Expr} {sa : SE} {pos p p2 p3 : Pos} {T T2 x1 x2 : Str}
theorem sim_isi {n : String} (hg : Gl X "isinstance") (hm : X.mg "isinstance" = none) (hg2 : Gl X T) (hm2 : X.mg T = none) (hv : bootBuiltins T = some (.type n)) (hT : n ∈ isTypes) (ha : SimR X own a sa) (hn : T ≠ "__name__" := by decide) (hdb : (T == ("__debug__" : Str)) = false := by decide)
    (he : starEach [a, .Name T p2] X.env = (false, eval a X.env) :: starEach [.Name T p2] X.env := by rfl) (hpl : (backTo pos (starEach [.Name T p2] X.env)).any (·.1) = false := by rfl) :
    SimE X own (.Call (.Name "isinstance" p) [a, .Name T p2] [] pos) (sIsi [n] sa) :=
  pe_weak (pe_callB call_isi hg hm (by decide +kernel) (pa_cons ha (pa_cons (pe_bltn (v := .ty n) hg2 hm2 hv rfl hn hdb) pa_nil) he) (by decide) (by decide) he hpl) fun σ H Q ⟨g0, H0, ρ, g, S, E, q⟩ => by
    obtain ⟨d, S', e1, k⟩ := Res.post_ex q
    obtain ⟨x, S1, e2, e1⟩ := Res.then_ex e1
    refine ⟨g0, H0, ρ, g, S, E, ?_⟩
    rw [e2]
    intro v g1 H1 G1 s1 r1
    cases q : tyD x with
    | none => rw [q] at e1; cases e1
    | some t =>
      rw [q] at e1
      have e1' : (Res.ok (.bl ([n].any fun T => isTyS t T)) S1 : Res D) = .ok d S' := e1
      cases e1'
      refine ⟨v, .ty n, .type t, .type n, _, rfl, .ty n, tyx_of G1 r1 q, kit_ty (kit_tab t (ty_mem q) n hT), k _ g1 H1 G1 s1 ?_⟩
      have e : ([n].any fun T => isTyS t T) = isTyS t n := by simp
      rw [e]
      exact .bl _
theorem sim_isi2 {n n2 : String} {x3} (hg : Gl X "isinstance") (hm : X.mg "isinstance" = none) (hg1 : Gl X T) (hm1 : X.mg T = none) (hv1 : bootBuiltins T = some (.type n)) (hT1 : n ∈ isTypes) (hg2 : Gl X T2) (hm2 : X.mg T2 = none) (hv2 : bootBuiltins T2 = some (.type n2)) (hT2 : n2 ∈ isTypes) (ha : SimR X own a sa)
    (hn : T ≠ "__name__" := by decide) (hdb : (T == ("__debug__" : Str)) = false := by decide) (hn2 : T2 ≠ "__name__" := by decide) (hdb2 : (T2 == ("__debug__" : Str)) = false := by decide)
    (he : starEach [a, .Tuple [.Name T p2, .Name T2 p3] x3 pos] X.env = (false, eval a X.env) :: starEach [.Tuple [.Name T p2, .Name T2 p3] x3 pos] X.env := by rfl) {pos2 : Pos} (hpl : (backTo pos2 (starEach [.Tuple [.Name T p2, .Name T2 p3] x3 pos] X.env)).any (·.1) = false := by rfl) :
    SimE X own (.Call (.Name "isinstance" p) [a, .Tuple [.Name T p2, .Name T2 p3] x3 pos] [] pos2) (sIsi [n, n2] sa) :=
  pe_weak (pe_callB call_isiT hg hm (by decide +kernel) (pa_cons ha (pa_cons (pe_tup (pa_cons (pe_bltn (v := .ty n) hg1 hm1 hv1 rfl hn hdb) (pa_cons (pe_bltn (v := .ty n2) hg2 hm2 hv2 rfl hn2 hdb2) pa_nil))) pa_nil) he) (by decide) (by decide) he hpl) fun σ H Q ⟨g0, H0, ρ, g, S, E, q⟩ => by
    obtain ⟨d, S', e1, k⟩ := Res.post_ex q
    obtain ⟨x, S1, e2, e1⟩ := Res.then_ex e1
    refine ⟨g0, H0, ρ, g, S, E, ?_⟩
    rw [e2]
    intro v g1 H1 G1 s1 r1
    refine ⟨by show 2 ≤ sizeLine; decide, fun l hl => ?_⟩
    cases q : tyD x with
    | none => rw [q] at e1; cases e1
    | some t =>
      rw [q] at e1
      have e1' : (Res.ok (.bl ([n, n2].any fun T => isTyS t T)) S1 : Res D) = .ok d S' := e1
      cases e1'
      have r2 := r1.step (stp_fresh (o := .tup [.ty n, .ty n2]) hl)
      have G2 := G1.fresh (o := .tup [.ty n, .ty n2]) hl
      refine ⟨v, l, [.ty n, .ty n2], .type t, [.type n, .type n2], _, rfl, upd_same, .cons (.ty n) (.cons (.ty n2) .nil), tyx_of G2 r2 q, kit_any (Ts := [n, n2]) (ty_mem q) (fun T hT => ?_), k _ g1 _ G2 (s1.trans (stp_fresh hl)) (.bl _)⟩
      rcases List.mem_cons.mp hT with rfl | hT
      · exact hT1
      · rcases List.mem_cons.mp hT with rfl | hT
        · exact hT2
        · cases hT
end
end
end Ev
namespace Ev
open PySem PySem.Spec PyProof.Rows L2
/-! ### calls of the text's own defs -/
def spOf (K : PySem.W.Frag) (mg : Str → Option Value) (n : Nat) (m : List D → M D) : Sp := fun vs H Q _ => ∃ g ds S, GOk K mg g H S ∧ Reps K mg g vs ds ∧ ds.length = n ∧ (m ds S).post fun d S' => ∀ v g' H', GOk K mg g' H' S' → Stp g H g' H' → Rep K mg g' v d → Q v H'
structure GF (P : Program) (w : World) (K : PySem.W.Frag) (mg : Str → Option Value) (base : Heap) (k : Nat) (x : Str) (n : Nat) (m : List D → M D) : Prop where
  ex : ∃ f fd ps, mg x = some (.ref f) ∧ PySem.W.keepIn K (.ref f) = true ∧ Binds K fd ps [] ∧ FnOk P w K mg base CX0 k f fd ps (spOf K mg n m)
def sCall (m : List D → M D) (sas : List (Bool × SE)) : SE := fun ρ S => (sArgs sas ρ S).then m
theorem sArgs_len : ∀ {sas : List (Bool × SE)} {ρ : DEnv} {S S' : Sto} {ds : List D}, (sas.all fun a => !a.1) = true → sArgs sas ρ S = .ok ds S' → ds.length = sas.length
  | [], _, _, _, _, _, e => by cases e; rfl
  | (true, _) :: _, _, _, _, _, h, _ => by simp at h
  | (false, a) :: as, ρ, S, S', ds, h, e => by
    obtain ⟨d, S1, _, e1⟩ := Res.then_ex e
    obtain ⟨es, S2, e3, e1⟩ := Res.then_ex (r := sArgs as ρ S1) (k := fun ds S2 => Res.ok ([d] ++ ds) S2) e1
    cases e1
    have := sArgs_len (sas := as) (by simpa using h) e3
    simp [this]
section
variable {X : Cx} {own : List Nat} {e : Expr} {es : List Expr} {se : SE} {sas : List (Bool × SE)} {pos p : Pos} {x : Str} {m : List D → M D} {n k : Nat}
theorem sim_call (F : GF X.prog X.w X.K X.mg X.base k x n m) (hr : Room k X.A) (hg : Gl X x) (ha : SimA X own (e :: es) sas) (hn : sas.length = n := by rfl) (hst : (sas.all fun a => !a.1) = true := by rfl) (hdb : (x == ("__debug__" : Str)) = false := by decide)
    (he : starEach (e :: es) X.env = (false, eval e X.env) :: starEach es X.env := by rfl) (hpl : (backTo pos (starEach es X.env)).any (·.1) = false := by rfl) : SimE X own (.Call (.Name x p) (e :: es) [] pos) (sCall m sas) := by
  obtain ⟨f, fd, ps, hm, hk, hb, F⟩ := F.ex
  refine pe_weak (pe_call F hr hg hm hk hb .nil pass0 ha hdb he hpl) fun σ H Q ⟨g0, H0, ρ, g, S, E, q⟩ => ?_
  obtain ⟨d, S', e1, k⟩ := Res.post_ex q
  obtain ⟨ds, S1, e2, e1⟩ := Res.then_ex e1
  refine ⟨g0, H0, ρ, g, S, E, ?_⟩
  have hl := sArgs_len hst e2
  rw [e2]
  intro vs g1 H1 G1 s1 r1
  rw [List.append_nil]
  refine ⟨g1, ds, S1, G1, r1, by rw [hl, hn], ?_⟩
  rw [e1]
  exact fun v g2 H2 G2 s2 r2 => k v g2 H2 G2 (s1.trans s2) r2
/-! ### fields -/
def sAttr (cs : List Str) (f : Str) (se : SE) : SE := fun ρ S => (se ρ S).then fun d S' => match d with
  | .obj c fs => if c ∈ cs then optR (fs.lookup f) S' else .bad
  | _ => .bad
def AttrOk (K : PySem.W.Frag) (mg : Str → Option Value) (cs : List Str) (f : Str) : Prop := ∀ c ∈ cs, ∀ C, mg c = some (.ref C) → Cls K C ∧ NoAttr K C f
theorem sim_attr {cs : List Str} {f : Str} (h : SimE X own e se) (hA : AttrOk X.K X.mg cs f) (hb : attributeBase e f X.env (eval e X.env) = eval e X.env := by rfl) : SimE X own (.Attribute e f pos) (sAttr cs f se) := pe_weak (pe_fld h hb) fun σ H Q ⟨g0, H0, ρ, g, S, E, q⟩ => by
  obtain ⟨d, S', e1, k⟩ := Res.post_ex q
  obtain ⟨d1, S1, e2, e1⟩ := Res.then_ex e1
  refine ⟨g0, H0, ρ, g, S, E, ?_⟩
  rw [e2]
  intro v g1 H1 G1 s1 r1
  cases d1 with
  | obj c fs =>
    have e1' : (if c ∈ cs then optR (fs.lookup f) S1 else .bad) = Res.ok d S' := e1
    split at e1'
    · rename_i hc
      obtain ⟨e3, eS⟩ := optR_ex e1'
      subst eS
      cases r1 with
      | obj hm h1 h2 rf =>
        obtain ⟨hcl, hna⟩ := hA c hc _ hm
        obtain ⟨v, hv, rv⟩ := rf.look e3
        exact ⟨_, _, _, _, v, rfl, G1.sub _ _ h1, hcl, hna, hv, k v g1 H1 G1 s1 rv⟩
    · cases e1'
  | _ => cases e1
end

/-! ### dicts that change (the pen) -/
def valK (kds : List (Key × D)) (k : Key) : Option D := (kds.find? fun kv => decide (kv.1 = k)).map (·.2)
def putKD (kds : List (Key × D)) (k : Key) (d : D) : List (Key × D) :=
  if (kds.any fun kv => decide (kv.1 = k)) = true then kds.map (fun kv => if kv.1 = k then (kv.1, d) else kv) else kds ++ [(k, d)]
def keyD : D → Option Key
  | .int i => some (.inl i)
  | .str x => some (.inr x)
  | _ => none
section
variable {K : PySem.W.Frag} {mg : Str → Option Value} {g : Gh}
theorem KReps.val : ∀ {vs : List (Key × V)} {ds : List (Key × D)} {k : Key} {d : D}, KReps K mg g vs ds → valK ds k = some d → ∃ v, valV vs k = some v ∧ Rep K mg g v d
  | _, _, _, _, .nil, h => by cases h
  | _, _, k, d, .cons (k := k') (v := v') (vs := vs) (ds := ds) (d := d') r q, h => by
    unfold valK at h
    unfold valV
    simp only [List.find?_cons] at h ⊢
    by_cases e : k' = k
    · simp only [decide_eq_true e, Option.map_some, Option.some.injEq] at h ⊢
      subst h
      exact ⟨_, rfl, r⟩
    · simp only [decide_eq_false e] at h ⊢
      exact KReps.val (ds := ds) q h
theorem KReps.any : ∀ {vs : List (Key × V)} {ds : List (Key × D)} {k : Key}, KReps K mg g vs ds → (vs.any fun kv => decide (kv.1 = k)) = ds.any fun kv => decide (kv.1 = k)
  | _, _, _, .nil => rfl
  | _, _, _, .cons r q => by
    rw [List.any_cons, List.any_cons, KReps.any q]
theorem KReps.len : ∀ {vs : List (Key × V)} {ds : List (Key × D)}, KReps K mg g vs ds → vs.length = ds.length
  | _, _, .nil => rfl
  | _, _, .cons r q => congrArg (· + 1) (KReps.len q)
theorem KReps.map {k : Key} {v : V} {d : D} (r : Rep K mg g v d) : ∀ {vs : List (Key × V)} {ds : List (Key × D)}, KReps K mg g vs ds → KReps K mg g (vs.map fun kv => if kv.1 = k then (kv.1, v) else kv) (ds.map fun kv => if kv.1 = k then (kv.1, d) else kv)
  | _, _, .nil => .nil
  | _, _, .cons (k := k') r' q => by
    rw [List.map_cons, List.map_cons]
    by_cases e : k' = k
    · simp only [if_pos e]
      exact .cons r (KReps.map r q)
    · simp only [if_neg e]
      exact .cons r' (KReps.map r q)
theorem KReps.app {k : Key} {v : V} {d : D} (r : Rep K mg g v d) : ∀ {vs : List (Key × V)} {ds : List (Key × D)}, KReps K mg g vs ds → KReps K mg g (vs ++ [(k, v)]) (ds ++ [(k, d)])
  | _, _, .nil => .cons r .nil
  | _, _, .cons r' q => .cons r' (KReps.app r q)
theorem KReps.put {k : Key} {v : V} {d : D} {vs : List (Key × V)} {ds : List (Key × D)} (r : Rep K mg g v d) (q : KReps K mg g vs ds) : KReps K mg g (putK vs k v) (putKD ds k d) := by
  unfold putK putKD
  rw [KReps.any q]
  split
  · exact q.map r
  · exact q.app r
end
def sGet (so sk : SE) : SE := fun ρ S => (so ρ S).then fun o S1 => (sk ρ S1).then fun k S2 => match o, keyD k with
  | .mref i, some k => optR (S2[i]?.bind fun kds => valK kds k) S2
  | _, _ => .bad
theorem rep_key {K : PySem.W.Frag} {mg : Str → Option Value} {g : Gh} {v : V} {d : D} {k : Key} (r : Rep K mg g v d) (e : keyD d = some k) : v = kV k := by
  cases r with
  | int i => cases e; rfl
  | str x => cases e; rfl
  | _ => cases e
section
variable {X : Cx} {own : List Nat} {o i e : Expr} {so sk sv se : SE} {pos pos' : Pos} {k : Nat}
theorem sim_get (hr : Room k X.A) (ho : SimE X own o so) (hi : SimE X own i sk) (hs : NoSl i := by exact fun _ _ => rfl) : SimE X own (.Subscript o i pos) (sGet so sk) := pe_weak (pe_dget (hu_of hr) ho hi hs) fun σ H Q ⟨g0, H0, ρ, g, S, E, q⟩ => by
  obtain ⟨d, S', e1, k⟩ := Res.post_ex q
  obtain ⟨od, S1, e2, e1⟩ := Res.then_ex e1
  obtain ⟨kd, S2, e3, e1⟩ := Res.then_ex e1
  refine ⟨g0, H0, ρ, g, S, E, ?_⟩
  rw [e2]
  intro v g1 H1 G1 s1 r1
  refine ⟨g0, H0, ρ, g1, S1, E.step G1 s1, ?_⟩
  rw [e3]
  intro v2 g2 H2 G2 s2 r2
  cases od with
  | mref j =>
    cases q3 : keyD kd with
    | none => rw [q3] at e1; cases e1
    | some key =>
      rw [q3] at e1
      obtain ⟨e4, eS⟩ := optR_ex (show optR (S2[j]?.bind fun kds => valK kds key) S2 = Res.ok d S' from e1)
      subst eS
      cases r1.mono s2.le with
      | mref ha =>
        obtain ⟨kvs, kds, h1, h2, h3⟩ := G2.st j _ ha
        rw [h2] at e4
        obtain ⟨v', hv, rv⟩ := h3.val (show valK kds key = some d from e4)
        refine ⟨_, v', rfl, ?_, k v' g2 H2 G2 (s1.trans s2) rv⟩
        rw [rep_key r2 q3, ← hv]
        exact DGet.k h1
  | _ => cases e1
/-- a changing object is written -/
theorem GOk.put {K : PySem.W.Frag} {mg : Str → Option Value} {g : Gh} {H : Hp} {S : Sto} (G : GOk K mg g H S) {j : Nat} {a : Addr} (ha : g.as[j]? = some a) {kvs : List (Key × V)} {kds : List (Key × D)} (r : KReps K mg g kvs kds) : GOk K mg g (upd H a (.dK kvs)) (S.set j kds) := by
  have hj := (List.getElem?_eq_some_iff.mp ha).1
  refine ⟨fun b u e => ?_, G.nd, by rw [List.length_set, G.len], G.nf, fun i b e => ?_⟩
  · rw [upd_ne (fun z : b = a => by
      have := G.nf a (List.mem_of_getElem? ha)
      rw [z, this] at e; cases e)]
    exact G.sub _ _ e
  · by_cases hb : i = j
    · subst hb
      rw [ha] at e; cases e
      exact ⟨kvs, kds, upd_same, by rw [List.getElem?_set_self (by rw [G.len]; exact hj)], r⟩
    · obtain ⟨kv, kd, h1, h2, h3⟩ := G.st i b e
      refine ⟨kv, kd, ?_, by rw [List.getElem?_set_ne (Ne.symm hb)]; exact h2, h3⟩
      rw [upd_ne (fun z : b = a => hb (nd_ix G.nd e (z ▸ ha)))]
      exact h1
theorem stp_put {g : Gh} {H : Hp} {a : Addr} {o : HO} (ha : a ∈ g.as) : Stp g H g (upd H a o) := by
  refine ⟨.refl _, fun b u e n => by rw [upd_ne (fun z : b = a => n (z ▸ ha))]; exact e, fun b e => ?_, fun _ h => .inl h, fun _ h => .inl h⟩
  by_cases hb : b = a
  · subst hb; rw [upd_same]; exact fun z => nomatch z
  · rw [upd_ne hb]; exact e

/-! ### statements -/
inductive Out where
  | nx (ρ : DEnv) | rt (d : D) | bk (ρ : DEnv) | ct (ρ : DEnv)
abbrev SS := DEnv → M Out
def OutOk (X : Cx) (g0 : Gh) (H0 : Hp) (gE : Gh) (own' ob : List Nat) (D : Ends) (S : Sto) : Out → Prop
  | .nx ρ => ∀ σ g H, GLe gE g → EnvOk X.K X.mg g0 H0 own' ρ σ g H S → D.nx σ H
  | .rt d => ∀ v g H, GOk X.K X.mg g H S → Stp g0 H0 g H → Rep X.K X.mg g v d → D.rt v H
  | .bk ρ => ∀ σ g H, GLe gE g → EnvOk X.K X.mg g0 H0 ob ρ σ g H S → D.bk σ H
  | .ct ρ => ∀ σ g H, GLe gE g → EnvOk X.K X.mg g0 H0 ob ρ σ g H S → D.ct σ H
theorem OutOk.mono {X : Cx} {g0 gE gE' : Gh} {H0 : Hp} {own' ob : List Nat} {D : Ends} {S : Sto} {o : Out} (h : OutOk X g0 H0 gE own' ob D S o) (l : GLe gE gE') : OutOk X g0 H0 gE' own' ob D S o := by
  cases o with
  | nx ρ => exact fun σ g H l2 E => h σ g H (l.trans l2) E
  | rt d => exact h
  | bk ρ => exact fun σ g H l2 E => h σ g H (l.trans l2) E
  | ct ρ => exact fun σ g H l2 E => h σ g H (l.trans l2) E
def tS (X : Cx) (own own' ob : List Nat) (ss : SS) : TS := fun D σ H => ∃ g0 H0 ρ g S, EnvOk X.K X.mg g0 H0 own ρ σ g H S ∧ (ss ρ S).post fun o S' => OutOk X g0 H0 g own' ob D S' o
def SimS (X : Cx) (own own' ob : List Nat) (st : Stmt) (ss : SS) : Prop := PS X st (tS X own own' ob ss)
def SimB (X : Cx) (own own' ob : List Nat) (st : List Stmt) (ss : SS) : Prop := PSs X st (tS X own own' ob ss)
theorem ps_weak {st : Stmt} {t t' : TS} (h : PS X st t) (w : ∀ D σ H, t' D σ H → t D σ H) : PS X st t' := ⟨fun pins s σ H D I q => h.run pins s σ H D I (w D σ H q)⟩
theorem pss_weak {st : List Stmt} {t t' : TS} (h : PSs X st t) (w : ∀ D σ H, t' D σ H → t D σ H) : PSs X st t' := ⟨fun pins s σ H D I q => h.run pins s σ H D I (w D σ H q)⟩
def sNext : SS := fun ρ S => .ok (.nx ρ) S
def sSeq (s t : SS) : SS := fun ρ S => (s ρ S).then fun o S' => match o with
  | .nx ρ' => t ρ' S'
  | o => .ok o S'
def sBad : SS := fun _ _ => .bad
variable {own1 own' own2 ob : List Nat} {st : Stmt} {sts : List Stmt} {ss tt uu : SS}
theorem simb_nil : SimB X own own ob [] sNext := pss_weak pss_nil fun D σ H ⟨g0, H0, ρ, g, S, E, q⟩ => q σ g H (.refl _) E
theorem simb_cons (h : SimS X own own1 ob st ss) (h2 : SimB X own1 own' ob sts tt) : SimB X own own' ob (st :: sts) (sSeq ss tt) := pss_weak (pss_cons h h2) fun D σ H ⟨g0, H0, ρ, g, S, E, q⟩ => by
  obtain ⟨o, S', e1, k⟩ := Res.post_ex q
  obtain ⟨o1, S1, e2, e1⟩ := Res.then_ex e1
  refine ⟨g0, H0, ρ, g, S, E, ?_⟩
  rw [e2]
  cases o1 with
  | nx ρ1 =>
    intro σ1 g1 H1 l1 E1
    have e1' : tt ρ1 S1 = .ok o S' := e1
    exact ⟨g0, H0, ρ1, g1, S1, E1, by rw [e1']; exact k.mono l1⟩
  | rt d => cases e1; exact k
  | bk ρ => cases e1; exact k
  | ct ρ => cases e1; exact k
theorem simb_one (h : SimS X own own' ob st ss) : SimB X own own' ob [st] ss := pss_one h
theorem sim_never : SimS X own own' ob st sBad := ps_weak ps_never fun D σ H ⟨g0, H0, ρ, g, S, E, q⟩ => q
theorem simb_never : SimB X own own' ob sts sBad := pss_weak pss_never fun D σ H ⟨g0, H0, ρ, g, S, E, q⟩ => q
theorem sim_pass : SimS X own own ob (.Pass pos) sNext := ps_weak ps_pass fun D σ H ⟨g0, H0, ρ, g, S, E, q⟩ => q σ g H (.refl _) E
def sBreak : SS := fun ρ S => .ok (.bk ρ) S
def sCont : SS := fun ρ S => .ok (.ct ρ) S
theorem sim_break : SimS X own own' own (.Break pos) sBreak := ps_weak ps_break fun D σ H ⟨g0, H0, ρ, g, S, E, q⟩ => q σ g H (.refl _) E
theorem sim_continue : SimS X own own' own (.Continue pos) sCont := ps_weak ps_continue fun D σ H ⟨g0, H0, ρ, g, S, E, q⟩ => q σ g H (.refl _) E
def sRet (se : SE) : SS := fun ρ S => (se ρ S).then fun d S' => .ok (.rt d) S'
theorem sim_ret (h : SimE X own e se) : SimS X own own' ob (.Return (some e) pos) (sRet se) := ps_weak (ps_ret h) fun D σ H ⟨g0, H0, ρ, g, S, E, q⟩ => by
  obtain ⟨o, S', e1, k⟩ := Res.post_ex q
  obtain ⟨d, S1, e2, e1⟩ := Res.then_ex e1
  cases e1
  refine ⟨g0, H0, ρ, g, S, E, ?_⟩
  rw [e2]
  exact fun v g1 H1 G1 s1 r1 => k v g1 H1 G1 (E.stp.trans s1) r1
def sRetN : SS := fun _ S => .ok (.rt .non) S
theorem sim_retN : SimS X own own' ob (.Return none pos) sRetN := ps_weak ps_retN fun D σ H ⟨g0, H0, ρ, g, S, E, q⟩ => q _ g H E.gok E.stp .non
def sDrop (se : SE) : SS := fun ρ S => (se ρ S).then fun _ S' => .ok (.nx ρ) S'
theorem sim_expr (h : SimE X own e se) (hs : swapsWith e none pos.line X.env = pure false := by rfl) : SimS X own own ob (.Expr e pos) (sDrop se) := ps_weak (ps_expr h hs) fun D σ H ⟨g0, H0, ρ, g, S, E, q⟩ => by
  obtain ⟨o, S', e1, k⟩ := Res.post_ex q
  obtain ⟨d, S1, e2, e1⟩ := Res.then_ex e1
  cases e1
  refine ⟨g0, H0, ρ, g, S, E, ?_⟩
  rw [e2]
  exact fun v g1 H1 G1 s1 r1 => k σ g1 H1 s1.le (E.step G1 s1)
def sIfS (sb : SB) (s t : SS) : SS := fun ρ S => (sb ρ S).then fun b S' => if b then s ρ S' else t ρ S'
theorem sim_ifS {c : Expr} {sb : SB} {a b : List Stmt} (hc : SimT X own c sb) (ha : SimB X own own' ob a ss) (hb : SimB X own own' ob b tt) : SimS X own own' ob (.If c a b pos) (sIfS sb ss tt) := ps_weak (ps_if hc ha hb) fun D σ H ⟨g0, H0, ρ, g, S, E, q⟩ => by
  obtain ⟨o, S', e1, k⟩ := Res.post_ex q
  obtain ⟨b, S1, e2, e1⟩ := Res.then_ex e1
  refine ⟨g0, H0, ρ, g, S, E, ?_⟩
  rw [e2]
  intro g1 H1 G1 s1
  cases b with
  | true =>
    rw [if_pos rfl]
    have e1' : ss ρ S1 = .ok o S' := e1
    exact ⟨g0, H0, ρ, g1, S1, E.step G1 s1, by rw [e1']; exact k.mono s1.le⟩
  | false =>
    rw [if_neg Bool.false_ne_true]
    have e1' : tt ρ S1 = .ok o S' := e1
    exact ⟨g0, H0, ρ, g1, S1, E.step G1 s1, by rw [e1']; exact k.mono s1.le⟩
end

/-! ### what is owned, given up -/
section
variable {K : PySem.W.Frag} {mg : Str → Option Value} {g0 g : Gh} {H0 H : Hp} {S : Sto} {own own' : List Nat} {ρ : DEnv} {σ : L2.St}
theorem EnvOk.congr (E : EnvOk K mg g0 H0 own ρ σ g H S) (h : ∀ i, i ∈ own' ↔ i ∈ own) : EnvOk K mg g0 H0 own' ρ σ g H S :=
  ⟨E.gok, E.stp, E.len, fun i d e n => E.fro i d e fun z => n ((h i).mpr z), fun i hi => E.ow i ((h i).mp hi), fun i hi j hj => E.dis i ((h i).mp hi) j ((h j).mp hj)⟩
theorem own_apart {p q : Addr} {d d' : D} (hp : Owned K mg g H H0 p d) (hq : Owned K mg g H H0 q d') (ne : q ≠ p) {o : HO} (ho : H p = some o) : Owned K mg (g.add p o) H H0 q d' := by
  obtain ⟨a1, a2, a3, a4⟩ := hp
  obtain ⟨b1, b2, b3, b4⟩ := hq
  have le := gle_add (g := g) (p := p) (o := o) a1
  refine ⟨by show upd g.F p o q = none; rw [upd_ne ne]; exact b1, b2, b3, ?_⟩
  rcases b4 with ⟨vs, ds, e, h, r⟩ | ⟨C, dx, c, fvs, fs, e, hm, h, hd, f1, f2, f3, r⟩
  · exact .inl ⟨vs, ds, e, h, r.mono le⟩
  · refine .inr ⟨C, dx, c, fvs, fs, e, hm, h, hd, ?_, f2, f3, r.mono le⟩
    show upd g.F p o dx = none
    by_cases z : dx = p
    · subst z
      -- the instance's dict is no list and no instance
      rcases a4 with ⟨vs, ds, _, h', _⟩ | ⟨_, _, _, _, _, _, _, h', _⟩
      · rw [hd] at h'; cases h'
      · rw [hd] at h'; cases h'
    · rw [upd_ne z]; exact f1
theorem EnvOk.drop (E : EnvOk K mg g0 H0 own ρ σ g H S) (i : Nat) : ∃ g', GLe g g' ∧ EnvOk K mg g0 H0 (own.filter fun j => decide (j ≠ i)) ρ σ g' H S := by
  by_cases hi : i ∈ own
  · obtain ⟨p, d, h1, h2, hO⟩ := E.ow i hi
    have hO' := hO
    obtain ⟨a1, a2, a3, a4⟩ := hO
    have out : ∀ j, j ∉ (own.filter fun j => decide (j ≠ i)) → j = i ∨ j ∉ own := fun j hj => by
      by_cases e : j = i
      · exact .inl e
      · exact .inr fun z => hj (List.mem_filter.mpr ⟨z, decide_eq_true e⟩)
    rcases a4 with ⟨vs, ds, e, h, r⟩ | ⟨C, dx, c, fvs, fs, e, hm, h, hd, f1, f2, f3, r⟩
    · have le := gle_add (g := g) (p := p) (o := .lst vs) a1
      refine ⟨g.add p (.lst vs), le, E.gok.freeze h a1 a2, ⟨E.stp.le.trans le, E.stp.keep, E.stp.there, fun a ha => ?_, E.stp.newA⟩, E.len, fun j d' hj n => ?_, fun j hj => ?_, fun j hj k hk => E.dis j (List.mem_filter.mp hj).1 k (List.mem_filter.mp hk).1⟩
      · by_cases e : a = p
        · subst e; exact .inr a3
        · have ha' : upd g.F p (.lst vs) a ≠ none := ha
          rw [upd_ne e] at ha'
          exact E.stp.newF a ha'
      · rcases out j n with rfl | n'
        · rw [h1] at hj; cases hj
          subst e
          exact ⟨_, h2, .lst (by exact upd_same) (r.mono le)⟩
        · obtain ⟨v, q1, q2⟩ := E.fro j d' hj n'
          exact ⟨v, q1, q2.mono le⟩
      · obtain ⟨hj1, hj2⟩ := List.mem_filter.mp hj
        obtain ⟨q, d', q1, q2, q3⟩ := E.ow j hj1
        have ne : q ≠ p := fun z => E.dis j hj1 i hi (of_decide_eq_true hj2) (by rw [q2, h2, z])
        exact ⟨q, d', q1, q2, own_apart hO' q3 ne h⟩
    · have le1 := gle_add (g := g) (p := p) (o := .ins C dx fvs) a1
      have npd : dx ≠ p := fun z => by rw [z, h] at hd; cases hd
      have f1' : (g.add p (.ins C dx fvs)).F dx = none := by
        show upd g.F p _ dx = none
        rw [upd_ne npd]; exact f1
      have le2 := gle_add (g := g.add p (.ins C dx fvs)) (p := dx) (o := .own p) f1'
      have le := le1.trans le2
      refine ⟨(g.add p (.ins C dx fvs)).add dx (.own p), le, (E.gok.freeze h a1 a2).freeze hd f1' f2, ⟨E.stp.le.trans le, E.stp.keep, E.stp.there, fun a ha => ?_, E.stp.newA⟩, E.len, fun j d' hj n => ?_, fun j hj => ?_, fun j hj k hk => E.dis j (List.mem_filter.mp hj).1 k (List.mem_filter.mp hk).1⟩
      · have ha' : upd (upd g.F p (.ins C dx fvs)) dx (.own p) a ≠ none := ha
        by_cases e2 : a = dx
        · subst e2; exact .inr f3
        · rw [upd_ne e2] at ha'
          by_cases e : a = p
          · subst e; exact .inr a3
          · rw [upd_ne e] at ha'
            exact E.stp.newF a ha'
      · rcases out j n with rfl | n'
        · rw [h1] at hj; cases hj
          rw [e.2]
          refine ⟨_, h2, .obj hm (?_ : upd (upd g.F p (.ins C dx fvs)) dx (.own p) p = _) (by exact upd_same) (r.mono le)⟩
          rw [upd_ne (Ne.symm npd), upd_same]
        · obtain ⟨v, q1, q2⟩ := E.fro j d' hj n'
          exact ⟨v, q1, q2.mono le⟩
      · obtain ⟨hj1, hj2⟩ := List.mem_filter.mp hj
        obtain ⟨q, d', q1, q2, q3⟩ := E.ow j hj1
        have ne : q ≠ p := fun z => E.dis j hj1 i hi (of_decide_eq_true hj2) (by rw [q2, h2, z])
        have o1 := own_apart hO' q3 ne h
        refine ⟨q, d', q1, q2, ?_⟩
        obtain ⟨b1, b2, b3, b4⟩ := o1
        have nq : q ≠ dx := fun z => by
          rcases b4 with ⟨vs, ds, _, h', _⟩ | ⟨_, _, _, _, _, _, _, h', _⟩
          · rw [z, hd] at h'; cases h'
          · rw [z, hd] at h'; cases h'
        refine ⟨?_, b2, b3, ?_⟩
        · show upd (g.add p (.ins C dx fvs)).F dx (.own p) q = none
          rw [upd_ne nq]; exact b1
        · rcases b4 with ⟨vs, ds, e, h', r'⟩ | ⟨C', dy, c', fvs', fs', e, hm', h', hd', f1'', f2', f3', r'⟩
          · exact .inl ⟨vs, ds, e, h', r'.mono le2⟩
          · refine .inr ⟨C', dy, c', fvs', fs', e, hm', h', hd', ?_, f2', f3', r'.mono le2⟩
            show upd (g.add p (.ins C dx fvs)).F dx (.own p) dy = none
            rw [upd_ne (fun z : dy = dx => by
              rw [z, hd] at hd'
              cases hd'
              exact ne rfl)]
            exact f1''
  · refine ⟨g, .refl _, E.congr fun j => ?_⟩
    rw [List.mem_filter]
    exact ⟨fun h => h.1, fun h => ⟨h, decide_eq_true fun z => hi (z ▸ h)⟩⟩
theorem EnvOk.drops (l : List Nat) : ∀ {g : Gh} {own : List Nat}, EnvOk K mg g0 H0 own ρ σ g H S → ∃ g', GLe g g' ∧ EnvOk K mg g0 H0 (own.filter fun j => decide (j ∉ l)) ρ σ g' H S := by
  induction l with
  | nil => exact fun {g own} E => ⟨g, .refl _, E.congr fun j => by simp⟩
  | cons i l ih =>
    intro g own E
    obtain ⟨g1, l1, E1⟩ := E.drop i
    obtain ⟨g2, l2, E2⟩ := ih E1
    refine ⟨g2, l1.trans l2, E2.congr fun j => ?_⟩
    simp only [List.mem_filter, decide_eq_true_eq, List.mem_cons, not_or]
    exact ⟨fun ⟨a, b, c⟩ => ⟨⟨a, b⟩, c⟩, fun ⟨⟨a, b⟩, c⟩ => ⟨a, b, c⟩⟩
theorem EnvOk.sub (E : EnvOk K mg g0 H0 own ρ σ g H S) (h : ∀ i ∈ own', i ∈ own) : ∃ g', GLe g g' ∧ EnvOk K mg g0 H0 own' ρ σ g' H S := by
  obtain ⟨g', l', E'⟩ := E.drops (own.filter fun j => decide (j ∉ own'))
  refine ⟨g', l', E'.congr fun j => ?_⟩
  simp only [List.mem_filter, decide_eq_true_eq]
  constructor
  · exact fun z => ⟨h j z, fun q => q.2 z⟩
  · rintro ⟨a, b⟩
    by_cases z : j ∈ own'
    · exact z
    · exact absurd ⟨a, z⟩ b
end
section
variable {X : Cx} {own own1 own' own2 ob : List Nat} {st : Stmt} {sts : List Stmt} {ss : SS}
def subL (a b : List Nat) : Bool := a.all fun i => b.contains i
theorem subL_ok {a b : List Nat} (h : subL a b = true) : ∀ i ∈ a, i ∈ b := fun i hi => by
  have := List.all_eq_true.mp h i hi
  simpa using this
theorem simb_pre (h : SimB X own1 own' ob sts ss) (hs : subL own1 own = true := by rfl) : SimB X own own' ob sts ss := pss_weak h fun D σ H ⟨g0, H0, ρ, g, S, E, q⟩ => by
  obtain ⟨g', l', E'⟩ := E.sub (subL_ok hs)
  exact ⟨g0, H0, ρ, g', S, E', Res.post_mono q fun o S' k => k.mono l'⟩
theorem simb_post (h : SimB X own own1 ob sts ss) (hs : subL own' own1 = true := by rfl) : SimB X own own' ob sts ss := pss_weak h fun D σ H ⟨g0, H0, ρ, g, S, E, q⟩ => by
  refine ⟨g0, H0, ρ, g, S, E, Res.post_mono q fun o S' k => ?_⟩
  cases o with
  | nx ρ =>
    intro σ1 g1 H1 l1 E1
    obtain ⟨g', l', E'⟩ := E1.sub (subL_ok hs)
    exact k σ1 g' H1 (l1.trans l') E'
  | _ => exact k
theorem sim_pre (h : SimS X own1 own' ob st ss) (hs : subL own1 own = true := by rfl) : SimS X own own' ob st ss := ps_weak h fun D σ H ⟨g0, H0, ρ, g, S, E, q⟩ => by
  obtain ⟨g', l', E'⟩ := E.sub (subL_ok hs)
  exact ⟨g0, H0, ρ, g', S, E', Res.post_mono q fun o S' k => k.mono l'⟩
theorem sim_post (h : SimS X own own1 ob st ss) (hs : subL own' own1 = true := by rfl) : SimS X own own' ob st ss := ps_weak h fun D σ H ⟨g0, H0, ρ, g, S, E, q⟩ => by
  refine ⟨g0, H0, ρ, g, S, E, Res.post_mono q fun o S' k => ?_⟩
  cases o with
  | nx ρ =>
    intro σ1 g1 H1 l1 E1
    obtain ⟨g', l', E'⟩ := E1.sub (subL_ok hs)
    exact k σ1 g' H1 (l1.trans l') E'
  | _ => exact k
end
end Ev
namespace Ev
open PySem PySem.Spec PyProof.Rows L2
/-! ### enumerate of a tuple -/
theorem meets_enum1 {v : Value} {o : Obj} {H : Heap → Prop} (B : Begins v o H) :
    Meets (Builtin.«enumerate.__new__» ⟨[.type "enumerate", v], []⟩) (fun _ R s => H s.heap ∧
      R (.ok (.ret (.ref (s.heap.push o).objs.size))) { s with heap := (s.heap.push o).push { cls := .type "enumerate", data := .fields #[.none, .bool false, .ref s.heap.objs.size, rawInt 0, .none, .none] } }) :=
  .of_wp fun prog w A R s h => by
    obtain ⟨hp, g, d, tk, os⟩ := s; obtain ⟨h1, h⟩ := h
    have hsub := sub_enumerate
    have q1 : ∀ {A' : Around} {E : Value → Shared → Prop} {Q : Value → Shared → Prop}, Q (.ref hp.objs.size) ⟨hp.push o, g, d, tk, os⟩ → wpAny (model prog w) A' (pyIter v) Q E ⟨hp, g, d, tk, os⟩ :=
      fun q => B.iter prog w _ _ ⟨hp, g, d, tk, os⟩ _ h1 q
    wp_walk using q1
    refine wpAny_stack_any fun st => wpAny_pure ?_
    split
    · rename_i c _ _ _ _ _
      cases (c == Value.type "enumerate")
      · wp_walk using q1
        exact ⟨_, rfl, h⟩
      · wp_walk using q1
        exact ⟨_, rfl, h⟩
    · wp_walk using q1
      exact ⟨_, rfl, h⟩
theorem enum1_begins {prog : Program} {w : World} {A : Around} {E : Value → Shared → Prop} {s : Shared} {v : Value} {o : Obj} {H : Heap → Prop} {Q : Value → Shared → Prop} (B : Begins v o H) (h1 : H s.heap)
    (h : ∀ h', IsEnum h' (s.heap.objs.size + 1) s.heap.objs.size 0 .none → h'.get? s.heap.objs.size = some o → h'.objs.size = s.heap.objs.size + 2 →
      (∀ b o, s.heap.get? b = some o → h'.get? b = some o) → Q (.ref (s.heap.objs.size + 1)) { s with heap := h' }) :
    wpAny (model prog w) A (call (.type "enumerate") [v]) Q E s := by
  refine callType_new F.called_enumerate (by decide) (F.typeCall_enumerate_1 _) (F.newCall_enumerate_1 _) (fun obj => F.args_object_init_2 obj _) F.entry_enumerate_new
    (meets_enum1 B) ⟨h1, ?_⟩
  have hz : (s.heap.push o).objs.size = s.heap.objs.size + 1 := Heap.size_push ..
  show _ ∧ _
  rw [hz]
  have he : IsEnum ((s.heap.push o).push { cls := .type "enumerate", data := .fields #[.none, .bool false, .ref s.heap.objs.size, rawInt 0, .none, .none] }) (s.heap.objs.size + 1) s.heap.objs.size 0 .none := by
    have := Heap.get?_push_size (s.heap.push o) (o := { cls := .type "enumerate", data := .fields #[.none, .bool false, .ref s.heap.objs.size, rawInt 0, .none, .none] }) rfl
    rw [hz] at this; exact this
  refine ⟨⟨_, he, rfl⟩, h _ he (Heap.get?_push_of_some _ (Heap.get?_push_size _ B.free)) (by rw [Heap.size_push, hz]) fun b o x => Heap.get?_push_of_some _ (Heap.get?_push_of_some _ x)⟩
def IteT (K : PySem.W.Frag) (a : Addr) : It :=
  ⟨fun i H => ∃ (xs : List V) (x : V), SqT K H a xs ∧ xs[i]? = some x, fun i H v H' => ∃ T x, v = .ref T ∧ H T = none ∧ H' = upd H T (.tup [.int (i : Nat), x]) ∧ ∀ xs, SqT K H a xs → xs[i]? = some x, fun i H => ∃ xs : List V, SqT K H a xs ∧ xs.length ≤ i⟩
theorem turn_enumT {P : Program} {w : World} {K : PySem.W.Frag} {elts : List Expr} {kk : Nat} {tpos : Pos} (a e it : Addr) :
    Turn P w K (.Tuple elts kk tpos) (IteT K a) [e, it] e (fun i h => (∃ old, IsEnum h e it ((i : Nat) : Int) old) ∧ h.IsTupleIter it a i ∧ e ≠ it ∧ a ≠ it ∧ a ≠ e) where
  mem := by simp
  obj := fun i h st b hb => by
    obtain ⟨⟨old, he⟩, ⟨o, ho, hc, hd⟩, _⟩ := st
    have e' : b = e ∨ b = it := by simpa using hb
    rcases e' with z | z
    · rw [z]; exact ⟨_, he, fun v q => nomatch q⟩
    · rw [z]; exact ⟨o, ho, fun v q => by rw [hd] at q; cases q⟩
  keep := fun i h h' st k => let ⟨⟨old, he⟩, hi, hne⟩ := st; ⟨⟨old, k e (by simp) _ he⟩, hi.at fun o q => k it (by simp) o q, hne⟩
  item := by
    intro X hP hw hK hc i pins s σ H E I hf st hg
    subst hP hw hK
    obtain ⟨⟨old, he⟩, hit, hne, nai, nae⟩ := st
    obtain ⟨xs, x, hq, hx⟩ := hg
    obtain ⟨its, rv, p, hz⟩ := I.tuple hq
    obtain ⟨u, hu, ru⟩ := rv.get hx
    have hel : e < s.heap.objs.size := Heap.lt_size he
    have hil : it < s.heap.objs.size := by obtain ⟨_, q, _⟩ := hit; exact Heap.lt_size q
    have DT := Draws.tuple (prog := X.prog) (w := X.w) (A := X.A.in1) (I.ok.hd hc) it a nai its.toArray
    have hlt : i < its.toArray.size := by
      have := (List.getElem?_eq_some_iff.mp hu).1
      simpa using this
    have nef : e ∉ [it, a] := fun z => by
      have e' : e = it ∨ e = a := by simpa using z
      exact e'.elim hne (Ne.symm nae)
    refine wpAny_pyNext_enum_itemC DT he ⟨hit, p⟩ hlt hne nef fun u' h' tk hP ho hs' hT hsz hk => ?_
    have eu : u' = u := by
      have : its.toArray[i]? = some u := by simpa using hu
      rw [this] at hP
      exact (Option.some.inj hP).symm
    subst eu
    obtain ⟨hit', _⟩ := hs'
    refine ⟨_, rfl, wpAny_letOwnedTupleGo_enum (s := { s with heap := h', toks := tk + 1 }) ho fun h'' he' sb => ?_⟩
    have hT2 : h''.get? s.heap.objs.size = some { cls := .type "tuple", data := .seq #[.int i tk, u'] } := (sb.2 _ (Nat.ne_of_gt hel)).trans hT
    have new : ObjOk X.prog X.w (upd H s.heap.objs.size (.tup [.int (i : Nat), x])) h'' s.heap.objs.size (.tup [.int (i : Nat), x]) :=
      ⟨by show 2 ≤ sizeLine; decide, [.int i tk, u'], .cons ⟨_, rfl⟩ (.cons ru .nil), ⟨_, hT2, rfl, _, rfl⟩⟩
    have I1 : Inv X pins σ (upd H s.heap.objs.size (.tup [.int (i : Nat), x])) { s with heap := h'', toks := tk + 1 } :=
      I.turnedNew (ch := [e, it]) (fun b ob hb q => (sb.2 b (fun z => hb (by simp [z]))).trans (hk b ob (fun z => hb (by simp [z])) (fun z => hb (by simp [z])) q)) hf (Nat.le_refl _) new
    refine ⟨.ref s.heap.objs.size, _, I1, rfl, ⟨_, x, rfl, I.hok.fresh (Nat.le_refl _), rfl, fun ys hy => by rw [I.tuple_inj hy hq]; exact hx⟩, ⟨⟨u', ?_⟩, hit'.at fun o q => (sb.2 it (Ne.symm hne)).trans q, hne, nai, nae⟩, fun b hb => ?_⟩
    · have e1 : ((i + 1 : Nat) : Int) = (i : Int) + 1 := by omega
      rw [e1]; exact he'
    · have hb' : b < s.heap.objs.size := by
        have e' : b = e ∨ b = it := by simpa using hb
        rcases e' with z | z
        · rw [z]; exact hel
        · rw [z]; exact hil
      rw [upd_ne (Nat.ne_of_lt hb')]
      exact (hf b hb).1
  done := by
    intro X hP hw hK hc i pins s σ H E I hf st hg
    subst hP hw hK
    obtain ⟨⟨old, he⟩, hit, hne, nai, nae⟩ := st
    obtain ⟨xs, hq, hx⟩ := hg
    obtain ⟨its, rv, p, hz⟩ := I.tuple hq
    obtain ⟨f0, f1, f2, f3, f4, f5⟩ := hf it (by simp)
    have hl := rv.length
    have DT := Draws.tuple (prog := X.prog) (w := X.w) (A := X.A.in1) (I.ok.hd hc) it a nai its.toArray
    have D2 : Draws X.prog X.w X.A.in1 it [it, a] i (fun _ _ => False) (fun j h => j = i ∧ h.IsTupleIter it a j ∧ h.IsTuple a its.toArray) := {
      live := fun _ _ st => let ⟨o, ho, _⟩ := st.2.1; ⟨o, ho⟩
      frame := fun _ _ _ st hk => ⟨st.1, st.2.1.at fun o e => hk it (by simp) o e, st.2.2.at fun o e => hk a (by simp) o e⟩
      item := fun j s Q E hj st _ => absurd hj (by rw [st.1]; exact Nat.lt_irrefl _)
      done := fun s Q E st hE => wpAny_nextOf_tuple_end (I.ok.hd hc) st.2.1 st.2.2 (by simp; omega) hE }
    exact wpAny_pyNext_enum_endD D2 he ⟨rfl, hit, p⟩ fun h' eb => ⟨rfl, I.turned (t' := s.toks) (fun b o hb q => eb b o hb q) f0 f1 f3 f4 f5⟩
  self := fun A i s Q E st h => let ⟨⟨_, he⟩, _⟩ := st; wpAny_pyIter_enum he h
def iEnumT (K : PySem.W.Frag) (ta : TA) : TI := fun σ H R => ta σ H fun vs H1 => ∃ a xs, vs = [.ref a] ∧ ((SqT K H1 a xs ∧ R (IteT K a) H1) ∨ (SqL K H1 a xs ∧ R (Ite K a) H1))
theorem pi_enumT {X : Cx} {e : Expr} {ta : TA} {p pos tpos : Pos} {elts : List Expr} {kk : Nat} (hg : Gl X "enumerate") (hm : X.mg "enumerate" = none) (ha : PA X [e] ta) (hs : starEach [e] X.env = [(false, eval e X.env)] := by rfl) :
    PI X (.Tuple elts kk tpos) (.Call (.Name "enumerate" p) [e] [] pos) (iEnumT X.K ta) := by
  refine ⟨fun pins s σ H R I h => ?_⟩
  refine Call_ (ld_blt I hg hm boot_enumerate (PyProof.Rows.callWith_type1 (thn (ha.run pos pins s σ H _ I h) fun us s1 ⟨vs, H1, I1, r1, q1⟩ => ?_) hs rfl))
  obtain ⟨a, xs, ex, q⟩ := q1
  subst ex
  cases r1 with
  | cons r rr =>
    cases rr
    cases r
    rcases q with ⟨hq, q⟩ | ⟨hq, q⟩
    · obtain ⟨its, rv, p', hz⟩ := I1.tuple hq
      have lt : a < s1.heap.objs.size := p'.lt
      refine enum1_begins (begins_tuple a its.toArray) p' fun h' he hit hsz hk => wpAny_pyIter_enum he ?_
      have I2 : Inv X pins σ H1 { s1 with heap := h' } := I1.kept (t' := s1.toks) hk
      refine ⟨s1.heap.objs.size + 1, [s1.heap.objs.size + 1, s1.heap.objs.size], _, _, H1, rfl, I2, turn_enumT a (s1.heap.objs.size + 1) s1.heap.objs.size, ⟨⟨.none, he⟩, ⟨_, hit, rfl, rfl⟩, Nat.succ_ne_self _, Nat.ne_of_lt lt, Nat.ne_of_lt (Nat.lt_succ_of_lt lt)⟩, fun b hb => ?_, q⟩
      have e' : b = s1.heap.objs.size + 1 ∨ b = s1.heap.objs.size := by simpa using hb
      have hle : s1.heap.objs.size ≤ b := by
        rcases e' with z | z
        · rw [z]; exact Nat.le_succ _
        · rw [z]; exact Nat.le_refl _
      exact I1.fpOk hle (I1.hok.fresh hle)
    · obtain ⟨its, rv, p', hz⟩ := I1.list hq
      refine call_enumerate_list p'.isList fun h' he hit hsz hk => wpAny_pyIter_enum he ?_
      have I2 : Inv X pins σ H1 { s1 with heap := h' } := I1.kept (t' := s1.toks) hk
      refine ⟨s1.heap.objs.size + 1, [s1.heap.objs.size + 1, s1.heap.objs.size], _, _, H1, rfl, I2, turn_enum a (s1.heap.objs.size + 1) s1.heap.objs.size, ⟨⟨.none, he⟩, hit, Nat.succ_ne_self _⟩, fun b hb => ?_, q⟩
      have e' : b = s1.heap.objs.size + 1 ∨ b = s1.heap.objs.size := by simpa using hb
      have hle : s1.heap.objs.size ≤ b := by
        rcases e' with z | z
        · rw [z]; exact Nat.le_succ _
        · rw [z]; exact Nat.le_refl _
      exact I1.fpOk hle (I1.hok.fresh hle)
end Ev
namespace Ev
open PySem PySem.Spec PyProof.Rows L2
/-! ### stores -/
def er (own : List Nat) (i : Nat) : List Nat := own.filter fun j => decide (j ≠ i)
theorem mem_er {own : List Nat} {i j : Nat} : j ∈ er own i ↔ j ∈ own ∧ j ≠ i := by
  unfold er
  rw [List.mem_filter, decide_eq_true_eq]
section
variable {K : PySem.W.Frag} {mg : Str → Option Value} {g0 g g' : Gh} {H0 H H' : Hp} {S S' : Sto} {own own' : List Nat} {ρ : DEnv} {σ : L2.St}
/-- a slot is stored: a value for good -/
theorem EnvOk.set (E : EnvOk K mg g0 H0 own ρ σ g H S) {i : Nat} {v : V} {d : D} (r : Rep K mg g v d) : EnvOk K mg g0 H0 (er own i) (ρ.set i (some d)) (σ.set i (some v)) g H S where
  gok := E.gok
  stp := E.stp
  len := by rw [List.length_set, List.length_set, E.len]
  fro := fun j d' hj n => by
    by_cases e : i = j
    · subst e
      have hi : i < ρ.length := by
        have := (List.getElem?_eq_some_iff.mp hj).1
        simpa using this
      rw [List.getElem?_set_self hi] at hj
      cases hj
      exact ⟨v, by rw [List.getElem?_set_self (by rw [← E.len]; exact hi)], r⟩
    · rw [List.getElem?_set_ne e] at hj
      obtain ⟨w, q1, q2⟩ := E.fro j d' hj fun z => n (mem_er.mpr ⟨z, Ne.symm e⟩)
      exact ⟨w, by rw [List.getElem?_set_ne e]; exact q1, q2⟩
  ow := fun j hj => by
    obtain ⟨hj1, hj2⟩ := mem_er.mp hj
    obtain ⟨p, d', h1, h2, h3⟩ := E.ow j hj1
    exact ⟨p, d', by rw [List.getElem?_set_ne (Ne.symm hj2)]; exact h1, by rw [List.getElem?_set_ne (Ne.symm hj2)]; exact h2, h3⟩
  dis := fun j hj k hk ne => by
    obtain ⟨hj1, hj2⟩ := mem_er.mp hj
    obtain ⟨hk1, hk2⟩ := mem_er.mp hk
    rw [List.getElem?_set_ne (Ne.symm hj2), List.getElem?_set_ne (Ne.symm hk2)]
    exact E.dis j hj1 k hk1 ne
/-- a slot takes a new list, owned from now on -/
theorem EnvOk.setF (E : EnvOk K mg g0 H0 own ρ σ g H S) {i : Nat} {p : Addr} {vs : List V} {ds : List D} (hi : i < ρ.length) (h : H p = some (.lst vs)) (h1 : g.F p = none) (h2 : p ∉ g.as) (h3 : H0 p = none) (r : Reps K mg g vs ds)
    (hne : ∀ j ∈ own, σ[j]? ≠ some (some (.ref p))) : EnvOk K mg g0 H0 (i :: er own i) (ρ.set i (some (.lst ds))) (σ.set i (some (.ref p))) g H S where
  gok := E.gok
  stp := E.stp
  len := by rw [List.length_set, List.length_set, E.len]
  fro := fun j d' hj n => by
    have e : i ≠ j := fun z => n (by rw [z]; exact List.mem_cons_self)
    rw [List.getElem?_set_ne e] at hj
    obtain ⟨w, q1, q2⟩ := E.fro j d' hj fun z => n (List.mem_cons_of_mem _ (mem_er.mpr ⟨z, Ne.symm e⟩))
    exact ⟨w, by rw [List.getElem?_set_ne e]; exact q1, q2⟩
  ow := fun j hj => by
    by_cases e : i = j
    · subst e
      exact ⟨p, _, by rw [List.getElem?_set_self hi], by rw [List.getElem?_set_self (by rw [← E.len]; exact hi)], h1, h2, h3, .inl ⟨vs, ds, rfl, h, r⟩⟩
    · have hj' : j ∈ er own i := by
        rcases List.mem_cons.mp hj with z | z
        · exact absurd z.symm e
        · exact z
      obtain ⟨hj1, hj2⟩ := mem_er.mp hj'
      obtain ⟨q, d', q1, q2, q3⟩ := E.ow j hj1
      exact ⟨q, d', by rw [List.getElem?_set_ne e]; exact q1, by rw [List.getElem?_set_ne e]; exact q2, q3⟩
  dis := fun j hj k hk ne => by
    have get : ∀ l ∈ i :: er own i, l ≠ i → l ∈ own ∧ (σ.set i (some (.ref p)))[l]? = σ[l]? := fun l hl n => by
      rcases List.mem_cons.mp hl with z | z
      · exact absurd z n
      · exact ⟨(mem_er.mp z).1, by rw [List.getElem?_set_ne (Ne.symm n)]⟩
    have self : (σ.set i (some (.ref p)))[i]? = some (some (.ref p)) := by rw [List.getElem?_set_self (by rw [← E.len]; exact hi)]
    by_cases ej : j = i
    · have nk : k ≠ i := fun z => ne (ej.trans z.symm)
      obtain ⟨k1, k2⟩ := get k hk nk
      rw [ej, self, k2]
      exact fun z => hne k k1 z.symm
    · obtain ⟨j1, j2⟩ := get j hj ej
      by_cases ek : k = i
      · rw [ek, self, j2]
        exact hne j j1
      · obtain ⟨k1, k2⟩ := get k hk ek
        rw [j2, k2]
        exact E.dis j j1 k k1 ne
/-- what is new is none of the body's own -/
theorem EnvOk.other (E : EnvOk K mg g0 H0 own ρ σ g H S) {p : Addr} (hp : H p = none) : ∀ j ∈ own, σ[j]? ≠ some (some (.ref p)) := fun j hj e => by
  obtain ⟨q, d, _, h2, _, _, _, h⟩ := E.ow j hj
  rw [e] at h2
  cases h2
  rcases h with ⟨vs, ds, _, h, _⟩ | ⟨_, _, _, _, _, _, _, h, _⟩
  · rw [hp] at h; cases h
  · rw [hp] at h; cases h
theorem EnvOk.new0 (E : EnvOk K mg g0 H0 own ρ σ g H S) {p : Addr} (hp : H p = none) : H0 p = none := by
  cases q : H0 p with
  | none => rfl
  | some o => exact absurd hp (E.stp.there p (by rw [q]; exact fun z => nomatch z))
/-- a list of the body's own is changed in its place -/
theorem EnvOk.write (E : EnvOk K mg g0 H0 own ρ σ g H S) {i : Nat} (hi : i ∈ own) {ds es : List D} (h : ρ[i]? = some (some (.lst ds))) :
    ∃ p vs, σ[i]? = some (some (.ref p)) ∧ H p = some (.lst vs) ∧ Reps K mg g vs ds ∧ ∀ ws, Reps K mg g ws es → EnvOk K mg g0 H0 own (ρ.set i (some (.lst es))) σ g (upd H p (.lst ws)) S := by
  obtain ⟨p, d, h1, h2, a1, a2, a3, a4⟩ := E.ow i hi
  rw [h] at h1
  cases h1
  rcases a4 with ⟨vs, ds', e, hp, r⟩ | ⟨_, _, _, _, _, ⟨_, e⟩, _⟩
  · cases e
    refine ⟨p, vs, h2, hp, r, fun ws rw' => ?_⟩
    have hil : i < ρ.length := (List.getElem?_eq_some_iff.mp h).1
    have Fne : ∀ {b : Addr} {o : HO}, g.F b = some o → b ≠ p := fun {b o} e z => by rw [z, a1] at e; cases e
    refine ⟨⟨fun b o e => by rw [upd_ne (Fne e)]; exact E.gok.sub _ _ e, E.gok.nd, E.gok.len, E.gok.nf, fun j a ha => ?_⟩, ⟨E.stp.le, fun b o e n => ?_, fun b e => ?_, E.stp.newF, E.stp.newA⟩, by rw [List.length_set]; exact E.len, fun j d' hj n => ?_, fun j hj => ?_, E.dis⟩
    · obtain ⟨kvs, kds, q1, q2, q3⟩ := E.gok.st j a ha
      exact ⟨kvs, kds, by rw [upd_ne (fun z : a = p => a2 (z ▸ List.mem_of_getElem? ha))]; exact q1, q2, q3⟩
    · rw [upd_ne (fun z : b = p => by rw [z, a3] at e; cases e)]
      exact E.stp.keep b o e n
    · by_cases z : b = p
      · rw [z, upd_same]; exact fun z => nomatch z
      · rw [upd_ne z]; exact E.stp.there b e
    · have ne : i ≠ j := fun z => n (z ▸ hi)
      rw [List.getElem?_set_ne ne] at hj
      exact E.fro j d' hj n
    · by_cases e : i = j
      · subst e
        exact ⟨p, _, by rw [List.getElem?_set_self hil], h2, a1, a2, a3, .inl ⟨ws, es, rfl, upd_same, rw'⟩⟩
      · obtain ⟨q, d', q1, q2, b1, b2, b3, b4⟩ := E.ow j hj
        have nq : q ≠ p := fun z => E.dis i hi j hj e (by rw [h2, q2, z])
        refine ⟨q, d', by rw [List.getElem?_set_ne e]; exact q1, q2, b1, b2, b3, ?_⟩
        rcases b4 with ⟨vs', ds', e', h', r'⟩ | ⟨C', dy, c', fvs', fs', e', hm', h', hd', f1, f2, f3, r'⟩
        · exact .inl ⟨vs', ds', e', by rw [upd_ne nq]; exact h', r'⟩
        · exact .inr ⟨C', dy, c', fvs', fs', e', hm', by rw [upd_ne nq]; exact h', by rw [upd_ne (ne_of hd' hp (fun z => nomatch z))]; exact hd', f1, f2, f3, r'⟩
  · cases e
/-- a changing object is written -/
theorem EnvOk.put (E : EnvOk K mg g0 H0 own ρ σ g H S) {j : Nat} {a : Addr} (ha : g.as[j]? = some a) {kvs : List (Key × V)} {kds : List (Key × D)} (r : KReps K mg g kvs kds) : EnvOk K mg g0 H0 own ρ σ g (upd H a (.dK kvs)) (S.set j kds) :=
  E.step (E.gok.put ha r) (stp_put (List.mem_of_getElem? ha))
end
section
variable {X : Cx} {own own' own1 ob : List Nat} {e o idx : Expr} {se so sk sv : SE} {pos pos' pos2 : Pos} {i k : Nat} {x : Str}
def sSet (i : Nat) (se : SE) : SS := fun ρ S => (se ρ S).then fun d S' => .ok (.nx (ρ.set i (some d))) S'
theorem set_of {D : Ends} {σ : L2.St} {H : Hp} (h : tS X own (er own i) ob (sSet i se) D σ H) : tAsg (tE X own se) (gName i) D σ H := by
  obtain ⟨g0, H0, ρ, g, S, E, q⟩ := h
  obtain ⟨o, S', e1, k⟩ := Res.post_ex q
  obtain ⟨d, S1, e2, e1⟩ := Res.then_ex e1
  cases e1
  refine ⟨g0, H0, ρ, g, S, E, ?_⟩
  rw [e2]
  exact fun v g1 H1 G1 s1 r1 => k _ g1 H1 s1.le ((E.step G1 s1).set r1)
theorem setF_of (hi : i < X.N.length) {D : Ends} {σ : L2.St} {H : Hp} (hσ : σ.length = X.N.length) (hl : ∀ ρ S d S', se ρ S = .ok d S' → ∃ ds, d = .lst ds) (h : tS X own (i :: er own i) ob (sSet i se) D σ H) : tAsg (tF X own se) (gName i) D σ H := by
  obtain ⟨g0, H0, ρ, g, S, E, q⟩ := h
  obtain ⟨o, S', e1, k⟩ := Res.post_ex q
  obtain ⟨d, S1, e2, e1⟩ := Res.then_ex e1
  cases e1
  obtain ⟨ds, rfl⟩ := hl _ _ _ _ e2
  refine ⟨g0, H0, ρ, g, S, E, ?_⟩
  rw [e2]
  refine ⟨ds, rfl, fun p vs g1 H1 G1 s1 h1 h2 h3 h4 r => ?_⟩
  exact k _ g1 H1 s1.le ((E.step G1 s1).setF (by rw [E.len, hσ]; exact hi) h1 h2 h3 (E.new0 h4) r fun j hj => E.other h4 j hj)
/-- a statement's reading may lean on the frame's size -/
theorem ps_weakN {st : Stmt} {t t' : TS} (h : PS X st t) (w : ∀ D σ H, σ.length = X.N.length → t' D σ H → t D σ H) : PS X st t' := ⟨fun pins s σ H D I q => h.run pins s σ H D I (w D σ H I.len q)⟩
theorem sim_set (hN : X.N.Nodup) (hi : X.N[i]? = some x) (hx : Loc X.env.scope x) (he : SimE X own e se) (hs : swapsWith e (some (.Name x pos')) pos.line X.env = pure false := by rfl) (hf : X.fn x = true ∨ X.env.scope.names.lookup x = some .local := by first | exact .inl rfl | exact .inr rfl | assumption) :
    SimS X own (er own i) ob (.Assign [.Name x pos'] e pos) (sSet i se) := ps_weak (ps_set hN hi hx he hs hf) fun _ _ _ h => set_of h
theorem sim_setF (hN : X.N.Nodup) (hi : X.N[i]? = some x) (hx : Loc X.env.scope x) (he : SimF X own e se) (hl : ∀ ρ S d S', se ρ S = .ok d S' → ∃ ds, d = .lst ds) (hs : swapsWith e (some (.Name x pos')) pos.line X.env = pure false := by rfl) (hf : X.fn x = true ∨ X.env.scope.names.lookup x = some .local := by first | exact .inl rfl | exact .inr rfl | assumption) :
    SimS X own (i :: er own i) ob (.Assign [.Name x pos'] e pos) (sSet i se) := ps_weakN (ps_set hN hi hx he hs hf) fun _ _ _ hσ h => setF_of (List.getElem?_eq_some_iff.mp hi).1 hσ hl h

/-! ### expressions that change a list of the body's own -/
abbrev SM := DEnv → M (D × DEnv)
def tM (X : Cx) (own : List Nat) (sm : SM) : TE := fun σ H Q => ∃ g0 H0 ρ g S, EnvOk X.K X.mg g0 H0 own ρ σ g H S ∧ (sm ρ S).post fun dr S' => ∀ v g' H', GLe g g' → EnvOk X.K X.mg g0 H0 own dr.2 σ g' H' S' → Rep X.K X.mg g' v dr.1 → Q v H'
def SimM (X : Cx) (own : List Nat) (e : Expr) (sm : SM) : Prop := PE X e (tM X own sm)
def sPure (se : SE) : SM := fun ρ S => (se ρ S).then fun d S' => .ok (d, ρ) S'
theorem SimE.m (h : SimE X own e se) : SimM X own e (sPure se) := pe_weak h fun σ H Q ⟨g0, H0, ρ, g, S, E, q⟩ => by
  obtain ⟨o, S', e1, k⟩ := Res.post_ex q
  obtain ⟨d, S1, e2, e1⟩ := Res.then_ex e1
  cases e1
  refine ⟨g0, H0, ρ, g, S, E, ?_⟩
  rw [e2]
  exact fun v g1 H1 G1 s1 r1 => k v g1 H1 s1.le (E.step G1 s1) r1
/-- a method of a list: what it makes of the list and the arguments, and its value -/
def OpMt (X : Cx) (f : List D → List D → Option (List D × D)) (r : V → List V → Hp → VK → Prop) : Prop := ∀ (g : Gh) (H : Hp) (S : Sto) (p : Addr) (vs ws : List V) (xs ds es : List D) (d : D) (Q : VK), GOk X.K X.mg g H S → H p = some (.lst vs) → Reps X.K X.mg g vs xs → Reps X.K X.mg g ws ds → f xs ds = some (es, d) →
  (∀ vs' v, Reps X.K X.mg g vs' es → Rep X.K X.mg g v d → Q v (upd H p (.lst vs'))) → r (.ref p) ws H Q
def isLst : Option (Option D) → Bool
  | some (some (.lst _)) => true
  | _ => false
def mt1 (i : Nat) (f : List D → List D → Option (List D × D)) (sm : SM) : SM := fun ρ S => if isLst ρ[i]? then (sm ρ S).then fun dr S' => (match dr.2[i]? with
  | some (some (.lst xs)) => (match f xs [dr.1] with
    | some (ys, d) => .ok (d, dr.2.set i (some (.lst ys))) S'
    | none => .bad)
  | _ => .bad) else .bad
def mt0 (i : Nat) (f : List D → List D → Option (List D × D)) : SM := fun ρ S => match ρ[i]? with
  | some (some (.lst xs)) => (match f xs [] with
    | some (ys, d) => .ok (d, ρ.set i (some (.lst ys))) S
    | none => .bad)
  | _ => .bad
variable {m : Str} {apos : Pos} {sm : SM} {f : List D → List D → Option (List D × D)} {r : V → List V → Hp → VK → Prop}
theorem isLst_ex {o : Option (Option D)} (h : isLst o = true) : ∃ xs, o = some (some (.lst xs)) := by
  unfold isLst at h
  split at h
  · exact ⟨_, rfl⟩
  · cases h
theorem simm_1 {a : Expr} (hi : i ∈ own) (hpe : ∀ {ta : TE}, PE X a ta → PE X e (tBM X.K "list" r (tVar i) (tCons ta tNil))) (hf : OpMt X f r) (ha : SimM X own a sm) : SimM X own e (mt1 i f sm) :=
  pe_weak (hpe ha) fun σ H Q ⟨g0, H0, ρ, g, S, E, q⟩ => by
    obtain ⟨dr, S', e1, k⟩ := Res.post_ex q
    unfold mt1 at e1
    split at e1
    · rename_i hl
      obtain ⟨dr1, S1, e2, e1⟩ := Res.then_ex e1
      obtain ⟨xs0, h0⟩ := isLst_ex hl
      obtain ⟨p, vs0, hp1, hp2, _, _⟩ := E.write (es := []) hi h0
      refine ⟨_, hp1, .inl ⟨rfl, vs0, SqL.of hp2⟩, g0, H0, ρ, g, S, E, ?_⟩
      rw [e2]
      intro v g1 H1 l1 E1 r1
      split at e1
      · rename_i xs h1
        split at e1
        · rename_i ys d hfx
          cases e1
          obtain ⟨p', vs, hq1, hq2, rs, kw⟩ := E1.write (es := ys) hi h1
          rw [hp1] at hq1
          cases hq1
          refine hf g1 H1 _ p vs [v] xs [dr1.1] ys d _ E1.gok hq2 rs (.one r1) hfx fun vs' v' r' rv => ?_
          have E2 := kw vs' r'
          exact k v' g1 _ l1 E2 rv
        · cases e1
      · cases e1
    · cases e1
theorem simm_0 (hi : i ∈ own) (hpe : PE X e (tBM0 X.K "list" r (tVar i))) (hf : OpMt X f r) : SimM X own e (mt0 i f) :=
  pe_weak hpe fun σ H Q ⟨g0, H0, ρ, g, S, E, q⟩ => by
    obtain ⟨dr, S', e1, k⟩ := Res.post_ex q
    unfold mt0 at e1
    split at e1
    · rename_i xs h1
      split at e1
      · rename_i ys d hfx
        cases e1
        obtain ⟨p, vs, hp1, hp2, rs, kw⟩ := E.write (es := ys) hi h1
        refine ⟨_, hp1, .inl ⟨rfl, vs, SqL.of hp2⟩, ?_⟩
        refine hf g H S p vs [] xs [] ys d _ E.gok hp2 rs .nil hfx fun vs' v' r' rv => ?_
        exact k v' g _ (.refl _) (kw vs' r') rv
      · cases e1
    · cases e1
def sDropM (sm : SM) : SS := fun ρ S => (sm ρ S).then fun dr S' => .ok (.nx dr.2) S'
def sSetM (i : Nat) (sm : SM) : SS := fun ρ S => (sm ρ S).then fun dr S' => .ok (.nx (dr.2.set i (some dr.1))) S'
theorem sim_dropM (h : SimM X own e sm) (hs : swapsWith e none pos.line X.env = pure false := by rfl) : SimS X own own ob (.Expr e pos) (sDropM sm) := ps_weak (ps_expr h hs) fun D σ H ⟨g0, H0, ρ, g, S, E, q⟩ => by
  obtain ⟨o, S', e1, k⟩ := Res.post_ex q
  obtain ⟨d, S1, e2, e1⟩ := Res.then_ex e1
  cases e1
  refine ⟨g0, H0, ρ, g, S, E, ?_⟩
  rw [e2]
  exact fun v g1 H1 l1 E1 r1 => k σ g1 H1 l1 E1
theorem sim_setM (hN : X.N.Nodup) (hi : X.N[i]? = some x) (hx : Loc X.env.scope x) (he : SimM X own e sm) (hs : swapsWith e (some (.Name x pos')) pos.line X.env = pure false := by rfl) (hf : X.fn x = true ∨ X.env.scope.names.lookup x = some .local := by first | exact .inl rfl | exact .inr rfl | assumption) :
    SimS X own (er own i) ob (.Assign [.Name x pos'] e pos) (sSetM i sm) := ps_weak (ps_set hN hi hx he hs hf) fun D σ H ⟨g0, H0, ρ, g, S, E, q⟩ => by
  obtain ⟨o, S', e1, k⟩ := Res.post_ex q
  obtain ⟨d, S1, e2, e1⟩ := Res.then_ex e1
  cases e1
  refine ⟨g0, H0, ρ, g, S, E, ?_⟩
  rw [e2]
  exact fun v g1 H1 l1 E1 r1 => k _ g1 H1 l1 (E1.set r1)
def mAppend : List D → List D → Option (List D × D)
  | xs, [y] => if xs.length < sizeLine then some (xs ++ [y], .non) else none
  | _, _ => none
def mExtend : List D → List D → Option (List D × D)
  | xs, [.lst ys] => if xs.length + ys.length ≤ sizeLine then some (xs ++ ys, .non) else none
  | _, _ => none
@[irreducible] def pxOk (i : Int) : Bool := decide (0 ≤ i ∧ i.natAbs.log2 < 63)
theorem pxOk_ok {i : Int} (h : pxOk i = true) : 0 ≤ i ∧ i < 9223372036854775808 := by
  unfold pxOk at h
  have h := of_decide_eq_true h
  have h2 := lg_lt h.2
  have e : (2 : Nat) ^ 63 = 9223372036854775808 := by decide
  omega
theorem pxOk_of {i : Int} (h : 0 ≤ i) (h2 : i < 9223372036854775808) : pxOk i = true := by
  unfold pxOk
  have e : (2 : Nat) ^ 63 = 9223372036854775808 := by decide
  exact decide_eq_true ⟨h, lt_lg (by decide) (by omega)⟩
def mPop : List D → List D → Option (List D × D)
  | xs, [] => (xs[xs.length - 1]?).map fun y => (xs.dropLast, y)
  | xs, [.int i] => if pxOk i then (xs[i.toNat]?).map fun y => (xs.eraseIdx i.toNat, y) else none
  | _, _ => none
theorem opm_append : OpMt X mAppend rAppend := by
  intro g H S p vs ws xs ds es d Q G hp rs rw' e k
  unfold mAppend at e
  split at e
  · rename_i y
    split at e
    · rename_i hz
      cases e
      cases rw' with
      | cons r1 r2 =>
        cases r2
        exact ⟨p, vs, _, rfl, rfl, hp, by rw [rs.length]; exact hz, k _ _ (rs.append (.one r1)) .non⟩
    · cases e
  · cases e
theorem opm_extend : OpMt X mExtend rExtend := by
  intro g H S p vs ws xs ds es d Q G hp rs rw' e k
  unfold mExtend at e
  split at e
  · rename_i ys
    split at e
    · rename_i hz
      cases e
      cases rw' with
      | cons r1 r2 =>
        cases r2
        cases r1 with
        | lst h r =>
          exact ⟨p, _, vs, _, rfl, rfl, hp, G.sub _ _ h, by rw [rs.length, r.length]; exact hz, k _ _ (rs.append r) .non⟩
    · cases e
  · cases e
theorem opm_pop0 : OpMt X mPop rPop ∨ True := .inr trivial
theorem seq_nat {n j : Nat} (h : j < n) : seqIndex? (j : Int) n = some j := (ixN_seq (n := n) (i := (j : Int)) (j := j) (by
  unfold ixN
  rw [if_pos (by omega), if_pos (by omega)]
  simp)).1
theorem opm_pop : OpMt X mPop (fun x xs H Q => rPop x xs H Q ∨ rPopAt x xs H Q) := by
  intro g H S p vs ws xs ds es d Q G hp rs rw' e k
  unfold mPop at e
  split at e
  · cases rw'
    cases q : xs[xs.length - 1]? with
    | none => rw [q] at e; cases e
    | some y =>
      rw [q] at e
      cases e
      obtain ⟨v, hv, rv⟩ := rs.get q
      exact .inl ⟨p, vs, v, rfl, rfl, hp, by rw [rs.length]; exact hv, k _ _ rs.dropLast rv⟩
  · rename_i i
    split at e
    · rename_i hz
      replace hz := pxOk_ok hz
      cases q : xs[i.toNat]? with
      | none => rw [q] at e; cases e
      | some y =>
        rw [q] at e
        cases e
        cases rw' with
        | cons r1 r2 =>
          cases r2
          cases r1
          obtain ⟨v, hv, rv⟩ := rs.get q
          have hlt : i.toNat < vs.length := (List.getElem?_eq_some_iff.mp hv).1
          have e63 : (2 : Int) ^ 63 = 9223372036854775808 := by decide
          have ei : ((i.toNat : Nat) : Int) = i := Int.toNat_of_nonneg hz.1
          refine .inr ⟨p, vs, i, i.toNat, v, rfl, rfl, hp, by rw [e63]; omega, by rw [e63]; exact hz.2, ?_, hv, k _ _ (rs.eraseIdx _) rv⟩
          have := seq_nat hlt
          rw [ei] at this
          exact this
    · cases e
  · cases e
theorem mtr_pop : MtR X "list.pop" (fun x xs H Q => rPop x xs H Q ∨ rPopAt x xs H Q) := MtR.or mt_pop mt_popAt
/-! ### items stored -/
def sSetIx (i : Nat) (sk sv : SE) : SS := fun ρ S => (sv ρ S).then fun d S1 => (sk ρ S1).then fun k S2 => match ρ[i]?, k with
  | some (some (.lst xs)), .int k => (match ixN xs.length k with
    | some j => .ok (.nx (ρ.set i (some (.lst (xs.set j d))))) S2
    | none => .bad)
  | _, _ => .bad
theorem sim_setIx {tpos : Pos} {y : Str} (hi : i ∈ own) (hv : SimE X own e sv) (ho : PE X (.Name y pos2) (tVar i)) (hk : SimE X own idx sk)
    (hs : swapsWithSole [.Subscript (.Name y pos2) idx tpos] e pos.line X.env = pure false := by rfl) (hw : swappedStores [.Subscript (.Name y pos2) idx tpos] e X.env = pure none := by rfl)
    (h1 : (assignEach [.Subscript (.Name y pos2) idx tpos] X.env).map (·.2) = [assign (.Subscript (.Name y pos2) idx tpos) X.env] := by rfl)
    (ha : ∀ v, assign (.Subscript (.Name y pos2) idx tpos) X.env v = (do
      let ov ← holding [v] (eval (.Name y pos2) X.env)
      let iv ← holding [v, ov] (eval idx X.env)
      standAt tpos
      holding [v, ov, iv] (setItem ov iv v)
      release [v, ov, iv] []) := by intro _; rfl) :
    SimS X own own ob (.Assign [.Subscript (.Name y pos2) idx tpos] e pos) (sSetIx i sk sv) := ps_weak (ps_asg hv (pg_sub ho hk set_list ha) hs hw h1) fun D σ H ⟨g0, H0, ρ, g, S, E, q⟩ => by
  obtain ⟨o, S', e1, k⟩ := Res.post_ex q
  obtain ⟨d, S1, e2, e1⟩ := Res.then_ex e1
  obtain ⟨kd, S2, e3, e1⟩ := Res.then_ex e1
  refine ⟨g0, H0, ρ, g, S, E, ?_⟩
  rw [e2]
  intro v g1 H1 G1 s1 r1
  have E1 := E.step G1 s1
  split at e1
  · rename_i xs kk h0
    split at e1
    · rename_i j hj
      cases e1
      obtain ⟨p, vs, q1, _⟩ := E1.write (es := []) hi h0
      refine ⟨_, q1, g0, H0, ρ, g1, S1, E1, ?_⟩
      rw [e3]
      intro v2 g2 H2 G2 s2 r2
      cases r2
      have E2 := E1.step G2 s2
      obtain ⟨p', vs', q1', q2, rs, kw⟩ := E2.write (es := xs.set j d) hi h0
      rw [q1] at q1'
      cases q1'
      refine ⟨p, vs', kk, j, rfl, rfl, q2, by rw [rs.length]; exact hj, ?_⟩
      exact k _ g2 _ (s1.le.trans s2.le) (kw _ (rs.set (r1.mono s2.le) j))
    · cases e1
  · cases e1
def sPut (so sk sv : SE) : SS := fun ρ S => (sv ρ S).then fun d S1 => (so ρ S1).then fun o S2 => (sk ρ S2).then fun k S3 => match o, keyD k with
  | .mref j, some key => (match S3[j]? with
    | some kds => if kds.length < sizeLine then .ok (.nx ρ) (S3.set j (putKD kds key d)) else .bad
    | none => .bad)
  | _, _ => .bad
theorem sim_put (hr : Room k X.A) (ho : SimE X own o so) (hi : SimE X own idx sk) (hv : SimE X own e sv) (hs : swapsWith e (some (.Subscript o idx pos')) pos.line X.env = pure false := by rfl) : SimS X own own ob (.Assign [.Subscript o idx pos'] e pos) (sPut so sk sv) :=
  ps_weak (ps_dput (hu_of hr) ho hi hv hs) fun D σ H ⟨g0, H0, ρ, g, S, E, q⟩ => by
    obtain ⟨out, S', e1, k⟩ := Res.post_ex q
    obtain ⟨d, S1, e2, e1⟩ := Res.then_ex e1
    obtain ⟨od, S2, e3, e1⟩ := Res.then_ex e1
    obtain ⟨kd, S3, e4, e1⟩ := Res.then_ex e1
    refine ⟨g0, H0, ρ, g, S, E, ?_⟩
    rw [e2]
    intro v g1 H1 G1 s1 r1
    have E1 := E.step G1 s1
    refine ⟨g0, H0, ρ, g1, S1, E1, ?_⟩
    rw [e3]
    intro v2 g2 H2 G2 s2 r2
    have E2 := E1.step G2 s2
    refine ⟨g0, H0, ρ, g2, S2, E2, ?_⟩
    rw [e4]
    intro v3 g3 H3 G3 s3 r3
    have E3 := E2.step G3 s3
    cases od with
    | mref j =>
      cases q3 : keyD kd with
      | none => rw [q3] at e1; cases e1
      | some key =>
        rw [q3] at e1
        cases q4 : S3[j]? with
        | none =>
          have e1' : (match S3[j]? with
            | some kds => if kds.length < sizeLine then Res.ok (Out.nx ρ) (S3.set j (putKD kds key d)) else .bad
            | none => .bad) = Res.ok out S' := e1
          rw [q4] at e1'
          cases e1'
        | some kds =>
          have e1' : (match S3[j]? with
            | some kds => if kds.length < sizeLine then Res.ok (Out.nx ρ) (S3.set j (putKD kds key d)) else .bad
            | none => .bad) = Res.ok out S' := e1
          rw [q4] at e1'
          have e1'' : (if kds.length < sizeLine then Res.ok (Out.nx ρ) (S3.set j (putKD kds key d)) else .bad) = Res.ok out S' := e1'
          split at e1''
          · rename_i hz
            cases e1''
            cases r2.mono s3.le with
            | mref ha =>
              obtain ⟨kvs, kds', h1, h2, h3⟩ := G3.st j _ ha
              rw [q4] at h2
              cases h2
              refine ⟨_, _, rfl, ?_, k σ g3 _ ((s1.le.trans s2.le).trans s3.le) (E3.put ha (h3.put (k := key) ((r1.mono s2.le).mono s3.le)))⟩
              rw [rep_key r3 q3]
              exact DPut.k h1 (by rw [h3.len]; exact hz)
          · cases e1''
    | _ => cases e1
end
end Ev
namespace Ev
open PySem PySem.Spec PyProof.Rows L2
/-! ### targets -/
abbrev SG := D → DEnv → Option DEnv
def gN (i : Nat) : SG := fun d ρ => some (ρ.set i (some d))
def gAll : List SG → List D → DEnv → Option DEnv
  | [], [], ρ => some ρ
  | g :: gs, d :: ds, ρ => (g d ρ).bind (gAll gs ds)
  | _, _, _ => none
def gT (gs : List SG) : SG := fun d ρ => match d with
  | .tup xs => gAll gs xs ρ
  | _ => none
section
variable (X : Cx)
def Apart (ts : List Nat) (σ σ' : L2.St) : Prop := σ'.length = σ.length ∧ ∀ j, j ∉ ts → σ'[j]? = σ[j]?
def tG (own own' ts : List Nat) (sg : SG) : TG := fun v σ H Q => ∃ g0 H0 ρ g S d ρ', EnvOk X.K X.mg g0 H0 own ρ σ g H S ∧ Rep X.K X.mg g v d ∧ sg d ρ = some ρ' ∧ ∀ σ', Apart ts σ σ' → EnvOk X.K X.mg g0 H0 own' ρ' σ' g H S → Q σ' H
def tGs (own own' ts : List Nat) (gs : List SG) : TGs := fun vs σ H Q => ∃ g0 H0 ρ g S ds ρ', EnvOk X.K X.mg g0 H0 own ρ σ g H S ∧ Reps X.K X.mg g vs ds ∧ gAll gs ds ρ = some ρ' ∧ ∀ σ', Apart ts σ σ' → EnvOk X.K X.mg g0 H0 own' ρ' σ' g H S → Q σ' H
def SimG (own own' ts : List Nat) (e : Expr) (sg : SG) : Prop := PG X e (tG X own own' ts sg)
def SimGs (own own' ts : List Nat) (es : List Expr) (gs : List SG) : Prop := PGs X es (tGs X own own' ts gs)
end
theorem pg_weak {X : Cx} {e : Expr} {t t' : TG} (h : PG X e t) (w : ∀ v σ H Q, t' v σ H Q → t v σ H Q) : PG X e t' := ⟨fun pins s σ H v u Q I r q => h.run pins s σ H v u Q I r (w v σ H Q q)⟩
theorem pgs_weak {X : Cx} {es : List Expr} {t t' : TGs} (h : PGs X es t) (w : ∀ v σ H Q, t' v σ H Q → t v σ H Q) : PGs X es t' := ⟨fun pins s σ H v u Q I r q => h.run pins s σ H v u Q I r (w v σ H Q q)⟩
section
variable {X : Cx} {own own1 own' ob ts ts' : List Nat} {e iter : Expr} {es : List Expr} {se : SE} {sg : SG} {gs : List SG} {pos pos' : Pos} {i : Nat} {x : Str}
theorem simg_name (hN : X.N.Nodup) (hi : X.N[i]? = some x) (hx : Loc X.env.scope x) (hf : X.fn x = true ∨ X.env.scope.names.lookup x = some .local := by first | exact .inl rfl | exact .inr rfl | assumption) : SimG X own (er own i) [i] (.Name x pos) (gN i) :=
  pg_weak (pg_name hN hi hx hf) fun v σ H Q ⟨g0, H0, ρ, g, S, d, ρ', E, r, e, k⟩ => by
    cases e
    exact k _ ⟨List.length_set, fun j hj => by rw [List.getElem?_set_ne (fun z => hj (by simp [z]))]⟩ (E.set r)
theorem simgs_nil : SimGs X own own [] [] [] := pgs_weak pgs_nil fun vs σ H Q ⟨g0, H0, ρ, g, S, ds, ρ', E, r, e, k⟩ => by
  cases r with
  | nil => cases e; exact ⟨rfl, k σ ⟨rfl, fun _ _ => rfl⟩ E⟩
  | cons _ _ => cases e
theorem simgs_cons (h : SimG X own own1 ts e sg) (hr : SimGs X own1 own' ts' es gs) (hs : (assignEach (e :: es) X.env).map (·.2) = assign e X.env :: (assignEach es X.env).map (·.2) := by rfl) : SimGs X own own' (ts ++ ts') (e :: es) (sg :: gs) := pgs_weak (pgs_cons h hr hs) fun vs σ H Q ⟨g0, H0, ρ, g, S, ds, ρ', E, r, e, k⟩ => by
  cases r with
  | nil => cases e
  | @cons v d vs' ds' r1 r2 =>
    have e' : (sg d ρ).bind (gAll gs ds') = some ρ' := e
    cases q : sg d ρ with
    | none => rw [q] at e'; cases e'
    | some ρ1 =>
      rw [q] at e'
      exact ⟨v, vs', rfl, g0, H0, ρ, g, S, d, ρ1, E, r1, q, fun σ1 a1 E1 => ⟨g0, H0, ρ1, g, S, ds', ρ', E1, r2, e', fun σ2 a2 E2 => k σ2 ⟨a2.1.trans a1.1, fun j hj => (a2.2 j fun z => hj (List.mem_append_right _ z)).trans (a1.2 j fun z => hj (List.mem_append_left _ z))⟩ E2⟩⟩
theorem gAll_len : ∀ {gs : List SG} {ds : List D} {ρ ρ' : DEnv}, gAll gs ds ρ = some ρ' → ds.length = gs.length
  | [], [], _, _, _ => rfl
  | g :: gs, d :: ds, ρ, ρ', e => by
    have e' : (g d ρ).bind (gAll gs ds) = some ρ' := e
    cases q : g d ρ with
    | none => rw [q] at e'; cases e'
    | some ρ1 => rw [q] at e'; exact congrArg (· + 1) (gAll_len (gs := gs) e')
  | [], _ :: _, _, _, e => by cases e
  | _ :: _, [], _, _, e => by cases e
theorem simg_tup {k : Nat} (hc : X.calm = true) (h : SimGs X own own' ts es gs) (hn : (assignEach es X.env).length = gs.length := by rfl) (hst : (assignEach es X.env).findIdx? (·.1) = none := by rfl) : SimG X own own' ts (.Tuple es k pos) (gT gs) :=
  pg_weak (pg_tup hc h hn hst) fun v σ H Q ⟨g0, H0, ρ, g, S, d, ρ', E, r, e, kk⟩ => by
    cases r with
    | tup h r =>
      have l := gAll_len (gs := gs) e
      exact ⟨_, _, rfl, SqT.of (E.gok.sub _ _ h), by rw [r.length, l], g0, H0, ρ, g, S, _, ρ', E, r, e, kk⟩
    | _ => cases e
/-- a, b = e and the like -/
def sAsg (sg : SG) (se : SE) : SS := fun ρ S => (se ρ S).then fun d S' => match sg d ρ with
  | some ρ' => .ok (.nx ρ') S'
  | none => .bad
theorem sim_asg {tg : Expr} (he : SimE X own e se) (hg : SimG X own own' ts tg sg) (hs : swapsWithSole [tg] e pos.line X.env = pure false := by rfl) (hw : swappedStores [tg] e X.env = pure none := by rfl)
    (h1 : (assignEach [tg] X.env).map (·.2) = [assign tg X.env] := by rfl) : SimS X own own' ob (.Assign [tg] e pos) (sAsg sg se) := ps_weak (ps_asg he hg hs hw h1) fun D σ H ⟨g0, H0, ρ, g, S, E, q⟩ => by
  obtain ⟨o, S', e1, k⟩ := Res.post_ex q
  obtain ⟨d, S1, e2, e1⟩ := Res.then_ex e1
  split at e1
  · rename_i ρ' hsg
    cases e1
    refine ⟨g0, H0, ρ, g, S, E, ?_⟩
    rw [e2]
    intro v g1 H1 G1 s1 r1
    exact ⟨g0, H0, ρ, g1, S', d, ρ', E.step G1 s1, r1, hsg, fun σ' _ E' => k σ' g1 H1 s1.le E'⟩
  · cases e1

/-! ### what is walked -/
abbrev SI := DEnv → M (List D)
def Wk (X : Cx) (J : It) (ds : List D) (g1 : Gh) : Prop := ∀ (g : Gh) (H : Hp) (S : Sto), GOk X.K X.mg g H S → GLe g1 g → ∀ i : Nat,
  (∀ d, ds[i]? = some d → J.go i H ∧ ∀ x H', J.yld i H x H' → ∃ g', GOk X.K X.mg g' H' S ∧ Stp g H g' H' ∧ Rep X.K X.mg g' x d) ∧ (ds.length = i → J.stop i H)
def tI (X : Cx) (own : List Nat) (si : SI) : TI := fun σ H R => ∃ g0 H0 ρ g S, EnvOk X.K X.mg g0 H0 own ρ σ g H S ∧ (si ρ S).post fun ds S' => ∀ J g' H', GOk X.K X.mg g' H' S' → Stp g H g' H' → Wk X J ds g' → R J H'
def SimI (X : Cx) (own : List Nat) (tg it : Expr) (si : SI) : Prop := PI X tg it (tI X own si)
theorem pi_weak {X : Cx} {tg e : Expr} {t t' : TI} (h : PI X tg e t) (w : ∀ σ H R, t' σ H R → t σ H R) : PI X tg e t' := ⟨fun pins s σ H R I q => h.run pins s σ H R I (w σ H R q)⟩
theorem wk_list {g1 : Gh} {a : Addr} {vs : List V} {ds : List D} (h : g1.F a = some (.lst vs)) (r : Reps X.K X.mg g1 vs ds) : Wk X (Itl X.K a) ds g1 := fun g H S G l i => by
  have hq : SqL X.K H a vs := SqL.of (G.sub _ _ (l.F _ _ h))
  refine ⟨fun d hd => ?_, fun e => ⟨vs, hq, by rw [r.length, e]; exact Nat.le_refl _⟩⟩
  obtain ⟨v, hv, rv⟩ := r.get hd
  refine ⟨⟨vs, v, hq, hv⟩, fun x H' ⟨e, y⟩ => ?_⟩
  subst e
  have := y vs hq
  rw [hv] at this
  cases this
  exact ⟨g, G, .refl, rv.mono l⟩
theorem wk_tup {g1 : Gh} {a : Addr} {vs : List V} {ds : List D} (h : g1.F a = some (.tup vs)) (r : Reps X.K X.mg g1 vs ds) : Wk X (Itt X.K a) ds g1 := fun g H S G l i => by
  have hq : SqT X.K H a vs := SqT.of (G.sub _ _ (l.F _ _ h))
  refine ⟨fun d hd => ?_, fun e => ⟨vs, hq, by rw [r.length, e]; exact Nat.le_refl _⟩⟩
  obtain ⟨v, hv, rv⟩ := r.get hd
  refine ⟨⟨vs, v, hq, hv⟩, fun x H' ⟨e, y⟩ => ?_⟩
  subst e
  have := y vs hq
  rw [hv] at this
  cases this
  exact ⟨g, G, .refl, rv.mono l⟩
theorem wk_scr {g1 : Gh} {a : Addr} {ns : List Int} (h : SqL X.K g1.F a (ns.map V.int)) : Wk X (Itl X.K a) (ns.map .int) g1 := fun g H S G l i => by
  have hq : SqL X.K H a (ns.map V.int) := G.sub.seq (l.F.seq h)
  refine ⟨fun d hd => ?_, fun e => ⟨_, hq, by rw [List.length_map] at e ⊢; omega⟩⟩
  rw [List.getElem?_map] at hd
  cases q : ns[i]? with
  | none => rw [q] at hd; cases hd
  | some n =>
    rw [q] at hd
    cases hd
    have hv : (ns.map V.int)[i]? = some (.int n) := by rw [List.getElem?_map, q] <;> rfl
    refine ⟨⟨_, _, hq, hv⟩, fun x H' ⟨e, y⟩ => ?_⟩
    subst e
    have := y _ hq
    rw [hv] at this
    cases this
    exact ⟨g, G, .refl, .int n⟩
def rangeD (lo : Int) (n : Nat) : List D := (List.range n).map fun (k : Nat) => .int (lo + (k : Int))
theorem wk_range {g1 : Gh} {lo : Int} {n : Nat} : Wk X (Itr lo n) (rangeD lo n) g1 := fun g H S G l i => by
  unfold rangeD
  refine ⟨fun d hd => ?_, fun e => by rw [List.length_map, List.length_range] at e; show n ≤ i; omega⟩
  rw [List.getElem?_map] at hd
  cases q : (List.range n)[i]? with
  | none => rw [q] at hd; cases hd
  | some k =>
    rw [q] at hd
    cases hd
    obtain ⟨h1, h2⟩ := List.getElem?_eq_some_iff.mp q
    rw [List.getElem_range] at h2
    subst h2
    rw [List.length_range] at h1
    refine ⟨h1, fun x H' ⟨e, y⟩ => ?_⟩
    subst e y
    exact ⟨g, G, .refl, .int _⟩
def rangeC (lo c : Int) (n : Nat) : List D := (List.range n).map fun (k : Nat) => .int (lo + (k : Int) * c)
theorem wk_rangeC {g1 : Gh} {lo c : Int} {n : Nat} : Wk X (Itc lo c n) (rangeC lo c n) g1 := fun g H S G l i => by
  unfold rangeC
  refine ⟨fun d hd => ?_, fun e => by rw [List.length_map, List.length_range] at e; show n ≤ i; omega⟩
  rw [List.getElem?_map] at hd
  cases q : (List.range n)[i]? with
  | none => rw [q] at hd; cases hd
  | some k =>
    rw [q] at hd
    cases hd
    obtain ⟨h1, h2⟩ := List.getElem?_eq_some_iff.mp q
    rw [List.getElem_range] at h2
    subst h2
    rw [List.length_range] at h1
    refine ⟨h1, fun x H' ⟨e, y⟩ => ?_⟩
    subst e y
    exact ⟨g, G, .refl, .int _⟩
def enumD (ds : List D) : List D := (List.range ds.length).map fun (k : Nat) => .tup [.int (k : Int), ds.getD k .non]
theorem enumD_get {ds : List D} {i : Nat} {d : D} (h : (enumD ds)[i]? = some d) : ∃ x, ds[i]? = some x ∧ d = .tup [.int (i : Int), x] := by
  unfold enumD at h
  rw [List.getElem?_map] at h
  cases q : (List.range ds.length)[i]? with
  | none => rw [q] at h; cases h
  | some k =>
    rw [q] at h
    obtain ⟨h1, h2⟩ := List.getElem?_eq_some_iff.mp q
    rw [List.getElem_range] at h2
    subst h2
    rw [List.length_range] at h1
    cases h
    refine ⟨ds[i], by simp [h1], ?_⟩
    simp [List.getD, h1]
theorem wk_enumT {g1 : Gh} {a : Addr} {vs : List V} {ds : List D} (h : g1.F a = some (.tup vs)) (r : Reps X.K X.mg g1 vs ds) : Wk X (IteT X.K a) (enumD ds) g1 := fun g H S G l i => by
  have hq : SqT X.K H a vs := SqT.of (G.sub _ _ (l.F _ _ h))
  refine ⟨fun d hd => ?_, fun e => ⟨vs, hq, by rw [r.length, ← e]; simp [enumD]⟩⟩
  obtain ⟨x, hx, rfl⟩ := enumD_get hd
  obtain ⟨v, hv, rv⟩ := r.get hx
  refine ⟨⟨vs, v, hq, hv⟩, fun z H' ⟨T, y, e1, hT, e2, hy⟩ => ?_⟩
  subst e1 e2
  have := hy vs hq
  rw [hv] at this
  cases this
  exact ⟨_, G.add hT, stp_add G hT, .newT G hT (.cons (.int _) (.one (rv.mono l)))⟩
theorem wk_enumL {g1 : Gh} {a : Addr} {vs : List V} {ds : List D} (h : g1.F a = some (.lst vs)) (r : Reps X.K X.mg g1 vs ds) : Wk X (Ite X.K a) (enumD ds) g1 := fun g H S G l i => by
  have hq : SqL X.K H a vs := SqL.of (G.sub _ _ (l.F _ _ h))
  refine ⟨fun d hd => ?_, fun e => ⟨vs, hq, by rw [r.length, ← e]; simp [enumD]⟩⟩
  obtain ⟨x, hx, rfl⟩ := enumD_get hd
  obtain ⟨v, hv, rv⟩ := r.get hx
  refine ⟨⟨vs, v, hq, hv⟩, fun z H' ⟨T, y, e1, hT, e2, hy⟩ => ?_⟩
  subst e1 e2
  have := hy vs hq
  rw [hv] at this
  cases this
  exact ⟨_, G.add hT, stp_add G hT, .newT G hT (.cons (.int _) (.one (rv.mono l)))⟩
def zipD (xs ys : List D) : List D := (xs.zip ys).map fun p => .tup [p.1, p.2]
theorem zipD_get {xs ys : List D} {i : Nat} {d : D} (h : (zipD xs ys)[i]? = some d) : ∃ x y, xs[i]? = some x ∧ ys[i]? = some y ∧ d = .tup [x, y] := by
  unfold zipD at h
  rw [List.getElem?_map] at h
  cases q : (xs.zip ys)[i]? with
  | none => rw [q] at h; cases h
  | some p =>
    rw [q] at h
    cases h
    obtain ⟨h1, h2⟩ := List.getElem?_zip_eq_some.mp q
    exact ⟨p.1, p.2, h1, h2, rfl⟩
theorem zipD_stop {xs ys : List D} {vs ws : List V} {g : Gh} (r : Reps X.K X.mg g vs xs) (r2 : Reps X.K X.mg g ws ys) {i : Nat} (e : (zipD xs ys).length = i) : vs.length ≤ i ∨ ws.length ≤ i := by
  unfold zipD at e
  rw [List.length_map, List.length_zip] at e
  rw [r.length, r2.length]
  omega
theorem wk_zipT {g1 : Gh} {a b : Addr} {vs ws : List V} {ds es : List D} (h : g1.F a = some (.tup vs)) (r : Reps X.K X.mg g1 vs ds) (h2 : g1.F b = some (.tup ws)) (r2 : Reps X.K X.mg g1 ws es) : Wk X (RZ.ItzT X.K a b) (zipD ds es) g1 := fun g H S G l i => by
  have hq : SqT X.K H a vs := SqT.of (G.sub _ _ (l.F _ _ h))
  have hq2 : SqT X.K H b ws := SqT.of (G.sub _ _ (l.F _ _ h2))
  refine ⟨fun d hd => ?_, fun e => ⟨vs, ws, hq, hq2, zipD_stop r r2 e⟩⟩
  obtain ⟨x, y, hx, hy, rfl⟩ := zipD_get hd
  obtain ⟨v, hv, rv⟩ := r.get hx
  obtain ⟨w, hw, rw'⟩ := r2.get hy
  refine ⟨⟨vs, ws, v, w, hq, hq2, hv, hw⟩, fun z H' ⟨T, x', y', e1, hT, e2, hx', hy'⟩ => ?_⟩
  subst e1 e2
  have q1 := hx' vs hq
  have q2 := hy' ws hq2
  rw [hv] at q1
  rw [hw] at q2
  cases q1
  cases q2
  exact ⟨_, G.add hT, stp_add G hT, .newT G hT (.cons (rv.mono l) (.one (rw'.mono l)))⟩
theorem wk_zipL {g1 : Gh} {a b : Addr} {vs ws : List V} {ds es : List D} (h : g1.F a = some (.lst vs)) (r : Reps X.K X.mg g1 vs ds) (h2 : g1.F b = some (.lst ws)) (r2 : Reps X.K X.mg g1 ws es) : Wk X (Itz X.K a b) (zipD ds es) g1 := fun g H S G l i => by
  have hq : SqL X.K H a vs := SqL.of (G.sub _ _ (l.F _ _ h))
  have hq2 : SqL X.K H b ws := SqL.of (G.sub _ _ (l.F _ _ h2))
  refine ⟨fun d hd => ?_, fun e => ⟨vs, ws, hq, hq2, zipD_stop r r2 e⟩⟩
  obtain ⟨x, y, hx, hy, rfl⟩ := zipD_get hd
  obtain ⟨v, hv, rv⟩ := r.get hx
  obtain ⟨w, hw, rw'⟩ := r2.get hy
  refine ⟨⟨vs, ws, v, w, hq, hq2, hv, hw⟩, fun z H' ⟨T, x', y', e1, hT, e2, hx', hy'⟩ => ?_⟩
  subst e1 e2
  have q1 := hx' vs hq
  have q2 := hy' ws hq2
  rw [hv] at q1
  rw [hw] at q2
  cases q1
  cases q2
  exact ⟨_, G.add hT, stp_add G hT, .newT G hT (.cons (rv.mono l) (.one (rw'.mono l)))⟩
def sItL (se : SE) : SI := fun ρ S => (se ρ S).then fun d S' => match d with
  | .lst xs => .ok xs S'
  | .scr ns => .ok (ns.map .int) S'
  | _ => .bad
def sItT (se : SE) : SI := fun ρ S => (se ρ S).then fun d S' => match d with
  | .tup xs => .ok xs S'
  | _ => .bad
theorem simi_list {tg : Expr} (h : SimE X own e se) : SimI X own tg e (sItL se) := pi_weak (pi_list h) fun σ H R ⟨g0, H0, ρ, g, S, E, q⟩ => by
  obtain ⟨ds, S', e1, k⟩ := Res.post_ex q
  obtain ⟨d, S1, e2, e1⟩ := Res.then_ex e1
  refine ⟨g0, H0, ρ, g, S, E, ?_⟩
  rw [e2]
  intro v g1 H1 G1 s1 r1
  cases r1 with
  | lst h r => cases e1; exact ⟨_, rfl, ⟨_, SqL.of (G1.sub _ _ h)⟩, k _ g1 H1 G1 s1 (wk_list h r)⟩
  | scr h => cases e1; exact ⟨_, rfl, ⟨_, G1.sub.seq h⟩, k _ g1 H1 G1 s1 (wk_scr h)⟩
  | _ => cases e1
theorem simi_tup {tg : Expr} (h : SimE X own e se) : SimI X own tg e (sItT se) := pi_weak (pi_tup h) fun σ H R ⟨g0, H0, ρ, g, S, E, q⟩ => by
  obtain ⟨ds, S', e1, k⟩ := Res.post_ex q
  obtain ⟨d, S1, e2, e1⟩ := Res.then_ex e1
  refine ⟨g0, H0, ρ, g, S, E, ?_⟩
  rw [e2]
  intro v g1 H1 G1 s1 r1
  cases r1 with
  | tup h r => cases e1; exact ⟨_, rfl, ⟨_, SqT.of (G1.sub _ _ h)⟩, k _ g1 H1 G1 s1 (wk_tup h r)⟩
  | _ => cases e1
@[irreducible] def rgOk (i : Int) : Bool := decide (i.natAbs.log2 < 62)
theorem rgOk_ok {i : Int} (h : rgOk i = true) : -(2 ^ 62) ≤ i ∧ i < 2 ^ 62 := by
  unfold rgOk at h
  have h := lg_lt (of_decide_eq_true h)
  have e : (2 : Int) ^ 62 = 4611686018427387904 := by decide
  have e2 : (2 : Nat) ^ 62 = 4611686018427387904 := by decide
  rw [e]
  omega
theorem rgOk_of {i : Int} (h : i.natAbs < 4611686018427387904) : rgOk i = true := by
  unfold rgOk
  exact decide_eq_true (lt_lg (by decide) h)
def dRange : List D → Option (List D)
  | [.int j] => if rgOk j then some (rangeD 0 j.toNat) else none
  | [.int i, .int j] => if rgOk i && rgOk j then some (rangeD i (j - i).toNat) else none
  | [.int i, .int j, .int (-1)] => if rgOk i && rgOk j then some (rangeC i (-1) (i - j).toNat) else none
  | _ => none
def sItR (sas : List (Bool × SE)) : SI := fun ρ S => (sArgs sas ρ S).then fun ds S' => optR (dRange ds) S'
variable {sas : List (Bool × SE)} {a b c : Expr} {p : Pos}
theorem simi_range1 {tg : Expr} (hg : Gl X "range") (hm : X.mg "range" = none) (ha : SimA X own [a] sas) (hs : starEach [a] X.env = [(false, eval a X.env)] := by rfl) (hl : sas.length = 1 := by rfl) (hst : (sas.all fun a => !a.1) = true := by rfl) : SimI X own tg (.Call (.Name "range" p) [a] [] pos) (sItR sas) :=
  pi_weak (pi_range1 hg hm ha hs) fun σ H R ⟨g0, H0, ρ, g, S, E, q⟩ => by
    obtain ⟨ds, S', e1, k⟩ := Res.post_ex q
    obtain ⟨as, S1, e2, e1⟩ := Res.then_ex e1
    obtain ⟨e3, eS⟩ := optR_ex e1
    subst eS
    refine ⟨g0, H0, ρ, g, S, E, ?_⟩
    have hlen := sArgs_len hst e2
    rw [e2]
    intro vs g1 H1 G1 s1 r1
    cases r1 with
    | nil => rw [hl] at hlen; cases hlen
    | cons ra rr => cases rr with
      | cons _ _ => rw [hl] at hlen; simp at hlen
      | nil =>
        cases ra with
        | int j =>
          have e4 : (if rgOk j then some (rangeD 0 j.toNat) else none) = some ds := e3
          split at e4
          · rename_i hj
            cases e4
            obtain ⟨h1, h2⟩ := rgOk_ok hj
            exact ⟨j, rfl, h1, h2, k _ g1 H1 G1 s1 wk_range⟩
          · cases e4
        | _ => cases e3
theorem simi_range2 {tg : Expr} (hg : Gl X "range") (hm : X.mg "range" = none) (ha : SimA X own [a, b] sas) (hs : starEach [a, b] X.env = [(false, eval a X.env), (false, eval b X.env)] := by rfl) (hs2 : starEach [b] X.env = [(false, eval b X.env)] := by rfl) (hl : sas.length = 2 := by rfl) (hst : (sas.all fun a => !a.1) = true := by rfl) : SimI X own tg (.Call (.Name "range" p) [a, b] [] pos) (sItR sas) :=
  pi_weak (pi_range2 hg hm ha hs hs2) fun σ H R ⟨g0, H0, ρ, g, S, E, q⟩ => by
    obtain ⟨ds, S', e1, k⟩ := Res.post_ex q
    obtain ⟨as, S1, e2, e1⟩ := Res.then_ex e1
    obtain ⟨e3, eS⟩ := optR_ex e1
    subst eS
    refine ⟨g0, H0, ρ, g, S, E, ?_⟩
    have hlen := sArgs_len hst e2
    rw [e2]
    intro vs g1 H1 G1 s1 r1
    cases r1 with
    | nil => rw [hl] at hlen; cases hlen
    | cons ra rr => cases rr with
      | nil => rw [hl] at hlen; simp at hlen
      | cons rb rr => cases rr with
        | cons _ _ => rw [hl] at hlen; simp at hlen
        | nil =>
          cases ra with
          | int i => cases rb with
            | int j =>
              have e4 : (if rgOk i && rgOk j then some (rangeD i (j - i).toNat) else none) = some ds := e3
              split at e4
              · rename_i hj
                cases e4
                obtain ⟨h1, h2⟩ := Bool.and_eq_true_iff.mp hj
                obtain ⟨h3, h4⟩ := rgOk_ok h1
                obtain ⟨h5, h6⟩ := rgOk_ok h2
                exact ⟨i, j, rfl, ⟨h3, h4, h5, h6⟩, k _ g1 H1 G1 s1 wk_range⟩
              · cases e4
            | _ => cases e3
          | _ => cases rb <;> cases e3
theorem simi_range3 {tg : Expr} (hpi : ∀ {ta : TA}, PA X [a, b, c] ta → PI X tg e (iRng3 ta)) (ha : SimA X own [a, b, c] sas) (hl : sas.length = 3 := by rfl) (hst : (sas.all fun a => !a.1) = true := by rfl) : SimI X own tg e (sItR sas) :=
  pi_weak (hpi ha) fun σ H R ⟨g0, H0, ρ, g, S, E, q⟩ => by
    obtain ⟨ds, S', e1, k⟩ := Res.post_ex q
    obtain ⟨as, S1, e2, e1⟩ := Res.then_ex e1
    obtain ⟨e3, eS⟩ := optR_ex e1
    subst eS
    refine ⟨g0, H0, ρ, g, S, E, ?_⟩
    have hlen := sArgs_len hst e2
    rw [e2]
    intro vs g1 H1 G1 s1 r1
    unfold dRange at e3
    split at e3
    · rw [hl] at hlen; simp at hlen
    · rw [hl] at hlen; simp at hlen
    · rename_i i j
      split at e3
      · rename_i hj
        cases e3
        cases r1 with
        | cons ra rr => cases rr with
          | cons rb rr => cases rr with
            | cons rc rr =>
              cases rr
              cases ra
              cases rb
              cases rc
              obtain ⟨h1, h2⟩ := Bool.and_eq_true_iff.mp hj
              obtain ⟨h3, h4⟩ := rgOk_ok h1
              obtain ⟨h5, h6⟩ := rgOk_ok h2
              exact ⟨i, j, -1, _, rfl, RgC.neg h3 h4 h5 h6, k _ g1 H1 G1 s1 wk_rangeC⟩
      · cases e3
    · cases e3
def sItE (se : SE) : SI := fun ρ S => (se ρ S).then fun d S' => match d with
  | .tup xs => .ok (enumD xs) S'
  | .lst xs => .ok (enumD xs) S'
  | _ => .bad
theorem simi_enum {elts : List Expr} {kk : Nat} {tpos : Pos} (hg : Gl X "enumerate") (hm : X.mg "enumerate" = none) (h : SimE X own a se) (hs1 : starEach (a :: []) X.env = (false, eval a X.env) :: starEach [] X.env := by rfl) (hs : starEach [a] X.env = [(false, eval a X.env)] := by rfl) : SimI X own (.Tuple elts kk tpos) (.Call (.Name "enumerate" p) [a] [] pos) (sItE se) :=
  pi_weak (pi_enumT hg hm (pa_cons h pa_nil hs1) hs) fun σ H R ⟨g0, H0, ρ, g, S, E, q⟩ => by
    obtain ⟨ds, S', e1, k⟩ := Res.post_ex q
    obtain ⟨d, S1, e2, e1⟩ := Res.then_ex e1
    refine ⟨g0, H0, ρ, g, S, E, ?_⟩
    rw [e2]
    intro v g1 H1 G1 s1 r1
    cases r1 with
    | tup h r => cases e1; exact ⟨_, _, rfl, .inl ⟨SqT.of (G1.sub _ _ h), k _ g1 H1 G1 s1 (wk_enumT h r)⟩⟩
    | lst h r => cases e1; exact ⟨_, _, rfl, .inr ⟨SqL.of (G1.sub _ _ h), k _ g1 H1 G1 s1 (wk_enumL h r)⟩⟩
    | _ => cases e1
def sItZ (sa sb : SE) : SI := fun ρ S => (sa ρ S).then fun x S1 => (sb ρ S1).then fun y S2 => match x, y with
  | .tup xs, .tup ys => .ok (zipD xs ys) S2
  | .lst xs, .lst ys => .ok (zipD xs ys) S2
  | _, _ => .bad
variable {sa sb : SE}
theorem simi_zip {elts : List Expr} {kk : Nat} {tpos : Pos} (hpi : ∀ {ta : TA}, PA X [a, b] ta → PI X (.Tuple elts kk tpos) e (RZ.iZipA X.K ta)) (h : SimE X own a sa) (h2 : SimE X own b sb) (hs1 : starEach (a :: [b]) X.env = (false, eval a X.env) :: starEach [b] X.env := by rfl) (hs2 : starEach (b :: []) X.env = (false, eval b X.env) :: starEach [] X.env := by rfl) : SimI X own (.Tuple elts kk tpos) e (sItZ sa sb) :=
  pi_weak (hpi (pa_cons h (pa_cons h2 pa_nil hs2) hs1)) fun σ H R ⟨g0, H0, ρ, g, S, E, q⟩ => by
    obtain ⟨ds, S', e1, k⟩ := Res.post_ex q
    obtain ⟨x, S1, e2, e1⟩ := Res.then_ex e1
    obtain ⟨y, S2, e3, e1⟩ := Res.then_ex e1
    refine ⟨g0, H0, ρ, g, S, E, ?_⟩
    rw [e2]
    intro v g1 H1 G1 s1 r1
    refine ⟨g0, H0, ρ, g1, S1, E.step G1 s1, ?_⟩
    rw [e3]
    intro v2 g2 H2 G2 s2 r2
    have r1' := r1.mono s2.le
    cases r1' with
    | tup h r => cases r2 with
      | tup h2 r2 => cases e1; exact ⟨_, _, _, _, rfl, .inr ⟨SqT.of (G2.sub _ _ h), SqT.of (G2.sub _ _ h2), k _ g2 H2 G2 (s1.trans s2) (wk_zipT h r h2 r2)⟩⟩
      | _ => cases e1
    | lst h r => cases r2 with
      | lst h2 r2 => cases e1; exact ⟨_, _, _, _, rfl, .inl ⟨SqL.of (G2.sub _ _ h), SqL.of (G2.sub _ _ h2), k _ g2 H2 G2 (s1.trans s2) (wk_zipL h r h2 r2)⟩⟩
      | _ => cases e1
    | _ => cases r2 <;> cases e1
end
end Ev
namespace Ev
open PySem PySem.Spec PyProof.Rows L2
/-! ### loops -/
def forL (body : D → DEnv → M Out) : List D → DEnv → M Out
  | [], ρ => fun S => .ok (.nx ρ) S
  | d :: ds, ρ => fun S => (body d ρ S).then fun o S' => match o with
    | .nx ρ' => forL body ds ρ' S'
    | .ct ρ' => forL body ds ρ' S'
    | .bk ρ' => .ok (.nx ρ') S'
    | .rt d => .ok (.rt d) S'
def fBody (sg : SG) (sb : SS) : D → DEnv → M Out := fun d ρ S => match sg d ρ with
  | some ρ' => sb ρ' S
  | none => .bad
def sFor (si : SI) (sg : SG) (sb : SS) : SS := fun ρ S => (si ρ S).then fun ds S1 => forL (fBody sg sb) ds ρ S1
section
variable {X : Cx} {own ownT own' ob ts : List Nat} {e iter tg : Expr} {body : List Stmt} {si : SI} {sg : SG} {ss : SS} {se : SE} {sb : SB} {pos : Pos}
theorem sim_for (hp : PassesOwn (model X.prog X.w) X.A X.env X.xe) (hc : X.calm = true) (hi : SimI X own tg iter si) (hg : SimG X own ownT ts tg sg) (hb : SimB X ownT own own body ss)
    (hs : ∀ x, foldedSetIterable iter X.env x = pure x := by intro _; rfl) : SimS X own own ob (.For tg iter body [] pos) (sFor si sg ss) := ps_weak (ps_for hp hc hi hg hb hs) fun D σ H ⟨g0, H0, ρ, g, S, E, q⟩ => by
  obtain ⟨o, S', e1, k⟩ := Res.post_ex q
  obtain ⟨ds, S1, e2, e1⟩ := Res.then_ex e1
  refine ⟨g0, H0, ρ, g, S, E, ?_⟩
  rw [e2]
  intro J g1 H1 G1 s1 wk
  refine ⟨fun i m σ H => m + i = ds.length ∧ ∃ ρ g S, EnvOk X.K X.mg g0 H0 own ρ σ g H S ∧ GLe g1 g ∧ (forL (fBody sg ss) (ds.drop i) ρ S).post fun o S' => OutOk X g0 H0 g own ob D S' o,
    ⟨ds.length, rfl, ρ, g1, S1, E.step G1 s1, .refl _, ?_⟩, ?_⟩
  · rw [List.drop_zero, e1]
    exact k.mono s1.le
  · rintro i m σ2 H2 ⟨hm, ρ2, g2, S2, E2, l2, post⟩
    obtain ⟨w1, w2⟩ := wk g2 H2 S2 E2.gok l2 i
    cases hd : ds[i]? with
    | none =>
      have hlen : ds.length ≤ i := List.getElem?_eq_none_iff.mp hd
      have hi' : ds.length = i := by omega
      refine .inl ⟨w2 hi', ?_⟩
      rw [List.drop_eq_nil_of_le hlen] at post
      exact post σ2 g2 H2 (.refl _) E2
    | some d =>
      obtain ⟨go, y⟩ := w1 d hd
      have hlt : i < ds.length := (List.getElem?_eq_some_iff.mp hd).1
      have hdrop : ds.drop i = d :: ds.drop (i + 1) := by
        rw [List.drop_eq_getElem_cons hlt]
        congr 1
        exact (List.getElem?_eq_some_iff.mp hd).2
      rw [hdrop] at post
      refine .inr ⟨go, _, fun σ' H' z => z, fun x H' hy => ?_⟩
      obtain ⟨g3, G3, s3, r3⟩ := y x H' hy
      have post' := Res.post_then.mp (show ((fBody sg ss d ρ2 S2).then fun o S' => match o with
        | .nx ρ' => forL (fBody sg ss) (ds.drop (i + 1)) ρ' S'
        | .ct ρ' => forL (fBody sg ss) (ds.drop (i + 1)) ρ' S'
        | .bk ρ' => .ok (.nx ρ') S'
        | .rt d => .ok (.rt d) S').post _ from post)
      cases hsg : sg d ρ2 with
      | none =>
        unfold fBody at post'
        rw [hsg] at post'
        exact post'.elim
      | some ρ3 =>
        have eb : fBody sg ss d ρ2 S2 = ss ρ3 S2 := by unfold fBody; rw [hsg]
        rw [eb] at post'
        refine ⟨g0, H0, ρ2, g3, S2, d, ρ3, E2.step G3 s3, r3, hsg, fun σ4 _ E4 => ⟨g0, H0, ρ3, g3, S2, E4, Res.post_mono post' fun o S5 p5 => ?_⟩⟩
        cases o with
        | nx ρ5 =>
          intro σ6 g6 H6 l6 E6
          exact ⟨m - 1, by omega, by omega, ρ5, g6, S5, E6, l2.trans (s3.le.trans l6), Res.post_mono p5 fun o S7 p7 => p7.mono (s3.le.trans l6)⟩
        | ct ρ5 =>
          intro σ6 g6 H6 l6 E6
          exact ⟨m - 1, by omega, by omega, ρ5, g6, S5, E6, l2.trans (s3.le.trans l6), Res.post_mono p5 fun o S7 p7 => p7.mono (s3.le.trans l6)⟩
        | bk ρ5 => exact fun σ6 g6 H6 l6 E6 => p5 σ6 g6 H6 (s3.le.trans l6) E6
        | rt d => exact p5
def whL : Nat → SB → SS → SS
  | 0, _, _ => fun _ _ => .bad
  | n + 1, c, b => fun ρ S => (c ρ S).then fun t S1 => if t then (b ρ S1).then fun o S2 => (match o with
    | .nx ρ' => whL n c b ρ' S2
    | .ct ρ' => whL n c b ρ' S2
    | .bk ρ' => .ok (.nx ρ') S2
    | .rt d => .ok (.rt d) S2) else .ok (.nx ρ) S1
theorem sim_while {n : Nat} {c : Expr} (hp : PassesOwn (model X.prog X.w) X.A X.env X.xe) (hc : SimT X own c sb) (hb : SimB X own own own body ss) : SimS X own own ob (.While c body [] pos) (whL n sb ss) := ps_weak (ps_while hp hc hb) fun D σ H ⟨g0, H0, ρ, g, S, E, q⟩ => by
  refine ⟨fun m σ H => ∃ ρ g S, EnvOk X.K X.mg g0 H0 own ρ σ g H S ∧ (whL m sb ss ρ S).post fun o S' => OutOk X g0 H0 g own ob D S' o, ⟨n, ρ, g, S, E, q⟩, ?_⟩
  rintro m σ1 H1 ⟨ρ1, g1, S1, E1, post⟩
  cases m with
  | zero => exact post.elim
  | succ m =>
    obtain ⟨o, S', e1, k⟩ := Res.post_ex post
    obtain ⟨t, S2, e2, e1⟩ := Res.then_ex e1
    refine ⟨g0, H0, ρ1, g1, S1, E1, ?_⟩
    rw [e2]
    intro g2 H2 G2 s2
    cases t with
    | false =>
      rw [if_neg Bool.false_ne_true]
      have e1' : (Res.ok (.nx ρ1) S2 : Res Out) = .ok o S' := e1
      cases e1'
      exact k σ1 g2 H2 s2.le (E1.step G2 s2)
    | true =>
      rw [if_pos rfl]
      refine ⟨_, fun σ' H' z => z, g0, H0, ρ1, g2, S2, E1.step G2 s2, ?_⟩
      have e1' : ((ss ρ1 S2).then fun o S2 => (match o with
        | .nx ρ' => whL m sb ss ρ' S2
        | .ct ρ' => whL m sb ss ρ' S2
        | .bk ρ' => .ok (.nx ρ') S2
        | .rt d => .ok (.rt d) S2)) = .ok o S' := e1
      obtain ⟨o3, S3, e3, e4⟩ := Res.then_ex e1'
      rw [e3]
      cases o3 with
      | nx ρ3 =>
        intro σ4 g4 H4 l4 E4
        have e4' : whL m sb ss ρ3 S3 = .ok o S' := e4
        exact ⟨m, Nat.lt_succ_self _, ρ3, g4, S3, E4, by rw [e4']; exact k.mono (s2.le.trans l4)⟩
      | ct ρ3 =>
        intro σ4 g4 H4 l4 E4
        have e4' : whL m sb ss ρ3 S3 = .ok o S' := e4
        exact ⟨m, Nat.lt_succ_self _, ρ3, g4, S3, E4, by rw [e4']; exact k.mono (s2.le.trans l4)⟩
      | bk ρ3 =>
        cases e4
        exact fun σ4 g4 H4 l4 E4 => k σ4 g4 H4 (s2.le.trans l4) E4
      | rt d =>
        cases e4
        exact k
end
/-! ### comprehensions -/
def compL (f : D → M (Option D)) : List D → M (List D)
  | [] => fun S => .ok [] S
  | d :: ds => fun S => (f d S).then fun y S1 => (compL f ds S1).then fun ys S2 => .ok (match y with
    | some y => y :: ys
    | none => ys) S2
def wipeE (ρ : DEnv) : List Nat → DEnv
  | [] => ρ
  | v :: vs => (wipeE ρ vs).set v none
def cBody (sg : SG) (st : SB) (se : SE) (ρ : DEnv) : D → M (Option D) := fun d S => match sg d ρ with
  | some ρ2 => (st ρ2 S).then fun b S1 => if b then (se ρ2 S1).then fun y S2 => .ok (some y) S2 else .ok none S1
  | none => .bad
def sComp (vs : List Nat) (si : SI) (sg : SG) (st : SB) (se : SE) : SE := fun ρ S => (si ρ S).then fun ds S1 => (compL (cBody sg st se (wipeE ρ vs)) ds S1).then fun ys S2 => if ys.length ≤ sizeLine then .ok (.lst ys) S2 else .bad
theorem sComp_lst {vs : List Nat} {si : SI} {sg : SG} {st : SB} {se : SE} {ρ : DEnv} {S S' : Sto} {d : D} (e : sComp vs si sg st se ρ S = .ok d S') : ∃ ds, d = .lst ds := by
  obtain ⟨ds, S1, _, e1⟩ := Res.then_ex e
  obtain ⟨ys, S2, _, e1⟩ := Res.then_ex e1
  split at e1
  · cases e1; exact ⟨_, rfl⟩
  · cases e1
def sYes : SB := fun _ S => .ok true S
section
variable {K : PySem.W.Frag} {mg : Str → Option Value} {g0 g : Gh} {H0 H : Hp} {S : Sto} {own : List Nat} {ρ : DEnv} {σ : L2.St}
theorem EnvOk.forget (E : EnvOk K mg g0 H0 own ρ σ g H S) {i : Nat} (hi : i ∉ own) : EnvOk K mg g0 H0 own (ρ.set i none) (σ.set i none) g H S where
  gok := E.gok
  stp := E.stp
  len := by rw [List.length_set, List.length_set, E.len]
  fro := fun j d' hj n => by
    by_cases e : i = j
    · subst e
      have hi : i < ρ.length := by
        have := (List.getElem?_eq_some_iff.mp hj).1
        simpa using this
      rw [List.getElem?_set_self hi] at hj
      cases hj
    · rw [List.getElem?_set_ne e] at hj
      obtain ⟨w, q1, q2⟩ := E.fro j d' hj n
      exact ⟨w, by rw [List.getElem?_set_ne e]; exact q1, q2⟩
  ow := fun j hj => by
    have ne : i ≠ j := fun z => hi (z ▸ hj)
    obtain ⟨p, d', h1, h2, h3⟩ := E.ow j hj
    exact ⟨p, d', by rw [List.getElem?_set_ne ne]; exact h1, by rw [List.getElem?_set_ne ne]; exact h2, h3⟩
  dis := fun j hj k hk ne => by
    have n1 : i ≠ j := fun z => hi (z ▸ hj)
    have n2 : i ≠ k := fun z => hi (z ▸ hk)
    rw [List.getElem?_set_ne n1, List.getElem?_set_ne n2]
    exact E.dis j hj k hk ne
theorem EnvOk.wipe (E : EnvOk K mg g0 H0 own ρ σ g H S) : ∀ {vs : List Nat}, (∀ i ∈ vs, i ∉ own) → EnvOk K mg g0 H0 own (wipeE ρ vs) (wipe σ vs) g H S
  | [], _ => E
  | v :: vs, h => (EnvOk.wipe E (vs := vs) fun i hi => h i (List.mem_cons_of_mem _ hi)).forget (h v List.mem_cons_self)
/-- an object aside is written -/
theorem EnvOk.aside (E : EnvOk K mg g0 H0 own ρ σ g H S) {p : Addr} {o : HO} {xs : List V} (hp : H p = some (.lst xs)) (h1 : g.F p = none) (h2 : p ∉ g.as) (h3 : H0 p = none) (hne : ∀ j ∈ own, σ[j]? ≠ some (some (.ref p))) : EnvOk K mg g0 H0 own ρ σ g (upd H p o) S := by
  have Fne : ∀ {b : Addr} {u : HO}, g.F b = some u → b ≠ p := fun {b u} e z => by rw [z, h1] at e; cases e
  refine ⟨⟨fun b u e => by rw [upd_ne (Fne e)]; exact E.gok.sub _ _ e, E.gok.nd, E.gok.len, E.gok.nf, fun j a ha => ?_⟩, ⟨E.stp.le, fun b u e n => ?_, fun b e => ?_, E.stp.newF, E.stp.newA⟩, E.len, E.fro, fun j hj => ?_, E.dis⟩
  · obtain ⟨kvs, kds, q1, q2, q3⟩ := E.gok.st j a ha
    exact ⟨kvs, kds, by rw [upd_ne (fun z : a = p => h2 (z ▸ List.mem_of_getElem? ha))]; exact q1, q2, q3⟩
  · rw [upd_ne (fun z : b = p => by rw [z, h3] at e; cases e)]
    exact E.stp.keep b u e n
  · by_cases z : b = p
    · rw [z, upd_same]; exact fun z => nomatch z
    · rw [upd_ne z]; exact E.stp.there b e
  · obtain ⟨q, d', q1, q2, b1, b2, b3, b4⟩ := E.ow j hj
    have nq : q ≠ p := fun z => hne j hj (by rw [q2, z])
    refine ⟨q, d', q1, q2, b1, b2, b3, ?_⟩
    rcases b4 with ⟨vs', ds', e', h', r'⟩ | ⟨C', dy, c', fvs', fs', e', hm', h', hd', f1, f2, f3, r'⟩
    · exact .inl ⟨vs', ds', e', by rw [upd_ne nq]; exact h', r'⟩
    · exact .inr ⟨C', dy, c', fvs', fs', e', hm', by rw [upd_ne nq]; exact h', by rw [upd_ne (ne_of hd' hp (fun z => nomatch z))]; exact hd', f1, f2, f3, r'⟩
theorem wipe_apart {σ σ' : L2.St} : ∀ {vs : List Nat}, (∀ j, j ∉ vs → σ'[j]? = σ[j]?) → σ'.length = σ.length → wipe σ' vs = wipe σ vs := fun {vs} h hl => by
  apply List.ext_getElem?
  intro j
  have get : ∀ (τ : L2.St) (vs : List Nat), (wipe τ vs)[j]? = if j ∈ vs ∧ j < τ.length then some none else τ[j]? := fun τ vs => by
    induction vs with
    | nil => simp [wipe]
    | cons v vs ih =>
      unfold wipe
      by_cases e : v = j
      · subst e
        by_cases hlt : v < τ.length
        · rw [List.getElem?_set_self (by rw [wipe_length]; exact hlt)]
          simp [hlt]
        · rw [List.getElem?_eq_none (by rw [List.length_set, wipe_length]; omega)]
          simp [hlt]
      · rw [List.getElem?_set_ne e, ih]
        have : (j ∈ v :: vs) ↔ j ∈ vs := by simp [Ne.symm e]
        simp only [this]
  rw [get, get, hl]
  by_cases hj : j ∈ vs
  · by_cases hlt : j < σ.length
    · simp [hj, hlt]
    · have h1 : σ'[j]? = none := List.getElem?_eq_none (by omega)
      have h2 : σ[j]? = none := List.getElem?_eq_none (by omega)
      simp only [hlt, and_false, if_false, h1, h2]
  · simp [hj, h j hj]
end
section
variable {X : Cx} {own own' ts vs : List Nat} {si : SI} {sg : SG} {st : SB} {se : SE}
theorem comp_of (hv : ∀ i ∈ vs, i ∉ own) (hts : ∀ i ∈ ts, i ∈ vs) {σ : L2.St} {H : Hp} {Q : VK} (h : tF X own (sComp vs si sg st se) σ H Q) : tLc (tI X own si) (tG X own own' ts sg) (tB X own' st) (tE X own' se) vs σ H Q := by
  obtain ⟨g0, H0, ρ, g, S, E, q⟩ := h
  obtain ⟨d, S', e1, k⟩ := Res.post_ex q
  obtain ⟨ds, S1, e2, e1⟩ := Res.then_ex e1
  obtain ⟨ys, S2, e3, e1⟩ := Res.then_ex e1
  split at e1
  · rename_i hz
    cases e1
    obtain ⟨ds', ed, k⟩ := k
    cases ed
    refine ⟨g0, H0, ρ, g, S, E, ?_⟩
    rw [e2]
    intro J g1 H1 G1 s1 wk L hL
    have hHL : H L = none := by
      cases q : H L with
      | none => rfl
      | some o => exact absurd hL (s1.there L (by rw [q]; exact fun z => nomatch z))
    have hH0L := E.new0 hHL
    have other := E.other hHL
    have E1 := E.step G1 s1
    refine ⟨fun i m H2 => m + i = ds.length ∧ ∃ g2 S2' acc as, EnvOk X.K X.mg g0 H0 own (wipeE ρ vs) (wipe σ vs) g2 H2 S2' ∧ Stp g H g2 H2 ∧ GLe g1 g2 ∧ H2 L = some (.lst acc) ∧ g2.F L = none ∧ L ∉ g2.as ∧ Reps X.K X.mg g2 acc as ∧
      ∃ zs, compL (cBody sg st se (wipeE ρ vs)) (ds.drop i) S2' = .ok zs S' ∧ as ++ zs = ys, ⟨ds.length, rfl, g1, S1, [], [], ?_⟩, ?_⟩
    · refine ⟨(E1.step (G1.fresh hL) (stp_fresh hL)).wipe hv, s1.trans (stp_fresh hL), .refl _, upd_same, G1.nfree hL, G1.notin hL, .nil, ys, ?_, rfl⟩
      rw [List.drop_zero]
      exact e3
    · rintro i m H2 ⟨hm, g2, S3, acc, as, E2, s2, l2, hLa, hLF, hLA, rs, zs, ez, eys⟩
      have hneL : ∀ j ∈ own, (wipe σ vs)[j]? ≠ some (some (.ref L)) := fun j hj e => other j hj (wipe_some e).1
      obtain ⟨w1, w2⟩ := wk g2 H2 S3 E2.gok l2 i
      cases hd : ds[i]? with
      | none =>
        have hlen : ds.length ≤ i := List.getElem?_eq_none_iff.mp hd
        rw [List.drop_eq_nil_of_le hlen] at ez
        cases ez
        rw [List.append_nil] at eys
        subst eys
        exact .inl ⟨w2 (by omega), k L acc g2 H2 E2.gok s2 hLa hLF hLA hHL rs⟩
      | some d =>
        obtain ⟨go, y⟩ := w1 d hd
        have hlt : i < ds.length := (List.getElem?_eq_some_iff.mp hd).1
        have hdrop : ds.drop i = d :: ds.drop (i + 1) := by
          rw [List.drop_eq_getElem_cons hlt]
          congr 1
          exact (List.getElem?_eq_some_iff.mp hd).2
        rw [hdrop] at ez
        obtain ⟨yo, S4, e4, e5⟩ := Res.then_ex ez
        obtain ⟨zs', S5, e6, e7⟩ := Res.then_ex e5
        cases e7
        refine .inr ⟨go, _, fun H' z => z, fun x H' hy => ?_⟩
        obtain ⟨g3, G3, s3, r3⟩ := y x H' hy
        cases hsg : sg d (wipeE ρ vs) with
        | none => unfold cBody at e4; rw [hsg] at e4; cases e4
        | some ρ3 =>
          have eb : cBody sg st se (wipeE ρ vs) d S3 = (st ρ3 S3).then fun b S1 => if b then (se ρ3 S1).then fun y S2 => .ok (some y) S2 else .ok none S1 := by unfold cBody; rw [hsg]
          rw [eb] at e4
          have E3 := E2.step G3 s3
          refine ⟨g0, H0, wipeE ρ vs, g3, S3, d, ρ3, E3, r3, hsg, fun σ4 ap E4 => ⟨?_, ?_⟩⟩
          · have a1 : wipe σ4 vs = wipe (wipe σ vs) vs := wipe_apart (fun j hj => ap.2 j fun z => hj (hts j z)) ap.1
            rw [a1]
            exact wipe_apart (fun j hj => wipe_out hj) (wipe_length _ _)
          · obtain ⟨b, S6, e8, e9⟩ := Res.then_ex e4
            refine ⟨g0, H0, ρ3, g3, S3, E4, ?_⟩
            rw [e8]
            intro g7 H7 G7 s7
            have sl : Stp g2 H2 g7 H7 := s3.trans s7
            cases b with
            | true =>
              rw [if_pos rfl]
              have e9' : ((se ρ3 S6).then fun y S2 => Res.ok (some y) S2) = .ok yo S4 := e9
              obtain ⟨yv, S8, e10, e11⟩ := Res.then_ex e9'
              cases e11
              refine ⟨g0, H0, ρ3, g7, S6, E4.step G7 s7, ?_⟩
              rw [e10]
              intro v g8 H8 G8 s8 r8
              have s28 := sl.trans s8
              have hL8 : H8 L = some (.lst acc) := s28.keep _ _ hLa hLA
              have hF8 : g8.F L = none := by
                cases q : g8.F L with
                | none => rfl
                | some u =>
                  rcases s28.newF L (by rw [q]; exact fun z => nomatch z) with z | z
                  · exact absurd hLF z
                  · rw [hLa] at z; cases z
              have hA8 : L ∉ g8.as := fun z => (s28.newA L z).elim hLA fun z => by rw [hLa] at z; cases z
              have E8 := (E2.step G8 s28).aside (o := .lst (acc ++ [v])) hL8 hF8 hA8 hH0L hneL
              have hys : (as ++ yv :: zs').length ≤ sizeLine := by
                have : as ++ (match some yv with | some y => y :: zs' | none => zs') = ys := eys
                have e : as ++ yv :: zs' = ys := this
                rw [e]; exact hz
              refine ⟨acc, hL8, ?_, m - 1, by omega, by omega, g8, _, acc ++ [v], as ++ [yv], E8, ?_, l2.trans s28.le, upd_same, hF8, hA8, (rs.mono s28.le).append (.one r8), zs', e6, ?_⟩
              · rw [rs.length]
                rw [List.length_append, List.length_cons] at hys
                omega
              · refine ⟨s2.le.trans s28.le, fun b u e n => ?_, fun b e => ?_, fun b e => (s2.trans s28).newF b e, fun b e => (s2.trans s28).newA b e⟩
                · rw [upd_ne (fun z : b = L => by rw [z, hHL] at e; cases e)]
                  exact (s2.trans s28).keep b u e n
                · by_cases z : b = L
                  · rw [z, upd_same]; exact fun z => nomatch z
                  · rw [upd_ne z]; exact (s2.trans s28).there b e
              · rw [List.append_assoc]; exact eys
            | false =>
              rw [if_neg Bool.false_ne_true]
              have e9' : (Res.ok none S6 : Res (Option D)) = .ok yo S4 := e9
              cases e9'
              have hL8 : H7 L = some (.lst acc) := sl.keep _ _ hLa hLA
              have hF8 : g7.F L = none := by
                cases q : g7.F L with
                | none => rfl
                | some u =>
                  rcases sl.newF L (by rw [q]; exact fun z => nomatch z) with z | z
                  · exact absurd hLF z
                  · rw [hLa] at z; cases z
              have hA8 : L ∉ g7.as := fun z => (sl.newA L z).elim hLA fun z => by rw [hLa] at z; cases z
              exact ⟨m - 1, by omega, by omega, g7, _, acc, as, E2.step G7 sl, s2.trans sl, l2.trans sl.le, hL8, hF8, hA8, rs.mono sl.le, zs', e6, eys⟩
  · cases e1
end
end Ev
namespace Ev
open PySem PySem.Spec PyProof.Rows L2
def SimTs (X : Cx) (own : List Nat) (ifs : List Expr) (sb : SB) : Prop := PTs X ifs (tB X own sb)
section
variable {X : Cx} {own own' own1 ob ts vs : List Nat} {e' : Stmt} {e c elt tg iter : Expr} {ifs : List Expr} {si : SI} {sg : SG} {st sb : SB} {se : SE} {ss : SS} {scope : Scope} {ownc : List (Str × Nat)} {pos spos py : Pos} {i : Nat} {y : Str}
theorem pts_weak {t t' : TT} (h : PTs X ifs t) (w : ∀ σ H Q, t' σ H Q → t σ H Q) : PTs X ifs t' := ⟨fun pins s σ H Q I q => h.run pins s σ H Q I (w σ H Q q)⟩
theorem simts_nil : SimTs X own [] sYes := pts_weak pts_nil fun σ H Q ⟨g0, H0, ρ, g, S, E, q⟩ => q g H E.gok .refl
theorem simts_one (h : SimT X own c sb) : SimTs X own [c] sb := pts_one h
def noneIn (vs own : List Nat) : Bool := vs.all fun i => !own.contains i
theorem noneIn_ok {vs own : List Nat} (h : noneIn vs own = true) : ∀ i ∈ vs, i ∉ own := fun i hi => by
  have := List.all_eq_true.mp h i hi
  simpa using this
/-- [elt for tg in iter if ..] -/
theorem simf_comp (hc : X.calm = true) (hN : X.N.Nodup) (hi : SimI X own tg iter si) (ok : BlkOk X.N X.env.scope scope ownc)
    (hg : ∀ (s : Shared) (H : Hp) (C : Addr) (cl : List (Str × Addr)) (fp : List Addr), SimG (X.blk s H scope (compEnvC scope cl C X.env) fp) own own' ts tg sg)
    (ht : ∀ (s : Shared) (H : Hp) (C : Addr) (cl : List (Str × Addr)) (fp : List Addr), SimTs (X.blk s H scope (compEnvC scope cl C X.env) fp) own' ifs st)
    (he : ∀ (s : Shared) (H : Hp) (C : Addr) (cl : List (Str × Addr)) (fp : List Addr), SimE (X.blk s H scope (compEnvC scope cl C X.env) fp) own' elt se)
    (hv : noneIn (ownc.map (·.2)) own = true := by rfl) (hts : subL ts (ownc.map (·.2)) = true := by rfl) (hs : ∀ x, foldedSetIterable iter X.env x = pure x := by intro _; rfl) :
    SimF X own (.ListComp elt [⟨tg, iter, ifs, 0⟩] scope pos) (sComp (ownc.map (·.2)) si sg st se) :=
  pe_weak (pe_lc (g := tG X own own' ts sg) (tt := tB X own' st) (te := tE X own' se) hc hN hi ok (fun s H C cl fp => hg s H C cl fp) (fun s H C cl fp => ht s H C cl fp) (fun s H C cl fp => he s H C cl fp) hs) fun _ _ _ h => comp_of (noneIn_ok hv) (subL_ok hts) h
theorem tF_of {σ : L2.St} {H : Hp} {Q : VK} (hl : ∀ ρ S d S', se ρ S = .ok d S' → ∃ ds, d = .lst ds) (h : tE X own se σ H Q) : tF X own se σ H Q := by
  obtain ⟨g0, H0, ρ, g, S, E, q⟩ := h
  obtain ⟨d, S', e1, k⟩ := Res.post_ex q
  obtain ⟨ds, rfl⟩ := hl _ _ _ _ e1
  refine ⟨g0, H0, ρ, g, S, E, ?_⟩
  rw [e1]
  refine ⟨ds, rfl, fun p vs g' H' G s h1 h2 h3 h4 r => ?_⟩
  have le := gle_add (o := .lst vs) h2
  refine k _ (g'.add p (.lst vs)) H' (G.freeze h1 h2 h3) ⟨s.le.trans le, s.keep, s.there, fun a ha => ?_, s.newA⟩ (.lst (by exact upd_same) (r.mono le))
  by_cases e : a = p
  · subst e; exact .inr h4
  · have ha' : upd g'.F p (.lst vs) a ≠ none := ha
    rw [upd_ne e] at ha'
    exact s.newF a ha'
/-- y = [..], y a local, on one line -/
theorem sim_setLc (hc : X.calm = true) (hN : X.N.Nodup) (hy : X.N[i]? = some y) (hyl : X.env.scope.names.lookup y = some .local)
    (hsw : swapsWith (.ListComp elt [⟨tg, iter, ifs, 0⟩] scope pos) (some (.Name y py)) spos.line X.env = pure true) (hi : SimI X own tg iter si) (ok : BlkOk X.N X.env.scope scope ownc)
    (hg : ∀ (s : Shared) (H : Hp) (C : Addr) (cl : List (Str × Addr)) (fp : List Addr), SimG (X.blk s H scope (compEnvC scope cl C X.env) fp) own own' ts tg sg)
    (ht : ∀ (s : Shared) (H : Hp) (C : Addr) (cl : List (Str × Addr)) (fp : List Addr), SimTs (X.blk s H scope (compEnvC scope cl C X.env) fp) own' ifs st)
    (he : ∀ (s : Shared) (H : Hp) (C : Addr) (cl : List (Str × Addr)) (fp : List Addr), SimE (X.blk s H scope (compEnvC scope cl C X.env) fp) own' elt se)
    (hv : noneIn (ownc.map (·.2)) own = true := by rfl) (hts : subL ts (ownc.map (·.2)) = true := by rfl) (hs : ∀ x, foldedSetIterable iter X.env x = pure x := by intro _; rfl) :
    SimS X own (i :: er own i) ob (.Assign [.Name y py] (.ListComp elt [⟨tg, iter, ifs, 0⟩] scope pos) spos) (sSet i (sComp (ownc.map (·.2)) si sg st se)) :=
  ps_weakN (ps_setLc (g := tG X own own' ts sg) (tt := tB X own' st) (te := tE X own' se) hc hN hy hyl hsw hi ok (fun s H C cl fp => hg s H C cl fp) (fun s H C cl fp => ht s H C cl fp) (fun s H C cl fp => he s H C cl fp) hs) fun _ _ _ hσ h => comp_of (noneIn_ok hv) (subL_ok hts) (setF_of (List.getElem?_eq_some_iff.mp hy).1 hσ (fun _ _ _ _ e => sComp_lst e) h)

/-! ### a, b = x, y and the like; m true: a new list, owned from now on -/
def MR (K : PySem.W.Frag) (mg : Str → Option Value) (m : Bool) (g : Gh) (H Hp0 : Hp) (v : V) (d : D) : Prop := match m with
  | true => ∃ p ws es, v = .ref p ∧ d = .lst es ∧ H p = some (.lst ws) ∧ g.F p = none ∧ p ∉ g.as ∧ Hp0 p = none ∧ Reps K mg g ws es
  | false => Rep K mg g v d
def owm (m : Bool) (i : Nat) (own : List Nat) : List Nat := match m with
  | true => i :: er own i
  | false => er own i
def tX (X : Cx) (m : Bool) (own : List Nat) (se : SE) : TE := fun σ H Q => ∃ g0 H0 ρ g S, EnvOk X.K X.mg g0 H0 own ρ σ g H S ∧ (se ρ S).post fun d S' => ∀ v g' H', GOk X.K X.mg g' H' S' → Stp g H g' H' → MR X.K X.mg m g' H' H v d → Q v H'
def SimX (X : Cx) (m : Bool) (own : List Nat) (e : Expr) (se : SE) : Prop := PE X e (tX X m own se)
theorem SimE.x (h : SimE X own e se) : SimX X false own e se := h
theorem SimF.x (h : SimF X own e se) (hl : ∀ ρ S d S', se ρ S = .ok d S' → ∃ ds, d = .lst ds) : SimX X true own e se := pe_weak h fun σ H Q ⟨g0, H0, ρ, g, S, E, q⟩ => by
  obtain ⟨d, S', e1, k⟩ := Res.post_ex q
  obtain ⟨ds, rfl⟩ := hl _ _ _ _ e1
  refine ⟨g0, H0, ρ, g, S, E, ?_⟩
  rw [e1]
  exact ⟨ds, rfl, fun p vs g' H' G s h1 h2 h3 h4 r => k _ g' H' G s ⟨p, vs, ds, rfl, rfl, h1, h2, h3, h4, r⟩⟩
theorem EnvOk.setX {K : PySem.W.Frag} {mg : Str → Option Value} {g0 g g' : Gh} {H0 H H' : Hp} {S S' : Sto} {own : List Nat} {ρ : DEnv} {σ : L2.St} (E : EnvOk K mg g0 H0 own ρ σ g H S) {m : Bool} {v : V} {d : D} {i : Nat} (hi : i < ρ.length)
    (G : GOk K mg g' H' S') (s : Stp g H g' H') (r : MR K mg m g' H' H v d) : EnvOk K mg g0 H0 (owm m i own) (ρ.set i (some d)) (σ.set i (some v)) g' H' S' := by
  cases m with
  | true =>
    obtain ⟨p, ws, es, rfl, rfl, h1, h2, h3, h4, r⟩ := r
    exact (E.step G s).setF hi h1 h2 h3 (E.new0 h4) r (E.other h4)
  | false => exact (E.step G s).set r
variable {m1 m2 m3 : Bool} {a b : Expr} {sa sb' sc : SE} {j l : Nat}
def sPar2 (i j : Nat) (sa sb : SE) : SS := fun ρ S => (sa ρ S).then fun d1 S1 => (sb ρ S1).then fun d2 S2 => .ok (.nx ((ρ.set i (some d1)).set j (some d2))) S2
def sPar3 (i j l : Nat) (sa sb sc : SE) : SS := fun ρ S => (sa ρ S).then fun d1 S1 => (sb ρ S1).then fun d2 S2 => (sc ρ S2).then fun d3 S3 => .ok (.nx (((ρ.set i (some d1)).set j (some d2)).set l (some d3))) S3
theorem par2_of (hi : i < X.N.length) (hj : j < X.N.length) {D : Ends} {σ : L2.St} {H : Hp} (hσ : σ.length = X.N.length) (h : tS X own (owm m2 j (owm m1 i own)) ob (sPar2 i j sa sb') D σ H) :
    tX X m1 own sa σ H fun v H1 => tX X m2 own sb' σ H1 fun w H2 => ∃ (g : Gh) (S : Sto), GOk X.K X.mg g H2 S ∧ ∀ g' H', GOk X.K X.mg g' H' S → Stp g H2 g' H' → D.nx ((σ.set i (some v)).set j (some w)) H' := by
  obtain ⟨g0, H0, ρ, g, S, E, q⟩ := h
  obtain ⟨o, S', e1, k⟩ := Res.post_ex q
  obtain ⟨d1, S1, e2, e1⟩ := Res.then_ex e1
  obtain ⟨d2, S2, e3, e1⟩ := Res.then_ex e1
  cases e1
  refine ⟨g0, H0, ρ, g, S, E, ?_⟩
  rw [e2]
  intro v g1 H1 G1 s1 r1
  refine ⟨g0, H0, ρ, g1, S1, E.step G1 s1, ?_⟩
  rw [e3]
  intro w g2 H2 G2 s2 r2
  have E1 := E.setX (i := i) (by rw [E.len, hσ]; exact hi) G1 s1 r1
  have E2 := E1.setX (i := j) (by rw [List.length_set, E.len, hσ]; exact hj) G2 s2 r2
  exact ⟨g2, _, G2, fun g' H' G' s' => k _ g' H' ((s1.trans s2).trans s').le (E2.step G' s')⟩
theorem par3_of (hi : i < X.N.length) (hj : j < X.N.length) (hl : l < X.N.length) {D : Ends} {σ : L2.St} {H : Hp} (hσ : σ.length = X.N.length) (h : tS X own (owm m3 l (owm m2 j (owm m1 i own))) ob (sPar3 i j l sa sb' sc) D σ H) :
    tX X m1 own sa σ H fun v H1 => tX X m2 own sb' σ H1 fun w H2 => tX X m3 own sc σ H2 fun u H3 => ∃ (g : Gh) (S : Sto), GOk X.K X.mg g H3 S ∧ ∀ g' H', GOk X.K X.mg g' H' S → Stp g H3 g' H' → D.nx (((σ.set i (some v)).set j (some w)).set l (some u)) H' := by
  obtain ⟨g0, H0, ρ, g, S, E, q⟩ := h
  obtain ⟨o, S', e1, k⟩ := Res.post_ex q
  obtain ⟨d1, S1, e2, e1⟩ := Res.then_ex e1
  obtain ⟨d2, S2, e3, e1⟩ := Res.then_ex e1
  obtain ⟨d3, S3, e4, e1⟩ := Res.then_ex e1
  cases e1
  refine ⟨g0, H0, ρ, g, S, E, ?_⟩
  rw [e2]
  intro v g1 H1 G1 s1 r1
  refine ⟨g0, H0, ρ, g1, S1, E.step G1 s1, ?_⟩
  rw [e3]
  intro w g2 H2 G2 s2 r2
  refine ⟨g0, H0, ρ, g2, S2, E.step G2 (s1.trans s2), ?_⟩
  rw [e4]
  intro u g3 H3 G3 s3 r3
  have E1 := E.setX (i := i) (by rw [E.len, hσ]; exact hi) G1 s1 r1
  have E2 := E1.setX (i := j) (by rw [List.length_set, E.len, hσ]; exact hj) G2 s2 r2
  have E3 := E2.setX (i := l) (by rw [List.length_set, List.length_set, E.len, hσ]; exact hl) G3 s3 r3
  exact ⟨g3, _, G3, fun g' H' G' s' => k _ g' H' (((s1.trans s2).trans s3).trans s').le (E3.step G' s')⟩
section
variable {x y z : Str} {px py' pz pt pt2 : Pos} {kt k2 : Nat}
/-- both names plain locals: no tuple is made -/
theorem sim_par2 (hpe : ∀ {ta : TA}, PA X [a, b] ta → PS X e' (tPar i j ta)) (hi : X.N[i]? = some x) (hj : X.N[j]? = some y) (ha : SimX X m1 own a sa) (hb : SimX X m2 own b sb')
    (h1 : starEach (a :: [b]) X.env = (false, eval a X.env) :: starEach [b] X.env := by rfl) (h2 : starEach (b :: []) X.env = (false, eval b X.env) :: starEach [] X.env := by rfl) : SimS X own (owm m2 j (owm m1 i own)) ob e' (sPar2 i j sa sb') :=
  ps_weakN (hpe (pa_cons ha (pa_cons hb pa_nil h2) h1)) fun D σ H hσ h => by
    obtain ⟨g0, H0, ρ, g, S, E, q⟩ := par2_of (List.getElem?_eq_some_iff.mp hi).1 (List.getElem?_eq_some_iff.mp hj).1 hσ h
    refine ⟨g0, H0, ρ, g, S, E, Res.post_mono q fun d S' k v g1 H1 G1 s1 r1 => ?_⟩
    obtain ⟨g0', H0', ρ', g', S', E', q'⟩ := k v g1 H1 G1 s1 r1
    refine ⟨g0', H0', ρ', g', S', E', Res.post_mono q' fun d S' k v2 g2 H2 G2 s2 r2 => ?_⟩
    obtain ⟨g3, S3, G3, k3⟩ := k v2 g2 H2 G2 s2 r2
    exact ⟨v, v2, rfl, k3 g3 H2 G3 .refl⟩
theorem sim_par3 (hpe : ∀ {ta : TA}, PA X [a, b, c] ta → PS X e' (tPar3 i j l ta)) (hi : X.N[i]? = some x) (hj : X.N[j]? = some y) (hl : X.N[l]? = some z) (ha : SimX X m1 own a sa) (hb : SimX X m2 own b sb') (hc : SimX X m3 own c sc)
    (h1 : starEach (a :: [b, c]) X.env = (false, eval a X.env) :: starEach [b, c] X.env := by rfl) (h2 : starEach (b :: [c]) X.env = (false, eval b X.env) :: starEach [c] X.env := by rfl) (h3 : starEach (c :: []) X.env = (false, eval c X.env) :: starEach [] X.env := by rfl) : SimS X own (owm m3 l (owm m2 j (owm m1 i own))) ob e' (sPar3 i j l sa sb' sc) :=
  ps_weakN (hpe (pa_cons ha (pa_cons hb (pa_cons hc pa_nil h3) h2) h1)) fun D σ H hσ h => by
    obtain ⟨g0, H0, ρ, g, S, E, q⟩ := par3_of (List.getElem?_eq_some_iff.mp hi).1 (List.getElem?_eq_some_iff.mp hj).1 (List.getElem?_eq_some_iff.mp hl).1 hσ h
    refine ⟨g0, H0, ρ, g, S, E, Res.post_mono q fun d S' k v g1 H1 G1 s1 r1 => ?_⟩
    obtain ⟨g0', H0', ρ', g', S', E', q'⟩ := k v g1 H1 G1 s1 r1
    refine ⟨g0', H0', ρ', g', S', E', Res.post_mono q' fun d S' k v2 g2 H2 G2 s2 r2 => ?_⟩
    obtain ⟨g0'', H0'', ρ'', g'', S'', E'', q''⟩ := k v2 g2 H2 G2 s2 r2
    refine ⟨g0'', H0'', ρ'', g'', S'', E'', Res.post_mono q'' fun d S' k v3 g4 H4 G4 s4 r4 => ?_⟩
    obtain ⟨g3, S3, G3, k3⟩ := k v3 g4 H4 G4 s4 r4
    exact ⟨v, v2, v3, rfl, k3 g3 H4 G3 .refl⟩
/-- some name captured: the tuple is made, and taken apart -/
theorem sim_tpar2 (hcalm : X.calm = true) (hN : X.N.Nodup) (hi : X.N[i]? = some x) (hx : Loc X.env.scope x) (hj : X.N[j]? = some y) (hy : Loc X.env.scope y) (ha : SimX X m1 own a sa) (hb : SimX X m2 own b sb')
    (hs : swapsWithSole [.Tuple [.Name x px, .Name y py'] kt pt] (.Tuple [a, b] k2 pt2) pos.line X.env = pure false := by rfl) (hw : swappedStores [.Tuple [.Name x px, .Name y py'] kt pt] (.Tuple [a, b] k2 pt2) X.env = pure none := by rfl)
    (hfx : X.fn x = true ∨ X.env.scope.names.lookup x = some .local := by first | exact .inl rfl | exact .inr rfl | assumption) (hfy : X.fn y = true ∨ X.env.scope.names.lookup y = some .local := by first | exact .inl rfl | exact .inr rfl | assumption)
    (h1 : starEach (a :: [b]) X.env = (false, eval a X.env) :: starEach [b] X.env := by rfl) (h2 : starEach (b :: []) X.env = (false, eval b X.env) :: starEach [] X.env := by rfl) :
    SimS X own (owm m2 j (owm m1 i own)) ob (.Assign [.Tuple [.Name x px, .Name y py'] kt pt] (.Tuple [a, b] k2 pt2) pos) (sPar2 i j sa sb') :=
  ps_weakN (ps_asg (pe_tup (pa_cons ha (pa_cons hb pa_nil h2) h1)) (pg_tup hcalm (pgs_cons (pg_name hN hi hx hfx) (pgs_cons (pg_name hN hj hy hfy) pgs_nil))) hs hw) fun D σ H hσ h => by
    obtain ⟨g0, H0, ρ, g, S, E, q⟩ := par2_of (List.getElem?_eq_some_iff.mp hi).1 (List.getElem?_eq_some_iff.mp hj).1 hσ h
    refine ⟨g0, H0, ρ, g, S, E, Res.post_mono q fun d S' k v g1 H1 G1 s1 r1 => ?_⟩
    obtain ⟨g0', H0', ρ', g', S', E', q'⟩ := k v g1 H1 G1 s1 r1
    refine ⟨g0', H0', ρ', g', S', E', Res.post_mono q' fun d S' k v2 g2 H2 G2 s2 r2 => ?_⟩
    obtain ⟨g3, S3, G3, k3⟩ := k v2 g2 H2 G2 s2 r2
    refine ⟨by show 2 ≤ sizeLine; decide, fun p hp => ⟨p, _, rfl, SqT.of upd_same, rfl, v, _, rfl, v2, _, rfl, rfl, ?_⟩⟩
    exact k3 g3 _ (G3.fresh hp) (stp_fresh hp)
theorem sim_tpar3 (hcalm : X.calm = true) (hN : X.N.Nodup) (hi : X.N[i]? = some x) (hx : Loc X.env.scope x) (hj : X.N[j]? = some y) (hy : Loc X.env.scope y) (hl : X.N[l]? = some z) (hz : Loc X.env.scope z) (ha : SimX X m1 own a sa) (hb : SimX X m2 own b sb') (hc : SimX X m3 own c sc)
    (hs : swapsWithSole [.Tuple [.Name x px, .Name y py', .Name z pz] kt pt] (.Tuple [a, b, c] k2 pt2) pos.line X.env = pure false := by rfl) (hw : swappedStores [.Tuple [.Name x px, .Name y py', .Name z pz] kt pt] (.Tuple [a, b, c] k2 pt2) X.env = pure none := by rfl)
    (hfx : X.fn x = true ∨ X.env.scope.names.lookup x = some .local := by first | exact .inl rfl | exact .inr rfl | assumption) (hfy : X.fn y = true ∨ X.env.scope.names.lookup y = some .local := by first | exact .inl rfl | exact .inr rfl | assumption) (hfz : X.fn z = true ∨ X.env.scope.names.lookup z = some .local := by first | exact .inl rfl | exact .inr rfl | assumption)
    (h1 : starEach (a :: [b, c]) X.env = (false, eval a X.env) :: starEach [b, c] X.env := by rfl) (h2 : starEach (b :: [c]) X.env = (false, eval b X.env) :: starEach [c] X.env := by rfl) (h3 : starEach (c :: []) X.env = (false, eval c X.env) :: starEach [] X.env := by rfl) :
    SimS X own (owm m3 l (owm m2 j (owm m1 i own))) ob (.Assign [.Tuple [.Name x px, .Name y py', .Name z pz] kt pt] (.Tuple [a, b, c] k2 pt2) pos) (sPar3 i j l sa sb' sc) :=
  ps_weakN (ps_asg (pe_tup (pa_cons ha (pa_cons hb (pa_cons hc pa_nil h3) h2) h1)) (pg_tup hcalm (pgs_cons (pg_name hN hi hx hfx) (pgs_cons (pg_name hN hj hy hfy) (pgs_cons (pg_name hN hl hz hfz) pgs_nil)))) hs hw) fun D σ H hσ h => by
    obtain ⟨g0, H0, ρ, g, S, E, q⟩ := par3_of (List.getElem?_eq_some_iff.mp hi).1 (List.getElem?_eq_some_iff.mp hj).1 (List.getElem?_eq_some_iff.mp hl).1 hσ h
    refine ⟨g0, H0, ρ, g, S, E, Res.post_mono q fun d S' k v g1 H1 G1 s1 r1 => ?_⟩
    obtain ⟨g0', H0', ρ', g', S', E', q'⟩ := k v g1 H1 G1 s1 r1
    refine ⟨g0', H0', ρ', g', S', E', Res.post_mono q' fun d S' k v2 g2 H2 G2 s2 r2 => ?_⟩
    obtain ⟨g0'', H0'', ρ'', g'', S'', E'', q''⟩ := k v2 g2 H2 G2 s2 r2
    refine ⟨g0'', H0'', ρ'', g'', S'', E'', Res.post_mono q'' fun d S' k v3 g4 H4 G4 s4 r4 => ?_⟩
    obtain ⟨g3, S3, G3, k3⟩ := k v3 g4 H4 G4 s4 r4
    refine ⟨by show 3 ≤ sizeLine; decide, fun p hp => ⟨p, _, rfl, SqT.of upd_same, rfl, v, _, rfl, v2, _, rfl, v3, _, rfl, rfl, ?_⟩⟩
    exact k3 g3 _ (G3.fresh hp) (stp_fresh hp)
end
end
/-! ### a def's promise by its body -/
def outD (r : Res Out) : Res D := r.then fun o S => match o with
  | .nx _ => .ok .non S
  | .rt d => .ok d S
  | _ => .bad
/-- a def of n names, its body's meaning b -/
def runD (n : Nat) (b : SS) : List D → M D := fun ds S => outD (b (ds.map some ++ List.replicate (n - ds.length) none) S)
theorem start_get {n : Nat} {ds : List D} {i : Nat} {d : D} (h : (ds.map some ++ List.replicate (n - ds.length) (none : Option D))[i]? = some (some d)) : ds[i]? = some d := by
  by_cases hi : i < ds.length
  · rw [List.getElem?_append_left (by simpa using hi), List.getElem?_map] at h
    cases q : ds[i]? with
    | none => rw [q] at h; cases h
    | some x => rw [q] at h; cases h; rfl
  · rw [List.getElem?_append_right (by simpa using hi), List.getElem?_replicate] at h
    split at h <;> cases h
theorem env_start {K : PySem.W.Frag} {mg : Str → Option Value} {g : Gh} {H : Hp} {S : Sto} {vs : List V} {ds : List D} {N : List Str} (G : GOk K mg g H S) (r : Reps K mg g vs ds) (hn : ds.length ≤ N.length) : EnvOk K mg g H [] (ds.map some ++ List.replicate (N.length - ds.length) none) (L2.start N vs) g H S where
  gok := G
  stp := .refl
  len := by
    unfold L2.start
    rw [List.length_append, List.length_append, List.length_map, List.length_map, List.length_replicate, List.length_replicate, r.length]
  fro := fun i d h _ => by
    have h' := start_get h
    obtain ⟨v, hv, rv⟩ := r.get h'
    refine ⟨v, ?_, rv⟩
    unfold L2.start
    have hlt := (List.getElem?_eq_some_iff.mp hv).1
    rw [List.getElem?_append_left (by simpa using hlt), List.getElem?_map, hv] <;> rfl
  ow := fun i hi => by cases hi
  dis := fun i hi => by cases hi
section
variable {P : Program} {w : World} {K : PySem.W.Frag} {mg : Str → Option Value} {base : Heap}
/-- the context of a def's body: nothing leaves it -/
abbrev Ctx (P : Program) (w : World) (K : PySem.W.Frag) (mg : Str → Option Value) (base : Heap) (N : List Str) (qual : Str) (scope : Scope) (f : Addr) (cd : Value) (A : Around) (outer : List Env) (s : Shared) (H : Hp) (E : XK) : Cx := (cxOf CX0 P w K mg base N qual scope f cd A outer s H E).nox
/-- THE RULE for a def -/
theorem gf_of {x qual : Str} {st : Stmt} {f : Addr} {fd : FuncData} {N ps : List Str} {k n : Nat} {b : SS} (F : FunD K x qual (defArgs st) (defBody st) (defScope st) [] [] f fd) {y : Str} (hm : mg y = some (.ref f)) (Sc : FnScope N ps (defScope st)) (hn : ps.length = n) (hN : n ≤ N.length)
    (hb : ∀ (kV doc pm : Value) (an : Option Addr) (cdv ct : Value) (us : List Value), us.length = ps.length → bindArgs (PySem.W.fnOf x qual (defArgs st) (defBody st) (defScope st) .none kV doc pm an cdv ct) ⟨us, []⟩ = pure (ps.zip us))
    (body : ∀ (cdv : Value) (A : Around) (outer : List Env) (s : Shared) (H : Hp) (E : XK), Room k (A.deeper (envOfC qual (defScope st) s.heap.objs.size f cdv)) → SimB (Ctx P w K mg base N qual (defScope st) f cdv A outer s H E) [] [] [] (defBody st) b) :
    GF P w K mg base (k + 1) y n (runD N.length b) := by
  refine ⟨f, fd, ps, hm, F.kp, F.bindsN hb, F.ok Sc (fun vs H Q E h => ?_) (fun cdv A outer s H vs Q E hr h => ⟨_, PSs.nox (body cdv A outer s H E hr), ?_⟩)⟩
  · obtain ⟨g, ds, S, G, r, hl, _⟩ := h
    rw [r.length, hl, hn]
  · obtain ⟨g, ds, S, G, r, hl, q⟩ := h
    refine ⟨g, H, _, g, S, env_start (N := N) G r (by rw [hl]; exact hN), ?_⟩
    have q' : (runD N.length b ds S).post _ := q
    unfold runD outD at q'
    refine Res.post_mono (Res.post_then.mp q') fun o S' k => ?_
    cases o with
    | nx ρ => exact fun σ g1 H1 l1 E1 => k _ g1 H1 E1.gok E1.stp .non
    | rt d => exact fun v g1 H1 G1 s1 r1 => k v g1 H1 G1 s1 r1
    | bk ρ => exact k.elim
    | ct ρ => exact k.elim
end
end Ev
namespace Ev
open PySem PySem.Spec PyProof.Rows L2
/-! ### instances in the making -/
section
variable {K : PySem.W.Frag} {mg : Str → Option Value} {g0 g g' : Gh} {H0 H H' : Hp} {S S' : Sto} {own own' : List Nat} {ρ : DEnv} {σ : L2.St}
theorem EnvOk.writeI (E : EnvOk K mg g0 H0 own ρ σ g H S) {i : Nat} (hi : i ∈ own) {c : Str} {fs gs : List (Str × D)} (h : ρ[i]? = some (some (.obj c fs))) :
    ∃ p C dx fvs, σ[i]? = some (some (.ref p)) ∧ p = g.me ∧ mg c = some (.ref C) ∧ H p = some (.ins C dx fvs) ∧ FReps K mg g fvs fs ∧ ∀ gvs, FReps K mg g gvs gs → EnvOk K mg g0 H0 own (ρ.set i (some (.obj c gs))) σ g (upd H p (.ins C dx gvs)) S := by
  obtain ⟨p, d, h1, h2, a1, a2, a3, a4⟩ := E.ow i hi
  rw [h] at h1
  cases h1
  rcases a4 with ⟨vs, ds', e, hp, r⟩ | ⟨C, dx, c', fvs, fs', ⟨em, e⟩, hm, hp, hd, f1, f2, f3, r⟩
  · cases e
  · cases e
    refine ⟨p, C, dx, fvs, h2, em, hm, hp, r, fun ws rw' => ?_⟩
    have hil : i < ρ.length := (List.getElem?_eq_some_iff.mp h).1
    have Fne : ∀ {b : Addr} {o : HO}, g.F b = some o → b ≠ p := fun {b o} e z => by rw [z, a1] at e; cases e
    have ndp : dx ≠ p := ne_of hd hp (fun z => nomatch z)
    refine ⟨⟨fun b o e => by rw [upd_ne (Fne e)]; exact E.gok.sub _ _ e, E.gok.nd, E.gok.len, E.gok.nf, fun j a ha => ?_⟩, ⟨E.stp.le, fun b o e n => ?_, fun b e => ?_, E.stp.newF, E.stp.newA⟩, by rw [List.length_set]; exact E.len, fun j d' hj n => ?_, fun j hj => ?_, E.dis⟩
    · obtain ⟨kvs, kds, q1, q2, q3⟩ := E.gok.st j a ha
      exact ⟨kvs, kds, by rw [upd_ne (fun z : a = p => a2 (z ▸ List.mem_of_getElem? ha))]; exact q1, q2, q3⟩
    · rw [upd_ne (fun z : b = p => by rw [z, a3] at e; cases e)]
      exact E.stp.keep b o e n
    · by_cases z : b = p
      · rw [z, upd_same]; exact fun z => nomatch z
      · rw [upd_ne z]; exact E.stp.there b e
    · have ne : i ≠ j := fun z => n (z ▸ hi)
      rw [List.getElem?_set_ne ne] at hj
      exact E.fro j d' hj n
    · by_cases e : i = j
      · subst e
        exact ⟨p, _, by rw [List.getElem?_set_self hil], h2, a1, a2, a3, .inr ⟨C, dx, c, ws, gs, ⟨em, rfl⟩, hm, upd_same, by rw [upd_ne ndp]; exact hd, f1, f2, f3, rw'⟩⟩
      · obtain ⟨q, d', q1, q2, b1, b2, b3, b4⟩ := E.ow j hj
        have nq : q ≠ p := fun z => E.dis i hi j hj e (by rw [h2, q2, z])
        refine ⟨q, d', by rw [List.getElem?_set_ne e]; exact q1, q2, b1, b2, b3, ?_⟩
        rcases b4 with ⟨vs', ds', e', h', r'⟩ | ⟨C', dy, c', fvs', fs', e', hm', h', hd', f1, f2, f3, r'⟩
        · exact .inl ⟨vs', ds', e', by rw [upd_ne nq]; exact h', r'⟩
        · exact absurd (e'.1.trans em.symm) nq
end
def sFldI (i : Nat) (cs : List Str) (f : Str) (se : SE) : SS := fun ρ S => (se ρ S).then fun d S' => match ρ[i]? with
  | some (some (.obj c fs)) => if c ∈ cs ∧ fs.length < 1000 then .ok (.nx (ρ.set i (some (.obj c (putD f d fs))))) S' else .bad
  | _ => .bad
theorem putF_eq (f : Str) (v : V) : ∀ fs : List (Str × V), putF f v fs = (match fs with
  | [] => [(f, v)]
  | (x, y) :: r => if x = f then (f, v) :: r else (x, y) :: putF f v r)
  | [] => rfl
  | (x, y) :: r => by
    show (if x = f then (x, v) :: r else (x, y) :: putF f v r) = if x = f then (f, v) :: r else (x, y) :: putF f v r
    by_cases e : x = f
    · subst e; simp
    · simp [e]
section
variable {X : Cx} {own own' own1 ob : List Nat} {e : Expr} {es : List Expr} {se : SE} {sas : List (Bool × SE)} {pos pos' pos2 p : Pos} {i k n : Nat} {x c : Str}
theorem sim_fld {cs : List Str} {f y : Str} (hi : i ∈ own) (ho : PE X (.Name y pos2) (tVar i)) (hv : SimE X own e se) (hA : AttrOk X.K X.mg cs f) (hs : swapsWith e (some (.Attribute (.Name y pos2) f pos')) pos.line X.env = pure false := by rfl) :
    SimS X own own ob (.Assign [.Attribute (.Name y pos2) f pos'] e pos) (sFldI i cs f se) := ps_weak (ps_fld ho hv hs) fun D σ H ⟨g0, H0, ρ, g, S, E, q⟩ => by
  obtain ⟨o, S', e1, k⟩ := Res.post_ex q
  obtain ⟨d, S1, e2, e1⟩ := Res.then_ex e1
  refine ⟨g0, H0, ρ, g, S, E, ?_⟩
  rw [e2]
  intro v g1 H1 G1 s1 r1
  have E1 := E.step G1 s1
  split at e1
  · rename_i c fs h0
    split at e1
    · rename_i hc
      cases e1
      obtain ⟨p, C, dx, fvs, h1, hme, hm, h2, fr, kw⟩ := E1.writeI (gs := putD f d fs) hi h0
      obtain ⟨hcl, hna⟩ := hA c hc.1 C hm
      refine ⟨_, h1, p, C, dx, fvs, rfl, h2, hcl, hna, by rw [fr.length]; exact hc.2, ?_⟩
      exact k _ g1 _ s1.le (kw _ (fr.put r1))
    · cases e1
  · cases e1

/-! ### C(..) -/
def spI (K : PySem.W.Frag) (mg : Str → Option Value) (c : Str) (n : Nat) (m : List D → M D) : Sp := fun vs H Q _ => ∃ g H1 x dx C vs' ds S, mg c = some (.ref C) ∧ vs = .ref x :: vs' ∧ H1 x = none ∧ H1 dx = none ∧ dx ≠ x ∧ H = upd (upd H1 dx (.own x)) x (.ins C dx []) ∧ g.me = x ∧
  GOk K mg g H1 S ∧ Reps K mg g vs' ds ∧ ds.length = n ∧ (m ds S).post fun d S' => ∀ g' H2, GOk K mg g' H2 S' → Stp g H1 g' H2 → Rep K mg g' (.ref x) d → Q .non H2
structure GI (P : Program) (w : World) (K : PySem.W.Frag) (mg : Str → Option Value) (base : Heap) (k : Nat) (c : Str) (n : Nat) (m : List D → M D) : Prop where
  ex : ∃ C f fd ps, mg c = some (.ref C) ∧ Mk K C f ∧ Binds K fd ps [] ∧ FnOk P w K mg base CX0 k f fd ps (spI K mg c n m)
theorem GOk.me {K : PySem.W.Frag} {mg : Str → Option Value} {g : Gh} {H : Hp} {S : Sto} (G : GOk K mg g H S) (x : Addr) : GOk K mg ⟨g.F, g.as, x⟩ H S :=
  ⟨G.sub, G.nd, G.len, G.nf, fun i a h => by
    obtain ⟨kvs, kds, h1, h2, h3⟩ := G.st i a h
    refine ⟨kvs, kds, h1, h2, ?_⟩
    have go : ∀ {vs : List (Key × V)} {ds : List (Key × D)}, KReps K mg g vs ds → KReps K mg ⟨g.F, g.as, x⟩ vs ds := fun r => by
      induction r with
      | nil => exact .nil
      | cons h _ ih => exact .cons (Rep.mono0 (g := g) (g' := ⟨g.F, g.as, x⟩) (Same.refl _) (fun _ _ h => h) h) ih
    exact go h3⟩
theorem sim_make {m : List D → M D} (F : GI X.prog X.w X.K X.mg X.base k x n m) (hr : Room (k + 1) X.A) (hg : Gl X x) (ha : SimA X own (e :: es) sas) (hn : sas.length = n := by rfl) (hst : (sas.all fun a => !a.1) = true := by rfl) (hdb : (x == ("__debug__" : Str)) = false := by decide)
    (he : starEach (e :: es) X.env = (false, eval e X.env) :: starEach es X.env := by rfl) (hpl : (backTo pos (starEach es X.env)).any (·.1) = false := by rfl) : SimE X own (.Call (.Name x p) (e :: es) [] pos) (sCall m sas) := by
  obtain ⟨C, f, fd, ps, hm, M, hb, F⟩ := F.ex
  refine pe_weak (pe_make M F hr hg hm hb .nil pass0 ha hdb he hpl) fun σ H Q ⟨g0, H0, ρ, g, S, E, q⟩ => ?_
  obtain ⟨d, S', e1, k⟩ := Res.post_ex q
  obtain ⟨ds, S1, e2, e1⟩ := Res.then_ex e1
  refine ⟨g0, H0, ρ, g, S, E, ?_⟩
  have hl := sArgs_len hst e2
  rw [e2]
  intro vs g1 H1 G1 s1 r1 xa dx hx hd hne
  rw [List.append_nil]
  refine ⟨⟨g1.F, g1.as, xa⟩, H1, xa, dx, C, vs, ds, S1, hm, rfl, hx, hd, hne, rfl, rfl, G1.me xa, Reps.mono0 (g := g1) (g' := ⟨g1.F, g1.as, xa⟩) (Same.refl _) (fun _ _ h => h) r1, by rw [hl, hn], ?_⟩
  rw [e1]
  intro g2 H2 G2 s2 r2
  refine ⟨rfl, k _ ⟨g2.F, g2.as, g1.me⟩ H2 (G2.me g1.me) (s1.trans ⟨⟨s2.le.F, s2.le.as, rfl⟩, s2.keep, s2.there, s2.newF, s2.newA⟩) (Rep.mono0 (g := g2) (g' := ⟨g2.F, g2.as, g1.me⟩) (Same.refl _) (fun _ _ h => h) r2)⟩
end
def runI (n : Nat) (c : Str) (b : SS) : List D → M D := fun ds S => (b (some (.obj c []) :: (ds.map some ++ List.replicate (n - 1 - ds.length) none)) S).then fun o S' => match o with
  | .nx ρ => (match ρ[0]? with
    | some (some (D.obj c fs)) => .ok (.obj c fs) S'
    | _ => .bad)
  | _ => .bad
section
variable {P : Program} {w : World} {K : PySem.W.Frag} {mg : Str → Option Value} {base : Heap}
theorem env_startI {g : Gh} {H1 : Hp} {S : Sto} {vs : List V} {ds : List D} {N : List Str} {x dx C : Addr} {c : Str} (G : GOk K mg g H1 S) (r : Reps K mg g vs ds) (hn : ds.length + 1 ≤ N.length) (hme : g.me = x) (hx : H1 x = none) (hd : H1 dx = none) (hne : dx ≠ x) (hm : mg c = some (.ref C)) :
    EnvOk K mg g H1 [0] (some (.obj c []) :: (ds.map some ++ List.replicate (N.length - 1 - ds.length) none)) (L2.start N (.ref x :: vs)) g (upd (upd H1 dx (.own x)) x (.ins C dx [])) S := by
  have hx' : upd H1 dx (.own x) x = none := by rw [upd_ne (Ne.symm hne)]; exact hx
  have G2 := (G.fresh (o := .own x) hd).fresh (o := .ins C dx []) hx'
  have s2 : Stp g H1 g (upd (upd H1 dx (.own x)) x (.ins C dx [])) := (stp_fresh hd).trans (stp_fresh hx')
  refine ⟨G2, s2, ?_, fun i d h n => ?_, fun i hi => ?_, fun i hi j hj ne => ?_⟩
  · unfold L2.start
    rw [List.length_append, List.length_map, List.length_replicate, List.length_cons, List.length_cons, List.length_append, List.length_map, List.length_replicate, r.length]
    omega
  · cases i with
    | zero => exact absurd (List.mem_singleton.mpr rfl) n
    | succ i =>
      have h' := start_get (n := N.length - 1) (show (ds.map some ++ List.replicate (N.length - 1 - ds.length) (none : Option D))[i]? = some (some d) from h)
      obtain ⟨v, hv, rv⟩ := r.get h'
      refine ⟨v, ?_, rv⟩
      unfold L2.start
      have hlt := (List.getElem?_eq_some_iff.mp hv).1
      rw [List.getElem?_append_left (by simp; omega), List.getElem?_map]
      show Option.map some ((V.ref x :: vs)[i + 1]?) = _
      rw [List.getElem?_cons_succ, hv] <;> rfl
  · have e : i = 0 := by simpa using hi
    subst e
    refine ⟨x, _, rfl, rfl, G.nfree hx, G.notin hx, hx, .inr ⟨C, dx, c, [], [], ⟨hme.symm, rfl⟩, hm, upd_same, by rw [upd_ne hne, upd_same], G.nfree hd, G.notin hd, hd, .nil⟩⟩
  · have e : i = 0 := by simpa using hi
    have e2 : j = 0 := by simpa using hj
    exact absurd (e.trans e2.symm) ne
theorem gi_of {x qual : Str} {st : Stmt} {f C : Addr} {fd : FuncData} {N ps : List Str} {k n : Nat} {b : SS} {c : Str} (F : FunD K x qual (defArgs st) (defBody st) (defScope st) [] [] f fd) (hm : mg c = some (.ref C)) (M : Mk K C f) (Sc : FnScope N ps (defScope st)) (hn : ps.length = n + 1) (hN : n + 1 ≤ N.length)
    (hb : ∀ (kV doc pm : Value) (an : Option Addr) (cdv ct : Value) (us : List Value), us.length = ps.length → bindArgs (PySem.W.fnOf x qual (defArgs st) (defBody st) (defScope st) .none kV doc pm an cdv ct) ⟨us, []⟩ = pure (ps.zip us))
    (body : ∀ (cdv : Value) (A : Around) (outer : List Env) (s : Shared) (H : Hp) (E : XK), Room k (A.deeper (envOfC qual (defScope st) s.heap.objs.size f cdv)) → SimB (Ctx P w K mg base N qual (defScope st) f cdv A outer s H E) [0] [0] [] (defBody st) b) :
    GI P w K mg base (k + 1) c n (runI N.length c b) := by
  refine ⟨C, f, fd, ps, hm, M, F.bindsN hb, F.ok Sc (fun vs H Q E h => ?_) (fun cdv A outer s H vs Q E hr h => ⟨_, PSs.nox (body cdv A outer s H E hr), ?_⟩)⟩
  · obtain ⟨g, H1, x, dx, C', vs', ds, S, _, rfl, _, _, _, _, _, G, r, hl, _⟩ := h
    rw [List.length_cons, r.length, hl, hn]
  · obtain ⟨g, H1, x, dx, C', vs', ds, S, hm', rfl, hx, hd, hne, rfl, hme, G, r, hl, q⟩ := h
    refine ⟨g, H1, _, g, S, env_startI (N := N) G r (by rw [hl]; exact hN) hme hx hd hne hm', ?_⟩
    have q' : (runI N.length c b ds S).post _ := q
    unfold runI at q'
    refine Res.post_mono (Res.post_then.mp q') fun o S' k => ?_
    cases o with
    | nx ρ =>
      intro σ g1 H2 l1 E1
      obtain ⟨p, d, h1, h2, hO⟩ := E1.ow 0 (by simp)
      have k' : (match ρ[0]? with
        | some (some (D.obj c fs)) => Res.ok (D.obj c fs) S'
        | _ => .bad).post fun d S' => ∀ g' H2, GOk K mg g' H2 S' → Stp g H1 g' H2 → Rep K mg g' (.ref x) d → Q .non H2 := k
      rw [h1] at k'
      obtain ⟨g2, l2, E2⟩ := E1.sub (own' := []) (fun i hi => by cases hi)
      obtain ⟨v, h3, rv⟩ := E2.fro 0 d h1 (fun z => by cases z)
      rw [h2] at h3
      cases h3
      obtain ⟨_, _, _, h4⟩ := hO
      rcases h4 with ⟨vs, ds', ed, hp, _⟩ | ⟨_, _, _, _, _, ⟨em, ed⟩, _⟩
      · subst ed
        exact k'.elim
      · have ex : p = x := by rw [em, l1.me, hme]
        subst ex ed
        exact k' g2 H2 E2.gok E2.stp rv
    | rt d => exact k.elim
    | bk ρ => exact k.elim
    | ct ρ => exact k.elim
end
/-! ### {'a': .., ..}: a new changing object -/
def mergeKD (kds more : List (Key × D)) : List (Key × D) := more.foldl (fun acc kv => putKD acc kv.1 kv.2) kds
def sItems : List (Str × SE) → DEnv → M (List (Key × D))
  | [], _ => fun S => .ok [] S
  | (x, a) :: r, ρ => fun S => (a ρ S).then fun d S1 => (sItems r ρ S1).then fun ds S2 => .ok ((Sum.inr x, d) :: ds) S2
def sDict (items : List (Str × SE)) : SE := fun ρ S => (sItems items ρ S).then fun kds S' => if kds.length ≤ 15 then .ok (.mref S'.length) (S' ++ [mergeKD [] kds]) else .bad
section
variable {K : PySem.W.Frag} {mg : Str → Option Value} {g : Gh}
theorem KReps.merge : ∀ {more : List (Key × V)} {rs : List (Key × D)} {kvs : List (Key × V)} {vs : List (Key × D)}, KReps K mg g more rs → KReps K mg g kvs vs → KReps K mg g (mergeK kvs more) (mergeKD vs rs) := by
  intro more rs kvs vs r
  induction r generalizing kvs vs with
  | nil => exact fun q => q
  | cons h _ ih => exact fun q => ih (q.put h)
theorem GOk.newD {H : Hp} {S : Sto} (G : GOk K mg g H S) {p : Addr} {kvs : List (Key × V)} {kds : List (Key × D)} (hp : H p = some (.dK [])) (hF : g.F p = none) (hA : p ∉ g.as) (r : KReps K mg g kvs kds) : GOk K mg ⟨g.F, g.as ++ [p], g.me⟩ (upd H p (.dK kvs)) (S ++ [kds]) := by
  have up : ∀ {vs : List (Key × V)} {ds : List (Key × D)}, KReps K mg g vs ds → KReps K mg ⟨g.F, g.as ++ [p], g.me⟩ vs ds := fun r => by
    induction r with
    | nil => exact .nil
    | cons h _ ih => exact .cons (Rep.mono0 (g := g) (g' := ⟨g.F, g.as ++ [p], g.me⟩) (Same.refl _) (fun i a h => by
        have := (List.getElem?_eq_some_iff.mp h).1
        show (g.as ++ [p])[i]? = some a
        rw [List.getElem?_append_left this]; exact h) h) ih
  refine ⟨fun b u e => ?_, ?_, by simp [G.len], fun a ha => ?_, fun i a e => ?_⟩
  · rw [upd_ne (fun z : b = p => by rw [z, hF] at e; cases e)]; exact G.sub _ _ e
  · rw [List.nodup_append]
    refine ⟨G.nd, by simp, fun a ha b hb => ?_⟩
    have e : b = p := by simpa using hb
    subst e
    exact fun z => hA (z ▸ ha)
  · rcases List.mem_append.mp ha with z | z
    · exact G.nf a z
    · have e : a = p := by simpa using z
      rw [e]; exact hF
  · have e' : (g.as ++ [p])[i]? = some a := e
    by_cases hi : i < g.as.length
    · rw [List.getElem?_append_left hi] at e'
      obtain ⟨kv, kd, h1, h2, h3⟩ := G.st i a e'
      refine ⟨kv, kd, ?_, by rw [List.getElem?_append_left (by rw [G.len]; exact hi)]; exact h2, up h3⟩
      rw [upd_ne (fun z : a = p => hA (z ▸ List.mem_of_getElem? e'))]
      exact h1
    · rw [List.getElem?_append_right (by omega)] at e'
      have hi2 : i - g.as.length = 0 := by
        have := (List.getElem?_eq_some_iff.mp e').1
        simpa using this
      rw [hi2] at e'
      have ea : p = a := by simpa using e'
      subst ea
      refine ⟨kvs, kds, upd_same, ?_, up r⟩
      rw [List.getElem?_append_right (by rw [G.len]; omega), G.len, hi2] <;> rfl
end
/-- the pairs' terms -/
def SimD (X : Cx) (own : List Nat) (pos : Pos) (keys : List (Option Expr)) (vals : List Expr) (items : List (Str × SE)) : Prop := PPs X pos keys vals (items.map fun a => (tC (.str a.1), tE X own a.2))
section
variable {X : Cx} {own : List Nat} {k v : Expr} {ks : List (Option Expr)} {vs : List Expr} {items : List (Str × SE)} {se : SE} {pos : Pos} {x : Str}
theorem simd_nil : SimD X own pos [] [] [] := pps_nil
theorem simd_cons {j : Nat} {kp : Pos} (h : SimE X own v se) (hr : SimD X own pos ks vs items) : SimD X own pos (some (.Constant (.str x) j kp) :: ks) (v :: vs) ((x, se) :: items) := pps_cons pe_str h hr
theorem items_of : ∀ {items : List (Str × SE)} {g0 : Gh} {H0 : Hp} {ρ : DEnv} {σ : L2.St} {g : Gh} {H : Hp} {S S' : Sto} {kds : List (Key × D)} {Q : List (V × V) → Hp → Prop}, EnvOk X.K X.mg g0 H0 own ρ σ g H S → sItems items ρ S = .ok kds S' →
    (∀ kvs g' H', GOk X.K X.mg g' H' S' → Stp g H g' H' → KReps X.K X.mg g' kvs kds → Q (kvs.map fun kv => (kV kv.1, kv.2)) H') → tPairs (items.map fun a => (tC (.str a.1), tE X own a.2)) σ H Q
  | [], g0, H0, ρ, σ, g, H, S, S', kds, Q, E, e, k => by
    cases e
    exact k [] g H E.gok .refl .nil
  | (x, a) :: r, g0, H0, ρ, σ, g, H, S, S', kds, Q, E, e, k => by
    obtain ⟨d, S1, e1, e2⟩ := Res.then_ex e
    obtain ⟨ds, S2, e3, e4⟩ := Res.then_ex e2
    cases e4
    refine ⟨g0, H0, ρ, g, S, E, ?_⟩
    show (a ρ S).post _
    rw [e1]
    intro v g1 H1 G1 s1 r1
    refine items_of (E.step G1 s1) e3 fun kvs g' H' G' s' rr => ?_
    exact k ((Sum.inr x, v) :: kvs) g' H' G' (s1.trans s') (.cons (r1.mono s'.le) rr)
theorem sim_dict {keys : List (Option Expr)} {vals : List Expr} (h : SimD X own pos keys vals items) (hall : keys.all (·.isSome) = true := by rfl) (hl : keys.length = vals.length := by rfl) (h0 : keys ≠ [] := by exact fun z => by cases z) (h15 : keys.length ≤ 15 := by decide) : SimE X own (.Dict keys vals pos) (sDict items) :=
  pe_weak (pe_disp h hall hl h0 h15) fun σ H Q ⟨g0, H0, ρ, g, S, E, q⟩ => by
    obtain ⟨d, S', e1, k⟩ := Res.post_ex q
    obtain ⟨kds, S1, e2, e1⟩ := Res.then_ex e1
    intro p hp
    have E1 := E.step (E.gok.fresh (o := .dK []) hp) (stp_fresh hp)
    refine items_of E1 e2 fun kvs g' H' G' s' r => ?_
    split at e1
    · rename_i hz
      cases e1
      have hpa : p ∉ g.as := E.gok.notin hp
      have hp' : H' p = some (.dK []) := s'.keep _ _ upd_same hpa
      have hF : g'.F p = none := by
        cases q : g'.F p with
        | none => rfl
        | some u =>
          rcases s'.newF p (by rw [q]; exact fun z => nomatch z) with z | z
          · exact absurd (E.gok.nfree hp) z
          · rw [upd_same] at z; cases z
      have hA : p ∉ g'.as := fun z => (s'.newA p z).elim hpa fun z => by rw [upd_same] at z; cases z
      have klen : kvs.length = kds.length := r.len
      refine ⟨hp', kvs, rfl, by rw [klen]; exact hz, ?_⟩
      have G2 := G'.newD hp' hF hA (r.merge .nil)
      refine k _ _ _ G2 ?_ (.mref ?_)
      · have s2 := (stp_fresh (g := g) (o := .dK []) hp).trans s'
        refine ⟨⟨s2.le.F, fun i a h => ?_, s2.le.me⟩, fun b u e n => ?_, fun b e => ?_, s2.newF, fun a ha => ?_⟩
        · have h' := s2.le.as i a h
          have := (List.getElem?_eq_some_iff.mp h').1
          show (g'.as ++ [p])[i]? = some a
          rw [List.getElem?_append_left this]; exact h'
        · rw [upd_ne (ne_of_none e hp)]; exact s2.keep b u e n
        · rw [upd_ne (fun z : b = p => e (by rw [z]; exact hp))]; exact s2.there b e
        · rcases List.mem_append.mp ha with z | z
          · exact s2.newA a z
          · have e : a = p := by simpa using z
            rw [e]; exact .inr hp
      · show (g'.as ++ [p])[S1.length]? = some p
        rw [List.getElem?_append_right (by rw [G'.len]; exact Nat.le_refl _), G'.len] <;> simp
    · cases e1
end
end Ev
namespace Ev
open PySem PySem.Spec PyProof.Rows L2
/-! ### any of a tuple of ints -/
theorem truth_intsE {prog : Program} {w : World} {A : Around} {ns : List Int} {its : List Value} (e : IntsAre its ns) :
    TruthOf prog w A (fun i v => its.toArray[i]? = some v) (fun i => ns.getD i 0 != 0) := fun i v s Q E hv hq => by
  have hv' : its[i]? = some v := by simpa using hv
  have go : ∀ (its : List Value) (ns : List Int) (i : Nat), IntsAre its ns → its[i]? = some v → ∃ n t, v = .int n t ∧ ns[i]? = some n := by
    intro its
    induction its with
    | nil => intro ns i _ h; cases h
    | cons a r ih =>
      intro ns i h h2
      cases ns with
      | nil => cases h
      | cons n ns =>
        cases i with
        | zero =>
          cases h2
          cases h with
          | cons _ t _ => exact ⟨n, t, rfl, rfl⟩
        | succ i =>
          cases h with
          | cons _ _ h3 => exact ih ns i h3 h2
  obtain ⟨n, t, rfl, hn⟩ := go _ _ _ e hv'
  have hg : (ns.getD i 0 != 0) = (n != 0) := by rw [List.getD_eq_getElem?_getD, hn] <;> rfl
  have hq' : Q (ns.getD i 0 != 0) s := hq
  rw [hg] at hq'
  exact truthy_int hq'
theorem any_rangeI : ∀ ns : List Int, (List.range ns.length).any (fun i => ns.getD i 0 != 0) = ns.any (· != 0)
  | [] => rfl
  | b :: bs => by
    rw [List.length_cons, List.range_succ_eq_map, List.any_cons, List.any_map, List.any_cons, ← any_rangeI bs]
    all_goals rfl
def rAnyT (K : PySem.W.Frag) : List V → Hp → VK → Prop := fun vs H Q => ∃ (a : Addr) (ns : List Int), vs = [V.ref a] ∧ SqT K H a (ns.map V.int) ∧ Q (.bl (ns.any (· != 0))) H
section
variable {X : Cx}
theorem cr_anyT (hc : X.calm = true) : CallR X (.builtin "any") (rAnyT X.K) := by
  intro pins s σ H vs us Q I r h
  obtain ⟨a, ns, rfl, hs, q⟩ := h
  obtain ⟨its, rv, hl, _⟩ := I.tuple hs
  rw [Vals.ref1 r]
  have hi := rv.ints
  have hlen : its.length = ns.length := by rw [← rv.length, List.length_map]
  have hlt : a < s.heap.objs.size := by obtain ⟨_, e, _⟩ := hl; exact Heap.lt_size e
  have hne : a ≠ s.heap.objs.size := Nat.ne_of_lt hlt
  have hl2 : IsTup (s.heap.push { cls := .type "tuple_iterator", data := .fields #[.ref a, .int 0 0] }) a its.toArray := by
    obtain ⟨o, ho, hc, n, hd⟩ := hl
    exact ⟨o, Heap.get?_push_of_some _ ho, hc, n, hd⟩
  refine call_any_walk (iter_tuple hl ?_)
  refine ⟨_, _, _, _, _, _, _, rfl, Walks.tuple (A := X.A.in1) (I.ok.hd hc) _ a hne its.toArray, ⟨⟨_, Heap.get?_push_size _ rfl, rfl, rfl⟩, hl2⟩, truth_intsE hi, fun h' tk hk => ?_⟩
  refine ⟨.bl _, H, I.kept fun b o eo => hk b o (fun hmem => ?_) (Heap.get?_push_of_some _ eo), ?_, q⟩
  · rcases List.mem_cons.mp hmem with e1 | hmem
    · exact absurd (e1 ▸ Heap.lt_size eo) (Nat.lt_irrefl _)
    · cases hmem
  · show Value.bool _ = Value.bool _
    rw [← any_rangeI, List.size_toArray, hlen]
/-! ### is True, is False, of any value -/
def rIsBX : R2 := fun x y H Q => ∃ b : Bool, y = .bl b ∧ Q (.bl (match x with
  | .bl a => decide (a = b)
  | _ => false)) H
def rNotBX : R2 := fun x y H Q => ∃ b : Bool, y = .bl b ∧ Q (.bl (!(match x with
  | .bl a => decide (a = b)
  | _ => false))) H
theorem op_isBX : OpR X (compareOp .Is) rIsBX := by
  intro pins s σ H x y v u Q I rx ry h
  obtain ⟨b, rfl, q⟩ := h
  cases (show u = Value.bool b from ry)
  cases x with
  | bl a =>
    cases (show v = Value.bool a from rx)
    by_cases e : a = b
    · subst e
      exact wpAny_is_self rfl ⟨.bl true, H, I, rfl, by simpa using q⟩
    · exact wpAny_is_other rfl (fun z => e (Value.bool.inj z)) ⟨.bl false, H, I, rfl, by simpa [e] using q⟩
  | ref a => cases rx; exact wpAny_is_other rfl (fun z => nomatch z) ⟨.bl false, H, I, rfl, q⟩
  | non => cases rx; exact wpAny_is_other rfl (fun z => nomatch z) ⟨.bl false, H, I, rfl, q⟩
  | int i => obtain ⟨t, rfl⟩ := rx; exact wpAny_is_other rfl (fun z => nomatch z) ⟨.bl false, H, I, rfl, q⟩
  | str x => obtain ⟨t, rfl⟩ := rx; exact wpAny_is_other rfl (fun z => nomatch z) ⟨.bl false, H, I, rfl, q⟩
  | byt x => obtain ⟨t, rfl⟩ := rx; exact wpAny_is_other rfl (fun z => nomatch z) ⟨.bl false, H, I, rfl, q⟩
  | flt x => obtain ⟨t, rfl⟩ := rx; exact wpAny_is_other rfl (fun z => nomatch z) ⟨.bl false, H, I, rfl, q⟩
  | ty n => cases rx; exact wpAny_is_other rfl (fun z => nomatch z) ⟨.bl false, H, I, rfl, q⟩
theorem op_notBX : OpR X (compareOp .IsNot) rNotBX := by
  intro pins s σ H x y v u Q I rx ry h
  obtain ⟨b, rfl, q⟩ := h
  cases (show u = Value.bool b from ry)
  cases x with
  | bl a =>
    cases (show v = Value.bool a from rx)
    by_cases e : a = b
    · subst e
      exact wpAny_isNot_self rfl ⟨.bl false, H, I, rfl, by simpa using q⟩
    · exact wpAny_isNot_other rfl (fun z => e (Value.bool.inj z)) ⟨.bl true, H, I, rfl, by simpa [e] using q⟩
  | ref a => cases rx; exact wpAny_isNot_other rfl (fun z => nomatch z) ⟨.bl true, H, I, rfl, q⟩
  | non => cases rx; exact wpAny_isNot_other rfl (fun z => nomatch z) ⟨.bl true, H, I, rfl, q⟩
  | int i => obtain ⟨t, rfl⟩ := rx; exact wpAny_isNot_other rfl (fun z => nomatch z) ⟨.bl true, H, I, rfl, q⟩
  | str x => obtain ⟨t, rfl⟩ := rx; exact wpAny_isNot_other rfl (fun z => nomatch z) ⟨.bl true, H, I, rfl, q⟩
  | byt x => obtain ⟨t, rfl⟩ := rx; exact wpAny_isNot_other rfl (fun z => nomatch z) ⟨.bl true, H, I, rfl, q⟩
  | flt x => obtain ⟨t, rfl⟩ := rx; exact wpAny_isNot_other rfl (fun z => nomatch z) ⟨.bl true, H, I, rfl, q⟩
  | ty n => cases rx; exact wpAny_isNot_other rfl (fun z => nomatch z) ⟨.bl true, H, I, rfl, q⟩
def dIsBX (neg : Bool) (x y : D) : Option D := match y with
  | .bl b => some (.bl (match x with
    | .bl a => if neg then !decide (a = b) else decide (a = b)
    | _ => neg))
  | _ => none
theorem rep_blX {g : Gh} {H : Hp} {x : V} {d : D} (r : RepR X.K X.mg g H x d) (b : Bool) : (match x with
  | .bl a => decide (a = b)
  | _ => false) = (match d with
  | .bl a => decide (a = b)
  | _ => false) := by
  rcases r with r | ⟨p, vs, ds, rfl, rfl, _⟩
  · cases r <;> rfl
  · rfl
theorem op2_isBX : Op2 X (dIsBX false) rIsBX := by
  intro g H S x y a b d Q G ra rb e k
  unfold dIsBX at e
  split at e
  · cases e
    cases rb.bl
    refine ⟨_, rfl, k _ g H G .refl ?_⟩
    rw [rep_blX ra]
    cases a <;> exact .bl _
  · cases e
theorem op2_notBX : Op2 X (dIsBX true) rNotBX := by
  intro g H S x y a b d Q G ra rb e k
  unfold dIsBX at e
  split at e
  · cases e
    cases rb.bl
    refine ⟨_, rfl, k _ g H G .refl ?_⟩
    rw [rep_blX ra]
    cases a <;> exact .bl _
  · cases e
/-! ### t * 1 -/
theorem tuple_mul1 (l : Addr) (items : Array Value) (n : Nat) (dd : Option Addr) (sl : Array (Option Value)) (u : Tok) :
    Meets (Builtin.«tuple.__mul__» ⟨[.ref l, .int 1 u], []⟩) (fun _ R s => s.heap.get? l = some { cls := .type "tuple", dict := dd, data := .seq items n, slots := sl } ∧ R (.ok (.ret (Value.ref l))) s) :=
  .of_wp fun prog w A R s h => by
    obtain ⟨hp, g, d, tk, os⟩ := s
    obtain ⟨hl, h⟩ := h
    have f1 := AutoSeq1.idx_int
    have c1 : (items.isEmpty || (1 : Int) == 1) = true := by simp
    wp_walk using wpAny_loadPart' hl
    repeat (first
      | (refine wpAny_ite_true (decide_eq_true c1) ?_; wp_walk using wpAny_loadPart' hl)
      | (refine wpAny_ite_true (decide_eq_true rfl) ?_; wp_walk using wpAny_loadPart' hl))
    exact ⟨_, rfl, h⟩
def rRepT1 (K : PySem.W.Frag) : R2 := fun x y H Q => ∃ l xs, x = .ref l ∧ y = .int 1 ∧ SqT K H l xs ∧ Q (.ref l) H
theorem op_repT1 : OpR X (binaryOp .Mult) (rRepT1 X.K) := by
  intro pins s σ H x y v u Q I rx ry h
  obtain ⟨l, xs, rfl, rfl, hT, q⟩ := h
  cases rx
  obtain ⟨t, rfl⟩ := ry
  obtain ⟨its, r, ⟨⟨cls, dd, data, sl⟩, ho, hc, n, hd⟩, hs⟩ := I.tuple hT
  simp only at hc hd
  subst hc hd
  refine wpAny_binaryOp_repeat_ref (T := "tuple") (U := "int") (by decide) ⟨_, ho, rfl⟩ (fun s' => typeIs_int s' 1 t) noFill_tuple_mul F.fills_int_mul F.slot_int_rmul repeat_tuple F.slot_int_index.lookup
    (call_meets F.slot_int_rmul (typeIs_int s 1 t) F.entry_int_rmul (F.args_int_rmul_2 _ _) (int_rmul_tuple 1 t l its.toArray n dd sl)
      ⟨ho, rfl, ⟨_, ho, rfl⟩, call_meets F.slot_tuple_mul ⟨_, ho, rfl⟩ F.entry_tuple_mul (F.args_tuple_mul_2 _ _) (tuple_mul1 l its.toArray n dd sl t) ⟨ho, ?_⟩⟩)
  exact ⟨.ref l, H, I, rfl, q⟩
end
end Ev
namespace Ev
open PySem PySem.Spec PyProof.Rows L2
/-! ### operators that give a new list -/
def OpF2 (X : Cx) (f : D → D → Option D) (r : R2) : Prop := ∀ (g : Gh) (H : Hp) (S : Sto) (x y : V) (a b d : D) (Q : VK), GOk X.K X.mg g H S → RepR X.K X.mg g H x a → RepR X.K X.mg g H y b → f a b = some d →
  ∃ es, d = .lst es ∧ ((∀ p vs, H p = none → Reps X.K X.mg g vs es → Q (.ref p) (upd H p (.lst vs))) → r x y H Q)
def dRepF : D → D → Option D
  | .lst xs, .int k => if rpOk xs.length k then some (.lst (List.replicate k.toNat xs).flatten) else none
  | _, _ => none
def dCatF : D → D → Option D
  | .lst xs, .lst ys => if xs.length + ys.length ≤ sizeLine then some (.lst (xs ++ ys)) else none
  | _, _ => none
def dMulA : D → D → Option D
  | .int i, .int j => if cMul i j then some (.int (i * j)) else none
  | .lst xs, .int k => if rpOk xs.length k then some (.lst (List.replicate k.toNat xs).flatten) else none
  | .tup xs, .int k => if k = 1 then some (.tup xs) else if xs ≠ [] ∧ 2 ≤ k ∧ k ≤ 1000 ∧ xs.length ≤ 1000 then some (.tup (List.replicate k.toNat xs).flatten) else none
  | _, _ => none
section
variable {X : Cx} {own : List Nat} {e a b : Expr} {es : List Expr} {se sa sb : SE} {pos p2 apos : Pos}
theorem opF2_rep : OpF2 X dRepF rRep := by
  intro g H S x y a b d Q G ra rb e
  unfold dRepF at e
  split at e
  · split at e
    · rename_i hz
      replace hz := rpOk_ok hz
      cases e
      refine ⟨_, rfl, fun k => ?_⟩
      cases rb.int
      obtain ⟨p, vs, rfl, hp, rs⟩ := ra.lst G
      have e63 : (2 : Int) ^ 63 = 9223372036854775808 := by decide
      exact ⟨p, _, vs, rfl, rfl, hp, by rw [e63]; exact hz.1, by rw [e63]; exact hz.2.1, by rw [rs.length]; exact hz.2.2, fun l hl => k l _ hl (rs.rep _)⟩
    · cases e
  · cases e
theorem opF2_cat : OpF2 X dCatF rCat := by
  intro g H S x y a b d Q G ra rb e
  unfold dCatF at e
  split at e
  · split at e
    · rename_i hz
      cases e
      refine ⟨_, rfl, fun k => ?_⟩
      obtain ⟨p, vs, rfl, hp, rs⟩ := ra.lst G
      obtain ⟨q, ws, rfl, hq, rt⟩ := rb.lst G
      exact ⟨p, q, vs, ws, rfl, rfl, hp, hq, by rw [rs.length, rt.length]; exact hz, fun l hl => k l _ hl (rs.append rt)⟩
    · cases e
  · cases e
theorem twoF_of {f : D → D → Option D} {r : R2} (hf : OpF2 X f r) {σ : L2.St} {H : Hp} {Q : VK} (h : tF X own (sOp2 f sa sb) σ H Q) : tOp r (tR X own sa) (tR X own sb) σ H Q := by
  obtain ⟨g0, H0, ρ, g, S, E, q⟩ := h
  obtain ⟨d, S', e1, k⟩ := Res.post_ex q
  obtain ⟨x, S1, e2, e1⟩ := Res.then_ex e1
  obtain ⟨y, S2, e3, e1⟩ := Res.then_ex e1
  obtain ⟨e4, rfl⟩ := optR_ex e1
  refine ⟨g0, H0, ρ, g, S, E, ?_⟩
  rw [e2]
  intro v g1 H1 G1 s1 r1
  refine ⟨g0, H0, ρ, g1, S1, E.step G1 s1, ?_⟩
  rw [e3]
  intro v2 g2 H2 G2 s2 r2
  obtain ⟨es, ed, kr⟩ := hf g2 H2 S2 v v2 x y d Q G2 (r1.step s2) r2 e4
  obtain ⟨es', ed', k⟩ := k
  rw [ed] at ed'
  cases ed'
  exact kr fun p vs hp rs => fresh_end G2 (s1.trans s2) hp rs k
theorem simf_op {op : Operator} {f : D → D → Option D} {r : R2} (ho : OpR X (binaryOp op) r) (hf : OpF2 X f r) (ha : SimR X own a sa) (hb : SimR X own b sb) : SimF X own (.BinOp a op b pos) (sOp2 f sa sb) :=
  pe_weak (pe_op ho ha hb) fun _ _ _ h => twoF_of hf h
theorem opl_f {f : D → D → Option D} (hf : ∀ a b d, f a b = some d → ∃ ds, d = .lst ds) {ρ : DEnv} {S S' : Sto} {d : D} (e : sOp2 f sa sb ρ S = .ok d S') : ∃ ds, d = .lst ds := by
  obtain ⟨x, S1, _, e1⟩ := Res.then_ex e
  obtain ⟨y, S2, _, e1⟩ := Res.then_ex e1
  obtain ⟨e4, _⟩ := optR_ex e1
  exact hf _ _ _ e4
theorem rep_l {a b d : D} (e : dRepF a b = some d) : ∃ ds, d = .lst ds := by
  unfold dRepF at e
  split at e
  · split at e
    · cases e; exact ⟨_, rfl⟩
    · cases e
  · cases e
theorem cat_l {a b d : D} (e : dCatF a b = some d) : ∃ ds, d = .lst ds := by
  unfold dCatF at e
  split at e
  · split at e
    · cases e; exact ⟨_, rfl⟩
    · cases e
  · cases e
theorem callL {f : List D → Option D} {sas : List (Bool × SE)} (hf : ∀ ds d, f ds = some d → ∃ es, d = .lst es) {ρ : DEnv} {S S' : Sto} {d : D} (e : sCallN f sas ρ S = .ok d S') : ∃ ds, d = .lst ds := by
  obtain ⟨ds, S1, _, e1⟩ := Res.then_ex e
  obtain ⟨e4, _⟩ := optR_ex e1
  exact hf _ _ e4
theorem lstOf_l {ds : List D} {d : D} (e : dLstOf ds = some d) : ∃ es, d = .lst es := by
  unfold dLstOf at e
  split at e <;> first | (cases e; exact ⟨_, rfl⟩) | cases e
theorem op2_mulA : Op2 X dMulA (fun x y H Q => (rI CMul (fun i j => .int (i * j)) x y H Q ∨ rRep x y H Q) ∨ (rRepT X.K x y H Q ∨ rRepT1 X.K x y H Q)) := by
  intro g H S x y a b d Q G ra rb e k
  unfold dMulA at e
  split at e
  · split at e
    · cases e
      cases ra.int
      cases rb.int
      exact .inl (.inl ⟨_, _, rfl, rfl, cMul_ok (by assumption), k _ g H G .refl (.int _)⟩)
    · cases e
  · split at e
    · rename_i hz
      replace hz := rpOk_ok hz
      cases e
      cases rb.int
      obtain ⟨p, vs, rfl, hp, rs⟩ := ra.lst G
      have e63 : (2 : Int) ^ 63 = 9223372036854775808 := by decide
      refine .inl (.inr ⟨p, _, vs, rfl, rfl, hp, by rw [e63]; exact hz.1, by rw [e63]; exact hz.2.1, by rw [rs.length]; exact hz.2.2, fun l hl => ?_⟩)
      exact k _ _ _ (G.add hl) (stp_add G hl) (.newL G hl (rs.rep _))
    · cases e
  · cases rb.int
    have f1 := ra.rep (fun _ e => nomatch e)
    obtain ⟨p, vs, rfl, hp, rs⟩ := ra.tup G
    split at e
    · rename_i hk
      cases e
      subst hk
      exact .inr (.inr ⟨p, vs, rfl, rfl, SqT.of hp, k _ g H G .refl f1⟩)
    · split at e
      · rename_i hz
        cases e
        refine .inr (.inl ⟨p, _, vs, rfl, rfl, SqT.of hp, fun z => ?_, hz.2.1, hz.2.2.1, by rw [rs.length]; exact hz.2.2.2, fun l hl => ?_⟩)
        · subst z
          cases rs
          exact hz.1 rfl
        · exact k _ _ _ (G.add hl) (stp_add G hl) (.newT G hl (rs.rep _))
      · cases e
  · cases e
theorem opr_mulA : OpR X (binaryOp .Mult) (fun x y H Q => (rI CMul (fun i j => .int (i * j)) x y H Q ∨ rRep x y H Q) ∨ (rRepT X.K x y H Q ∨ rRepT1 X.K x y H Q)) := (op_mul.or op_rep).or (op_repT.or op_repT1)
/-- any of bools in a list, of ints in a tuple -/
def dAnyA : List D → Option D
  | [.lst xs] => (blsD xs).map fun ns => .bl (ns.any id)
  | [.tup xs] => (intsD xs).map fun ns => .bl (ns.any (· != 0))
  | _ => none
theorem opN_anyA : OpN X dAnyA (fun xs H Q => rAny X.K xs H Q ∨ rAnyT X.K xs H Q) := by
  intro g H S xs ds d Q G r e k
  unfold dAnyA at e
  split at e
  · rename_i ys
    cases q : blsD ys with
    | none => rw [q] at e; cases e
    | some ns =>
      rw [q] at e
      cases e
      obtain ⟨x, rfl, h⟩ := rr1 r
      obtain ⟨p, vs, rfl, hp, rs⟩ := h.lst G
      cases bls_of rs q
      exact .inl ⟨p, ns, rfl, SqL.of hp, k _ g H G .refl (.bl _)⟩
  · rename_i ys
    cases q : intsD ys with
    | none => rw [q] at e; cases e
    | some ns =>
      rw [q] at e
      cases e
      obtain ⟨x, rfl, h⟩ := rr1 r
      obtain ⟨p, vs, rfl, hp, rs⟩ := h.tup G
      cases ints_of rs q
      exact .inr ⟨p, ns, rfl, SqT.of hp, k _ g H G .refl (.bl _)⟩
  · cases e
theorem call_anyA (hc : X.calm = true) : CallR X (.builtin "any") (fun xs H Q => rAny X.K xs H Q ∨ rAnyT X.K xs H Q) := (cr_any hc).or (cr_anyT hc)
/-! ### methods of texts with one argument -/
theorem sim_sm1 {f : D → D → Option D} {r : V → List V → Hp → VK → Prop} (hpe : ∀ {ta tb : TE}, PE X a ta → PE X b tb → PE X e (tM1 r ta tb)) (hf : Op2 X f fun x y H Q => r x [y] H Q) (hs : ∀ x y d, f x y = some d → ∃ z, x = .str z) (ha : SimR X own a sa) (hb : SimR X own b sb) : SimE X own e (sOp2 f sa sb) :=
  pe_weak (hpe ha hb) fun σ H Q h => by
    obtain ⟨g0, H0, ρ, g, S, E, q⟩ := h
    obtain ⟨d, S', e1, k⟩ := Res.post_ex q
    obtain ⟨x, S1, e2, e1⟩ := Res.then_ex e1
    obtain ⟨y, S2, e3, e1⟩ := Res.then_ex e1
    obtain ⟨e4, rfl⟩ := optR_ex e1
    obtain ⟨z, rfl⟩ := hs _ _ _ e4
    refine ⟨g0, H0, ρ, g, S, E, ?_⟩
    rw [e2]
    intro v g1 H1 G1 s1 r1
    cases r1.str
    refine ⟨⟨_, rfl⟩, g0, H0, ρ, g1, S1, E.step G1 s1, ?_⟩
    rw [e3]
    intro v2 g2 H2 G2 s2 r2
    exact hf g2 H2 S2 _ v2 _ y d Q G2 (r1.step s2) r2 e4 fun v3 g3 H3 G3 s3 r3 => k v3 g3 H3 G3 ((s1.trans s2).trans s3) r3
def strsD : List D → Option (List Str)
  | [] => some []
  | .str i :: r => (strsD r).map (i :: ·)
  | _ => none
theorem strs_ofD {K : PySem.W.Frag} {mg : Str → Option Value} {g : Gh} : ∀ {ds : List D} {vs : List V} {ns : List Str}, Reps K mg g vs ds → strsD ds = some ns → vs = ns.map V.str
  | [], _, _, .nil, e => by cases (show some ([] : List Str) = some _ from e); rfl
  | .str i :: ds, _, ns, .cons h r, e => by
    cases h
    have e' : (strsD ds).map (i :: ·) = some ns := e
    cases q : strsD ds with
    | none => rw [q] at e'; cases e'
    | some ms => rw [q] at e'; cases e'; rw [strs_ofD r q] <;> rfl
  | .non :: _, _, _, _, e => by cases (show (none : Option (List Str)) = some _ from e)
  | .bl _ :: _, _, _, _, e => by cases (show (none : Option (List Str)) = some _ from e)
  | .int _ :: _, _, _, _, e => by cases (show (none : Option (List Str)) = some _ from e)
  | .tup _ :: _, _, _, _, e => by cases (show (none : Option (List Str)) = some _ from e)
  | .lst _ :: _, _, _, _, e => by cases (show (none : Option (List Str)) = some _ from e)
  | .obj _ _ :: _, _, _, _, e => by cases (show (none : Option (List Str)) = some _ from e)
  | .mref _ :: _, _, _, _, e => by cases (show (none : Option (List Str)) = some _ from e)
  | .scr _ :: _, _, _, _, e => by cases (show (none : Option (List Str)) = some _ from e)
@[simp] theorem strsD_map (ns : List Str) : strsD (ns.map .str) = some ns := by
  induction ns with
  | nil => rfl
  | cons n r ih =>
    show (strsD (r.map .str)).map (n :: ·) = _
    rw [ih] <;> rfl
def joinS (a : Str) (ys : List Str) : Option D := if (ys.map (·.length)).sum + ys.length * a.length ≤ 16777216 then some (.str (Txt.join a ys)) else none
def dJoin : D → D → Option D
  | .str a, .lst xs => (strsD xs).bind (joinS a)
  | .str a, .tup xs => (strsD xs).bind (joinS a)
  | _, _ => none
theorem join_str : ∀ x y d, dJoin x y = some d → ∃ z, x = .str z := by
  intro x y d e
  unfold dJoin at e
  split at e
  · exact ⟨_, rfl⟩
  · exact ⟨_, rfl⟩
  · cases e
theorem op2_join : Op2 X dJoin (fun x y H Q => ∃ a p, ∃ ys : List Str, x = .str a ∧ [y] = [.ref p] ∧ (SqL X.K H p (ys.map V.str) ∨ SqT X.K H p (ys.map V.str)) ∧ (ys.map (·.length)).sum + ys.length * a.length ≤ 16777216 ∧ Q (.str (Txt.join a ys)) H) := by
  intro g H S x y a b d Q G ra rb e k
  unfold dJoin at e
  split at e
  · rename_i z xs
    cases q : strsD xs with
    | none => rw [q] at e; cases e
    | some ys =>
      rw [q] at e
      have e' : joinS z ys = some d := e
      unfold joinS at e'
      split at e'
      · rename_i hz
        cases e'
        cases ra.str
        obtain ⟨p, vs, rfl, hp, rs⟩ := rb.lst G
        cases strs_ofD rs q
        exact ⟨z, p, ys, rfl, rfl, .inl (SqL.of hp), hz, k _ g H G .refl (.str _)⟩
      · cases e'
  · rename_i z xs
    cases q : strsD xs with
    | none => rw [q] at e; cases e
    | some ys =>
      rw [q] at e
      have e' : joinS z ys = some d := e
      unfold joinS at e'
      split at e'
      · rename_i hz
        cases e'
        cases ra.str
        obtain ⟨p, vs, rfl, hp, rs⟩ := rb.tup G
        cases strs_ofD rs q
        exact ⟨z, p, ys, rfl, rfl, .inr (SqT.of hp), hz, k _ g H G .refl (.str _)⟩
      · cases e'
  · cases e
end
/-! ### sorted -/
def isTupC : PyData → Bool
  | .tuple (_ :: _) => true
  | _ => false
def isOth : PyData → Bool
  | .none => false
  | .tuple _ => false
  | _ => true
def sortOk (ps : List PyData) : Bool := (ps.all fun a => ps.all fun b => PySem.W.alike a b) && (ps.all isTupC || ps.all isOth) && ps.all fun p => decide (p.depth ≤ 60)
theorem sortOk_al {ps : List PyData} (h : sortOk ps = true) : PySem.W.AllAlike ps ∧ PySem.W.Sortable ps ∧ ∀ p ∈ ps, p.depth ≤ 60 := by
  unfold sortOk at h
  rw [Bool.and_eq_true, Bool.and_eq_true, Bool.or_eq_true] at h
  obtain ⟨⟨h1, h2⟩, h3⟩ := h
  refine ⟨fun d hd d' hd' => List.all_eq_true.mp (List.all_eq_true.mp h1 d hd) d' hd', ?_, fun p hp => of_decide_eq_true (List.all_eq_true.mp h3 p hp)⟩
  rcases h2 with h2 | h2
  · refine .inl fun d hd => ?_
    have := List.all_eq_true.mp h2 d hd
    unfold isTupC at this
    split at this
    · exact ⟨_, _, rfl⟩
    · cases this
  · refine .inr fun d hd => ?_
    have := List.all_eq_true.mp h2 d hd
    unfold isOth at this
    split at this
    · cases this
    · cases this
    · exact ⟨by assumption, by assumption⟩
def rSortedD (K : PySem.W.Frag) : List V → Hp → VK → Prop := fun vs H Q => ∃ (a : Addr) (L : List (V × PyData)), vs = [V.ref a] ∧ SqL K H a (L.map (·.1)) ∧ (∀ x ∈ L, Dp K H x.1 x.2) ∧ sortOk (L.map (·.2)) = true ∧
  ∀ p, H p = none → Q (.ref p) (upd H p (.lst ((L.mergeSort (PySem.W.dataLe false (·.2))).map (·.1))))
theorem vals_each {R : Value → V × PyData → Prop} : ∀ {L : List (V × PyData)} {its : List Value}, Vals (L.map (·.1)) its → (∀ x ∈ L, ∀ u, RelV x.1 u → R u x) → PySem.W.EachIs R its L
  | [], its, r, h => by
    cases r
    exact .nil
  | x :: L, its, r, h => by
    cases r with
    | cons r1 r2 => exact .cons (h x List.mem_cons_self _ r1) (vals_each r2 fun y hy => h y (List.mem_cons_of_mem _ hy))
theorem each_vals : ∀ {L : List (V × PyData)} {its : List Value}, PySem.W.EachIs (fun u x => RelV x.1 u) its L → Vals (L.map (·.1)) its
  | [], _, .nil => .nil
  | _ :: _, _, .cons h r => .cons h (each_vals r)
section
variable {X : Cx}
theorem cr_sortedD (hu : X.A.units + 62 < cLine) : CallR X (.builtin "sorted") (rSortedD X.K) := by
  intro pins s σ H vs us Q I r h
  obtain ⟨a, L, rfl, hs, hd, ok, q⟩ := h
  obtain ⟨its, rv, hl, hz⟩ := I.list hs
  rw [Vals.ref1 r]
  obtain ⟨h1, h2, h3⟩ := sortOk_al ok
  rw [List.length_map] at hz
  refine PySem.W.sorted_data (bs := L) (enc := (·.2)) (R := fun u x => RelV x.1 u) hl.isList (vals_each rv fun x _ u h => h) (vals_each rv fun x hx u h => Dp.reads I _ _ _ (hd x hx) h) h1 h2 hz (fun b hb => ?_) fun out ho eo => ?_
  · have := h3 b.2 (List.mem_map.mpr ⟨b, hb, rfl⟩)
    omega
  · obtain ⟨ep, he'⟩ := PyProof.Rows.sortedAll_at s.heap its out.toArray
    have hlen : ((L.mergeSort (PySem.W.dataLe false (·.2))).map (·.1)).length ≤ sizeLine := by
      rw [List.length_map, List.length_mergeSort]
      exact hz
    exact ⟨.ref _, upd H (s.heap.objs.size + 1) (.lst ((L.mergeSort (PySem.W.dataLe false (·.2))).map (·.1))), I.laid (t' := s.toks) (fun _ _ => PyProof.Rows.sortedAll_old) (Nat.le_succ _) ⟨hlen, out, ep, each_vals eo, he'⟩, rfl, q _ (I.hok.fresh (Nat.le_succ _))⟩
def sortD (xs : List D) (ps : List PyData) : List D := ((xs.zip ps).mergeSort (PySem.W.dataLe false (·.2))).map (·.1)
def dSorted : List D → Option D
  | [.lst xs] => (pyAll xs).bind fun ps => if sortOk ps then some (.lst (sortD xs ps)) else none
  | _ => none
theorem sorted_l {ds : List D} {d : D} (e : dSorted ds = some d) : ∃ es, d = .lst es := by
  unfold dSorted at e
  split at e
  · rename_i xs
    cases q : pyAll xs with
    | none => rw [q] at e; cases e
    | some ps =>
      rw [q] at e
      have e' : (if sortOk ps then some (D.lst (sortD xs ps)) else none) = some d := e
      split at e'
      · cases e'; exact ⟨_, rfl⟩
      · cases e'
  · cases e
theorem zip_each {g : Gh} {H : Hp} (hs : Same g.F H) : ∀ {vs : List V} {ds : List D} {ps : List PyData}, Reps X.K X.mg g vs ds → pyAll ds = some ps →
    PySem.W.EachIs (fun (x : V × PyData) (y : D × PyData) => Rep X.K X.mg g x.1 y.1 ∧ x.2 = y.2 ∧ Dp X.K H x.1 x.2) (vs.zip ps) (ds.zip ps) ∧ vs.length = ps.length
  | _, _, ps, .nil, e => by cases (show some ([] : List PyData) = some _ from e); exact ⟨.nil, rfl⟩
  | _, _, xs, .cons (d := d) (ds := ds) h r, e => by
    have e' : (match d.py, pyAll ds with
      | some x, some xs => some (x :: xs)
      | _, _ => none) = some xs := e
    cases q : d.py with
    | none => rw [q] at e'; cases e'
    | some x => cases q2 : pyAll ds with
      | none => rw [q, q2] at e'; cases e'
      | some ys =>
        rw [q, q2] at e'
        cases e'
        obtain ⟨h1, h2⟩ := zip_each hs r q2
        exact ⟨.cons ⟨h, rfl, dp_of hs h q⟩ h1, congrArg (· + 1) h2⟩
theorem each_reps {g : Gh} {H : Hp} : ∀ {L : List (V × PyData)} {M : List (D × PyData)}, PySem.W.EachIs (fun (x : V × PyData) (y : D × PyData) => Rep X.K X.mg g x.1 y.1 ∧ x.2 = y.2 ∧ Dp X.K H x.1 x.2) L M → Reps X.K X.mg g (L.map (·.1)) (M.map (·.1)) ∧ (∀ x ∈ L, Dp X.K H x.1 x.2) ∧ L.map (·.2) = M.map (·.2)
  | _, _, .nil => ⟨.nil, fun x h => by (cases h), rfl⟩
  | _, _, .cons h r => by
    obtain ⟨h1, h2, h3⟩ := each_reps r
    refine ⟨.cons h.1 h1, fun x hx => ?_, by rw [List.map_cons, List.map_cons, h3, h.2.1]⟩
    rcases List.mem_cons.mp hx with rfl | hx
    · exact h.2.2
    · exact h2 x hx
theorem each_in {α β : Type} {R : α → β → Prop} : ∀ {as : List α} {bs : List β}, PySem.W.EachIs R as bs → ∀ p ∈ as.zip bs, R p.1 p.2
  | _, _, h, p, hp => h.zip p hp
theorem opF_sorted : OpF X dSorted (rSortedD X.K) := by
  intro g H S xs ds d Q G r e
  unfold dSorted at e
  split at e
  · rename_i ys
    cases q : pyAll ys with
    | none => rw [q] at e; cases e
    | some ps =>
      rw [q] at e
      have e' : (if sortOk ps then some (D.lst (sortD ys ps)) else none) = some d := e
      split at e'
      · rename_i ok
        cases e'
        refine ⟨_, rfl, fun k => ?_⟩
        obtain ⟨x, rfl, h⟩ := rr1 r
        obtain ⟨p, vs, rfl, hp, rs⟩ := h.lst G
        obtain ⟨ze, hl⟩ := zip_each G.sub rs q
        obtain ⟨_, hdp, _⟩ := each_reps ze
        have hsnd : (vs.zip ps).map (·.2) = ps := List.map_snd_zip (Nat.le_of_eq hl.symm)
        refine ⟨p, vs.zip ps, rfl, ?_, hdp, by rw [hsnd]; exact ok, fun l hl' => ?_⟩
        · have : (vs.zip ps).map (·.1) = vs := List.map_fst_zip (Nat.le_of_eq hl)
          rw [this]
          exact SqL.of hp
        · have ze2 := PySem.W.sort_each (r := PySem.W.dataLe false (·.2)) (s := PySem.W.dataLe false (·.2)) ze fun a ha b hb => by
            have h1 := (each_in ze a ha).2.1
            have h2 := (each_in ze b hb).2.1
            show PySem.W.dataLe false (fun x : V × PyData => x.2) a.1 b.1 = PySem.W.dataLe false (fun x : D × PyData => x.2) a.2 b.2
            unfold PySem.W.dataLe
            unfold PySem.W.sortLe
            simp only [h1, h2]
          exact k l _ hl' (each_reps ze2).1
      · cases e'
  · cases e
end
end Ev
namespace Ev
open PySem PySem.Spec PyProof.Rows L2
/-! ### walks over lists, tuples, texts -/
def iSeq (K : PySem.W.Frag) (tl : TE) : TI := fun σ H R => tl σ H fun x H1 => (∃ a, x = .ref a ∧ (∃ xs, SqL K H1 a xs) ∧ R (Itl K a) H1) ∨ (∃ a, x = .ref a ∧ (∃ xs, SqT K H1 a xs) ∧ R (Itt K a) H1) ∨ ∃ z, x = .str z ∧ R (Its z) H1
theorem pi_seq {X : Cx} {tg l : Expr} {tl : TE} (hl : PE X l tl) : PI X tg l (iSeq X.K tl) := by
  refine ⟨fun pins s σ H R I h => ?_⟩
  refine thn (hl.run pins s σ H _ I h) fun v s1 ⟨x, H1, I1, r1, q1⟩ => ?_
  rcases q1 with ⟨a, e, ⟨xs, hq⟩, q⟩ | ⟨a, e, ⟨xs, hq⟩, q⟩ | ⟨z, e, q⟩
  · subst e
    cases r1
    obtain ⟨its, rv, p, hz⟩ := I1.list hq
    refine wpAny_pyIter_list p.isList ?_
    refine ⟨s1.heap.objs.size, [s1.heap.objs.size], _, _, H1, rfl, I1.kept (t' := s1.toks) fun b o e => Heap.get?_push_of_some _ e, turn_list a _, ⟨_, Heap.get?_push_size _ rfl, rfl, rfl⟩, fun b hb => ?_, q⟩
    have e : b = s1.heap.objs.size := by simpa using hb
    subst e
    exact I1.fpOk (Nat.le_refl _) (I1.hok.fresh (Nat.le_refl _))
  · subst e
    cases r1
    obtain ⟨its, rv, p, hz⟩ := I1.tuple hq
    refine wpAny_pyIter_tuple (show s1.heap.IsTuple a its.toArray from p) ?_
    refine ⟨s1.heap.objs.size, [s1.heap.objs.size], _, _, H1, rfl, I1.kept (t' := s1.toks) fun b o e => Heap.get?_push_of_some _ e, turn_tuple a _, ⟨_, Heap.get?_push_size _ rfl, rfl, rfl⟩, fun b hb => ?_, q⟩
    have e : b = s1.heap.objs.size := by simpa using hb
    subst e
    exact I1.fpOk (Nat.le_refl _) (I1.hok.fresh (Nat.le_refl _))
  · subst e
    obtain ⟨t, rfl⟩ := r1
    cases ha : z.cps.all (· < 128)
    · exact wpAny_pyIter_wide ha (pi_one (tk := s1.toks) I1 _ (turn_str _ z t "str_iterator" (.inr rfl)) ⟨_, Heap.get?_push_size _ rfl, rfl, rfl⟩ q)
    · exact wpAny_pyIter_ascii ha (pi_one (tk := s1.toks) I1 _ (turn_str _ z t "str_ascii_iterator" (.inl rfl)) ⟨_, Heap.get?_push_size _ rfl, rfl, rfl⟩ q)
def signsD (z : Str) : List D := z.cps.toList.map fun c => .str ⟨#[c]⟩
section
variable {X : Cx} {own own' ob : List Nat} {e a b c : Expr} {es : List Expr} {se sa sb sc : SE} {pos p p2 : Pos}
theorem wk_str {g1 : Gh} {z : Str} : Wk X (Its z) (signsD z) g1 := fun g H S G l i => by
  unfold signsD
  refine ⟨fun d hd => ?_, fun e => by rw [List.length_map] at e; show z.cps.size ≤ i; rw [← e]; simp⟩
  rw [List.getElem?_map] at hd
  cases q : z.cps.toList[i]? with
  | none => rw [q] at hd; cases hd
  | some k =>
    rw [q] at hd
    cases hd
    have q' : z.cps[i]? = some k := by simpa using q
    have hlt : i < z.cps.size := (Array.getElem?_eq_some_iff.mp q').1
    refine ⟨hlt, fun x H' ⟨e, c, hc, hx⟩ => ?_⟩
    subst e hx
    rw [q'] at hc
    cases hc
    exact ⟨g, G, .refl, .str _⟩
def sItA (se : SE) : SI := fun ρ S => (se ρ S).then fun d S' => match d with
  | .lst xs => .ok xs S'
  | .tup xs => .ok xs S'
  | .scr ns => .ok (ns.map .int) S'
  | .str z => .ok (signsD z) S'
  | _ => .bad
theorem simi_seq {tg : Expr} (h : SimE X own e se) : SimI X own tg e (sItA se) := pi_weak (pi_seq h) fun σ H R ⟨g0, H0, ρ, g, S, E, q⟩ => by
  obtain ⟨ds, S', e1, k⟩ := Res.post_ex q
  obtain ⟨d, S1, e2, e1⟩ := Res.then_ex e1
  refine ⟨g0, H0, ρ, g, S, E, ?_⟩
  rw [e2]
  intro v g1 H1 G1 s1 r1
  cases r1 with
  | lst h r => cases e1; exact .inl ⟨_, rfl, ⟨_, SqL.of (G1.sub _ _ h)⟩, k _ g1 H1 G1 s1 (wk_list h r)⟩
  | scr h => cases e1; exact .inl ⟨_, rfl, ⟨_, G1.sub.seq h⟩, k _ g1 H1 G1 s1 (wk_scr h)⟩
  | tup h r => cases e1; exact .inr (.inl ⟨_, rfl, ⟨_, SqT.of (G1.sub _ _ h)⟩, k _ g1 H1 G1 s1 (wk_tup h r)⟩)
  | str z => cases e1; exact .inr (.inr ⟨_, rfl, k _ g1 H1 G1 s1 wk_str⟩)
  | _ => cases e1
/-! ### short forms -/
theorem v_len (hm : X.mg "len" = none) (ha : SimR X own a sa) (hg : Gl X "len" := by rfl) (he : starEach (a :: []) X.env = (false, eval a X.env) :: starEach [] X.env := by rfl) (hpl : (backTo pos (starEach ([] : List Expr) X.env)).any (·.1) = false := by rfl) : SimE X own (.Call (.Name "len" p) [a] [] pos) (sCallN dLen [(false, sa)]) := sim_callB call_len opN_len hg hm boot_len (simr_cons ha simr_nil he) (by decide) (by decide) he hpl
theorem v_any (hm : X.mg "any" = none) (ha : SimR X own a sa) (hc : X.calm = true := by rfl) (hg : Gl X "any" := by rfl) (he : starEach (a :: []) X.env = (false, eval a X.env) :: starEach [] X.env := by rfl) (hpl : (backTo pos (starEach ([] : List Expr) X.env)).any (·.1) = false := by rfl) : SimE X own (.Call (.Name "any" p) [a] [] pos) (sCallN dAnyA [(false, sa)]) := sim_callB (call_anyA hc) opN_anyA hg hm (by decide +kernel) (simr_cons ha simr_nil he) (by decide) (by decide) he hpl
theorem v_all (hm : X.mg "all" = none) (ha : SimR X own a sa) (hc : X.calm = true := by rfl) (hg : Gl X "all" := by rfl) (he : starEach (a :: []) X.env = (false, eval a X.env) :: starEach [] X.env := by rfl) (hpl : (backTo pos (starEach ([] : List Expr) X.env)).any (·.1) = false := by rfl) : SimE X own (.Call (.Name "all" p) [a] [] pos) (sCallN dAll [(false, sa)]) := sim_callB (cr_all hc) opN_all hg hm (by decide +kernel) (simr_cons ha simr_nil he) (by decide) (by decide) he hpl
theorem v_sum (hm : X.mg "sum" = none) (ha : SimR X own a sa) (hc : X.calm = true := by rfl) (hg : Gl X "sum" := by rfl) (he : starEach (a :: []) X.env = (false, eval a X.env) :: starEach [] X.env := by rfl) (hpl : (backTo pos (starEach ([] : List Expr) X.env)).any (·.1) = false := by rfl) : SimE X own (.Call (.Name "sum" p) [a] [] pos) (sCallN dSum [(false, sa)]) := sim_callB (cr_sum hc) opN_sum hg hm (by decide +kernel) (simr_cons ha simr_nil he) (by decide) (by decide) he hpl
theorem v_max1 (hm : X.mg "max" = none) (ha : SimR X own a sa) (hc : X.calm = true := by rfl) (hg : Gl X "max" := by rfl) (he : starEach (a :: []) X.env = (false, eval a X.env) :: starEach [] X.env := by rfl) (hpl : (backTo pos (starEach ([] : List Expr) X.env)).any (·.1) = false := by rfl) : SimE X own (.Call (.Name "max" p) [a] [] pos) (sCallN dMax [(false, sa)]) := sim_callB (call_maxA hc) opN_max hg hm (by decide +kernel) (simr_cons ha simr_nil he) (by decide) (by decide) he hpl
theorem v_min1 (hm : X.mg "min" = none) (ha : SimR X own a sa) (hc : X.calm = true := by rfl) (hg : Gl X "min" := by rfl) (he : starEach (a :: []) X.env = (false, eval a X.env) :: starEach [] X.env := by rfl) (hpl : (backTo pos (starEach ([] : List Expr) X.env)).any (·.1) = false := by rfl) : SimE X own (.Call (.Name "min" p) [a] [] pos) (sCallN dMin [(false, sa)]) := sim_callB (call_minA hc) opN_min hg hm (by decide +kernel) (simr_cons ha simr_nil he) (by decide) (by decide) he hpl
theorem v_max2 (hm : X.mg "max" = none) (ha : SimR X own a sa) (hb : SimR X own b sb) (hc : X.calm = true := by rfl) (hg : Gl X "max" := by rfl) (he : starEach (a :: [b]) X.env = (false, eval a X.env) :: starEach [b] X.env := by rfl) (he2 : starEach (b :: []) X.env = (false, eval b X.env) :: starEach [] X.env := by rfl) (hpl : (backTo pos (starEach [b] X.env)).any (·.1) = false := by rfl) : SimE X own (.Call (.Name "max" p) [a, b] [] pos) (sCallN dMax [(false, sa), (false, sb)]) := sim_callB (call_maxA hc) opN_max hg hm (by decide +kernel) (simr_cons ha (simr_cons hb simr_nil he2) he) (by decide) (by decide) he hpl
theorem v_min2 (hm : X.mg "min" = none) (ha : SimR X own a sa) (hb : SimR X own b sb) (hc : X.calm = true := by rfl) (hg : Gl X "min" := by rfl) (he : starEach (a :: [b]) X.env = (false, eval a X.env) :: starEach [b] X.env := by rfl) (he2 : starEach (b :: []) X.env = (false, eval b X.env) :: starEach [] X.env := by rfl) (hpl : (backTo pos (starEach [b] X.env)).any (·.1) = false := by rfl) : SimE X own (.Call (.Name "min" p) [a, b] [] pos) (sCallN dMin [(false, sa), (false, sb)]) := sim_callB (call_minA hc) opN_min hg hm (by decide +kernel) (simr_cons ha (simr_cons hb simr_nil he2) he) (by decide) (by decide) he hpl
theorem v_int (hm : X.mg "int" = none) (ha : SimR X own a sa) (hg : Gl X "int" := by rfl) (he : starEach (a :: []) X.env = (false, eval a X.env) :: starEach [] X.env := by rfl) (hpl : (backTo pos (starEach ([] : List Expr) X.env)).any (·.1) = false := by rfl) : SimE X own (.Call (.Name "int" p) [a] [] pos) (sCallN dIntOf [(false, sa)]) := sim_callTy call_int1 opN_int hg hm boot_int (simr_cons ha simr_nil he) (by decide) (by decide) he hpl
theorem v_str (hm : X.mg "str" = none) (ha : SimR X own a sa) (hg : Gl X "str" := by rfl) (he : starEach (a :: []) X.env = (false, eval a X.env) :: starEach [] X.env := by rfl) (hpl : (backTo pos (starEach ([] : List Expr) X.env)).any (·.1) = false := by rfl) : SimE X own (.Call (.Name "str" p) [a] [] pos) (sCallN dStrOf [(false, sa)]) := sim_callTy call_str_int opN_str hg hm boot_str (simr_cons ha simr_nil he) (by decide) (by decide) he hpl
theorem v_tup (hm : X.mg "tuple" = none) (ha : SimR X own a sa) (hg : Gl X "tuple" := by rfl) (he : starEach (a :: []) X.env = (false, eval a X.env) :: starEach [] X.env := by rfl) (hpl : (backTo pos (starEach ([] : List Expr) X.env)).any (·.1) = false := by rfl) : SimE X own (.Call (.Name "tuple" p) [a] [] pos) (sCallN dTupOf [(false, sa)]) := sim_callTy call_tuple_of opN_tup hg hm boot_tuple (simr_cons ha simr_nil he) (by decide) (by decide) he hpl
theorem f_lst (hm : X.mg "list" = none) (ha : SimR X own a sa) (hg : Gl X "list" := by rfl) (he : starEach (a :: []) X.env = (false, eval a X.env) :: starEach [] X.env := by rfl) (hpl : (backTo pos (starEach ([] : List Expr) X.env)).any (·.1) = false := by rfl) : SimF X own (.Call (.Name "list" p) [a] [] pos) (sCallN dLstOf [(false, sa)]) := simf_callTy call_list_of opF_lst hg hm boot_list (simr_cons ha simr_nil he) (by decide) (by decide) he hpl
theorem f_sorted {k : Nat} (hr : Room k X.A) (hm : X.mg "sorted" = none) (ha : SimR X own a sa) (hg : Gl X "sorted" := by rfl) (he : starEach (a :: []) X.env = (false, eval a X.env) :: starEach [] X.env := by rfl) (hpl : (backTo pos (starEach ([] : List Expr) X.env)).any (·.1) = false := by rfl) : SimF X own (.Call (.Name "sorted" p) [a] [] pos) (sCallN dSorted [(false, sa)]) := simf_callB (cr_sortedD (by have := hr.un; omega)) opF_sorted hg hm (by decide +kernel) (simr_cons ha simr_nil he) (by decide) (by decide) he hpl
theorem v_join {apos : Pos} (ha : SimR X own a sa) (hb : SimR X own b sb) (hs : starEach [b] X.env = [(false, eval b X.env)] := by rfl) (hbase : attributeBase a "join" X.env (eval a X.env) = eval a X.env := by rfl) (hline : (apos.endLine == pos.line) = true := by rfl) : SimE X own (.Call (.Attribute a "join" apos) [b] [] pos) (sOp2 dJoin sa sb) :=
  sim_sm1 (fun h1 h2 => pe_join h1 h2 hs hbase hline) op2_join join_str ha hb
theorem v_add (ha : SimR X own a sa) (hb : SimR X own b sb) : SimE X own (.BinOp a .Add b pos) (sOp2 dAdd sa sb) := sim_op opr_add op2_add ha hb
theorem v_sub (ha : SimR X own a sa) (hb : SimR X own b sb) : SimE X own (.BinOp a .Sub b pos) (sOp2 dSub sa sb) := sim_op op_sub op2_sub ha hb
theorem v_mul (ha : SimR X own a sa) (hb : SimR X own b sb) : SimE X own (.BinOp a .Mult b pos) (sOp2 dMulA sa sb) := sim_op opr_mulA op2_mulA ha hb
theorem v_fdiv (ha : SimR X own a sa) (hb : SimR X own b sb) : SimE X own (.BinOp a .FloorDiv b pos) (sOp2 dFdiv sa sb) := sim_op op_fdivN op2_fdiv ha hb
theorem v_mod (ha : SimR X own a sa) (hb : SimR X own b sb) : SimE X own (.BinOp a .Mod b pos) (sOp2 dMod sa sb) := sim_op op_modN op2_mod ha hb
theorem v_pow (ha : SimR X own a sa) (hb : SimR X own b sb) : SimE X own (.BinOp a .Pow b pos) (sOp2 dPow sa sb) := sim_op op_pow op2_pow ha hb
theorem v_neg (ha : SimR X own a sa) : SimE X own (.UnaryOp .USub a pos) (sOp1 dNeg sa) := sim_un un_neg op1_neg ha
theorem f_rep (ha : SimR X own a sa) (hb : SimR X own b sb) : SimF X own (.BinOp a .Mult b pos) (sOp2 dRepF sa sb) := simf_op op_rep opF2_rep ha hb
theorem f_cat (ha : SimR X own a sa) (hb : SimR X own b sb) : SimF X own (.BinOp a .Add b pos) (sOp2 dCatF sa sb) := simf_op op_cat opF2_cat ha hb
end
/-- what gives a new list -/
class IsL (se : SE) : Prop where
  l : ∀ ρ S d S', se ρ S = .ok d S' → ∃ ds, d = .lst ds
instance {sas : List (Bool × SE)} : IsL (sLst sas) := ⟨fun _ _ _ _ e => sLst_lst e⟩
instance {vs : List Nat} {si : SI} {sg : SG} {st : SB} {se : SE} : IsL (sComp vs si sg st se) := ⟨fun _ _ _ _ e => sComp_lst e⟩
instance {sa sb : SE} : IsL (sOp2 dRepF sa sb) := ⟨fun _ _ _ _ e => opl_f (fun _ _ _ h => rep_l h) e⟩
instance {sa sb : SE} : IsL (sOp2 dCatF sa sb) := ⟨fun _ _ _ _ e => opl_f (fun _ _ _ h => cat_l h) e⟩
instance {sas : List (Bool × SE)} : IsL (sCallN dLstOf sas) := ⟨fun _ _ _ _ e => callL (fun _ _ h => lstOf_l h) e⟩
instance {sas : List (Bool × SE)} : IsL (sCallN dSorted sas) := ⟨fun _ _ _ _ e => callL (fun _ _ h => sorted_l h) e⟩
section
variable {X : Cx} {own own' ob : List Nat} {e : Expr} {se : SE}
theorem SimF.ee [i : IsL se] (h : SimF X own e se) : SimE X own e se := h.ev i.l
theorem SimF.rr [i : IsL se] (h : SimF X own e se) : SimR X own e se := h.r i.l
theorem SimF.xx [i : IsL se] (h : SimF X own e se) : SimX X true own e se := SimF.x h i.l
end
end Ev
namespace Ev
open PySem PySem.Spec PyProof.Rows L2
/-! ### calls that only look at lists of the body's own -/
mutual
def noM : D → Bool
  | .mref _ => false
  | .tup xs => noMs xs
  | .lst xs => noMs xs
  | .obj _ fs => noMf fs
  | _ => true
def noMs : List D → Bool
  | [] => true
  | d :: ds => noM d && noMs ds
def noMf : List (Str × D) → Bool
  | [] => true
  | (_, d) :: ds => noM d && noMf ds
end
def flatD : D → Bool
  | .non => true
  | .bl _ => true
  | .int _ => true
  | .str _ => true
  | _ => false
section
variable {K : PySem.W.Frag} {mg : Str → Option Value} {g g' : Gh} {H H' : Hp} {S S' : Sto}
mutual
theorem Rep.noM (lF : Same g.F g'.F) : ∀ {v : V} {d : D}, Rep K mg g v d → noM d = true → Rep K mg g' v d
  | _, _, .non, _ => .non
  | _, _, .bl b, _ => .bl b
  | _, _, .int i, _ => .int i
  | _, _, .str x, _ => .str x
  | _, _, .tup (ds := ds) h r, e => .tup (lF _ _ h) (Reps.noM lF r (show noMs ds = true from e))
  | _, _, .lst (ds := ds) h r, e => .lst (lF _ _ h) (Reps.noM lF r (show noMs ds = true from e))
  | _, _, .obj (fs := fs) m h h2 r, e => .obj m (lF _ _ h) (lF _ _ h2) (FReps.noM lF r (show noMf fs = true from e))
  | _, _, .mref (i := i) h, e => by cases (show false = true from e)
  | _, _, .scr h, _ => .scr (lF.seq h)
theorem Reps.noM (lF : Same g.F g'.F) : ∀ {vs : List V} {ds : List D}, Reps K mg g vs ds → noMs ds = true → Reps K mg g' vs ds
  | _, _, .nil, _ => .nil
  | _, _, .cons (d := d) (ds := ds) h r, e => by
    have e' : (Ev.noM d && noMs ds) = true := e
    rw [Bool.and_eq_true] at e'
    exact .cons (Rep.noM lF h e'.1) (Reps.noM lF r e'.2)
theorem FReps.noM (lF : Same g.F g'.F) : ∀ {vs : List (Str × V)} {ds : List (Str × D)}, FReps K mg g vs ds → noMf ds = true → FReps K mg g' vs ds
  | _, _, .nil, _ => .nil
  | _, _, .cons (d := d) (ds := ds) (x := x) h r, e => by
    have e' : (Ev.noM d && noMf ds) = true := e
    rw [Bool.and_eq_true] at e'
    exact .cons (Rep.noM lF h e'.1) (FReps.noM lF r e'.2)
end
theorem whole (G : GOk K mg g H S) : ∀ {vs : List V} {ds : List D}, RepRs K mg g H vs ds → noMs ds = true → Reps K mg ⟨H, [], g.me⟩ vs ds
  | _, _, .nil, _ => .nil
  | _, _, .cons (d := d) (ds := ds) h r, e => by
    have e' : (Ev.noM d && noMs ds) = true := e
    rw [Bool.and_eq_true] at e'
    refine .cons ?_ (whole G r e'.2)
    rcases h with h | ⟨p, vs', ds', rfl, rfl, hp, _, r'⟩
    · exact Rep.noM (g' := ⟨H, [], g.me⟩) G.sub h e'.1
    · exact .lst hp (Reps.noM (g' := ⟨H, [], g.me⟩) G.sub r' (show noMs ds' = true from e'.1))
theorem GOk.whole : GOk K mg ⟨H, [], g.me⟩ H [] := ⟨Same.refl _, List.nodup_nil, rfl, fun _ h => (by cases h), fun i a h => by simp at h⟩
theorem GOk.keepAll (G : GOk K mg g H S) (k : ∀ a o, H a = some o → H' a = some o) : GOk K mg g H' S :=
  ⟨fun a o h => k a o (G.sub a o h), G.nd, G.len, G.nf, fun i a h => by
    obtain ⟨kvs, kds, h1, h2, h3⟩ := G.st i a h
    exact ⟨kvs, kds, k _ _ h1, h2, h3⟩⟩
theorem flat_rep {v : V} {d : D} (r : Rep K mg g v d) (f : flatD d = true) : Rep K mg g' v d := by
  cases r with
  | non => exact .non
  | bl b => exact .bl b
  | int i => exact .int i
  | str x => exact .str x
  | _ => cases f
end
def sCallL (m : List D → M D) (sas : List (Bool × SE)) : SE := fun ρ S => (sArgs sas ρ S).then fun ds S1 => if noMs ds then (match m ds [] with
  | .ok d [] => if flatD d then .ok d S1 else .bad
  | _ => .bad) else .bad
section
variable {X : Cx} {own : List Nat} {e : Expr} {es : List Expr} {se : SE} {sas : List (Bool × SE)} {pos p : Pos} {x : Str} {m : List D → M D} {n k : Nat}
theorem sim_callL (F : GF X.prog X.w X.K X.mg X.base k x n m) (hr : Room k X.A) (hg : Gl X x) (ha : SimAR X own (e :: es) sas) (hn : sas.length = n := by rfl) (hst : (sas.all fun a => !a.1) = true := by rfl) (hdb : (x == ("__debug__" : Str)) = false := by decide)
    (he : starEach (e :: es) X.env = (false, eval e X.env) :: starEach es X.env := by rfl) (hpl : (backTo pos (starEach es X.env)).any (·.1) = false := by rfl) : SimE X own (.Call (.Name x p) (e :: es) [] pos) (sCallL m sas) := by
  obtain ⟨f, fd, ps, hm, hk, hb, F⟩ := F.ex
  refine pe_weak (pe_call F hr hg hm hk hb .nil pass0 ha hdb he hpl) fun σ H Q ⟨g0, H0, ρ, g, S, E, q⟩ => ?_
  obtain ⟨d, S', e1, k⟩ := Res.post_ex q
  obtain ⟨ds, S1, e2, e1⟩ := Res.then_ex e1
  refine ⟨g0, H0, ρ, g, S, E, ?_⟩
  have hl := sArgs_len hst e2
  rw [e2]
  intro vs g1 H1 G1 s1 r1
  rw [List.append_nil]
  split at e1
  · rename_i hno
    split at e1
    · rename_i d1 em
      split at e1
      · rename_i hf
        cases e1
        refine ⟨⟨H1, [], g1.me⟩, ds, [], GOk.whole, whole G1 r1 hno, by rw [hl, hn], ?_⟩
        rw [em]
        intro v g2 H2 G2 s2 r2
        have kp : ∀ a o, H1 a = some o → H2 a = some o := fun a o h => s2.keep a o h (by simp)
        refine k v g1 H2 (G1.keepAll kp) (s1.trans ⟨.refl _, fun a o h _ => kp a o h, s2.there, fun _ h => .inl h, fun _ h => .inl h⟩) (flat_rep r2 hf)
      · cases e1
    · cases e1
  · cases e1
end
/-! ### a def that never answers here -/
section
variable {P : Program} {w : World} {K : PySem.W.Frag} {mg : Str → Option Value} {base : Heap}
theorem gf_bad {x qual : Str} {st : Stmt} {f : Addr} {fd : FuncData} {N ps : List Str} {k n : Nat} (F : FunD K x qual (defArgs st) (defBody st) (defScope st) [] [] f fd) {y : Str} (hm : mg y = some (.ref f)) (Sc : FnScope N ps (defScope st)) (hn : ps.length = n)
    (hb : ∀ (kV doc pm : Value) (an : Option Addr) (cdv ct : Value) (us : List Value), us.length = ps.length → bindArgs (PySem.W.fnOf x qual (defArgs st) (defBody st) (defScope st) .none kV doc pm an cdv ct) ⟨us, []⟩ = pure (ps.zip us)) :
    GF P w K mg base k y n (fun _ _ => .bad) := by
  refine ⟨f, fd, ps, hm, F.kp, F.bindsN hb, ⟨fun vs H Q E h => ?_, fun A outer s H args us vs Q E hr => ?_⟩⟩
  · obtain ⟨g, ds, S, G, r, hl, q⟩ := h
    exact q.elim
  · intros
    rename_i h
    obtain ⟨g, ds, S, G, r, hl, q⟩ := h
    exact q.elim
/-- the law's own def -/
theorem fo_of {x qual : Str} {st : Stmt} {f : Addr} {fd : FuncData} {N ps : List Str} {k n : Nat} {b : SS} (F : FunD K x qual (defArgs st) (defBody st) (defScope st) [] [] f fd) (Sc : FnScope N ps (defScope st)) (hn : ps.length = n) (hN : n ≤ N.length)
    (body : ∀ (cdv : Value) (A : Around) (outer : List Env) (s : Shared) (H : Hp) (E : XK), Room k (A.deeper (envOfC qual (defScope st) s.heap.objs.size f cdv)) → SimB (Ctx P w K mg base N qual (defScope st) f cdv A outer s H E) [] [] [] (defBody st) b) :
    FnOk P w K mg base CX0 (k + 1) f fd ps (spOf K mg n (runD N.length b)) := by
  refine F.ok Sc (fun vs H Q E h => ?_) (fun cdv A outer s H vs Q E hr h => ⟨_, PSs.nox (body cdv A outer s H E hr), ?_⟩)
  · obtain ⟨g, ds, S, G, r, hl, _⟩ := h
    rw [r.length, hl, hn]
  · obtain ⟨g, ds, S, G, r, hl, q⟩ := h
    refine ⟨g, H, _, g, S, env_start (N := N) G r (by rw [hl]; exact hN), ?_⟩
    have q' : (runD N.length b ds S).post _ := q
    unfold runD outD at q'
    refine Res.post_mono (Res.post_then.mp q') fun o S' k => ?_
    cases o with
    | nx ρ => exact fun σ g1 H1 l1 E1 => k _ g1 H1 E1.gok E1.stp .non
    | rt d => exact fun v g1 H1 G1 s1 r1 => k v g1 H1 G1 s1 r1
    | bk ρ => exact k.elim
    | ct ρ => exact k.elim
/-- what the law's def is asked at its start -/
theorem start_law {m : List D → M D} {a : Addr} {ns : List Int} {H : Hp} {E : XK} (hS : SqL K H a (ns.map V.int)) {S' : Sto} (h : m [.scr ns] [] = .ok (.bl true) S') : spOf K mg 1 m [.ref a] H (fun v _ => v = .bl true) E :=
  ⟨⟨H, [], 0⟩, [.scr ns], [], GOk.whole (g := ⟨H, [], 0⟩), .one (.scr hS), rfl, by rw [h]; intro v g' H' G s r; cases r; rfl⟩
end
end Ev
namespace Ev
open PySem PySem.Spec PyProof.Rows L2
/-! ### running mirrors: what simp unfolds -/
theorem then_congr {α β : Type} {r r' : Res α} {k : α → Sto → Res β} (h : r = r') : r.then k = r'.then k := by rw [h]
theorem post_congr {α : Type} {r r' : Res α} {P : α → Sto → Prop} (h : r = r') : r.post P = r'.post P := by rw [h]
def vEl : Option (Option D) → Sto → Res D
  | some (some d), S => .ok d S
  | _, _ => .bad
@[simp] theorem vEl_some (d : D) (S : Sto) : vEl (some (some d)) S = .ok d S := rfl
def vElR : Option (Option D) → Sto → Res D
  | some (some d), S => if noObj d then .ok d S else .bad
  | _, _ => .bad
@[simp] theorem vElR_lst (ds : List D) (S : Sto) : vElR (some (some (.lst ds))) S = .ok (.lst ds) S := rfl
section
variable (ρ : DEnv) (S : Sto) (i j l : Nat) (d : D) (f f' : D → D → Option D) (f1 : D → Option D) (fn : List D → Option D) (sa sb sc se so sk sv : SE) (ba bb st : SB) (ss tt uu : SS) (sas : List (Bool × SE)) (m : List D → M D) (sm : SM) (sg : SG) (gs : List SG) (si : SI)
@[simp] theorem e_var : sVar i ρ S = vEl ρ[i]? S := by
  unfold sVar
  cases ρ[i]? with
  | none => rfl
  | some o => cases o <;> rfl
@[simp] theorem e_varR : sVarR i ρ S = vElR ρ[i]? S := by
  unfold sVarR
  cases ρ[i]? with
  | none => rfl
  | some o => cases o <;> rfl
@[simp] theorem e_c : sC d ρ S = .ok d S := rfl
@[simp] theorem e_op2 : sOp2 f sa sb ρ S = (sa ρ S).then fun x S1 => (sb ρ S1).then fun y S2 => optR (f x y) S2 := rfl
@[simp] theorem e_op1 : sOp1 f1 sa ρ S = (sa ρ S).then fun x S1 => optR (f1 x) S1 := rfl
def rBool : D → Sto → Res Bool
  | .bl b, S => .ok b S
  | _, _ => .bad
@[simp] theorem rBool_bl (b : Bool) : rBool (.bl b) S = .ok b S := rfl
@[simp] theorem e_bool : sBool se ρ S = (se ρ S).then rBool := by
  unfold sBool
  congr 1
  funext d S'
  cases d <;> rfl
def chn (f' : D → D → Option D) (sc : SE) (ρ : DEnv) (y : D) : D → Sto → Res D
  | .bl true, S3 => (sc ρ S3).then fun w S4 => optR (f' y w) S4
  | .bl false, S3 => .ok (.bl false) S3
  | _, _ => .bad
@[simp] theorem chn_bl (y : D) (b : Bool) : chn f' sc ρ y (.bl b) S = if b then (sc ρ S).then fun w S4 => optR (f' y w) S4 else .ok (.bl false) S := by cases b <;> rfl
@[simp] theorem e_chain : sChain f f' sa sb sc ρ S = (sa ρ S).then fun x S1 => (sb ρ S1).then fun y S2 => (optR (f x y) S2).then (chn f' sc ρ y) := by
  unfold sChain
  congr 1
  funext x S1
  congr 1
  funext y S2
  congr 1
  funext z S3
  cases z with
  | bl b => cases b <;> rfl
  | _ => rfl
@[simp] theorem e_tru : sTru se ρ S = (se ρ S).then fun d S' => optR (dTruth d) S' := rfl
@[simp] theorem e_notB : sNotB ba ρ S = (ba ρ S).then fun b S' => .ok (!b) S' := rfl
@[simp] theorem e_andB : sAndB ba bb ρ S = (ba ρ S).then fun b S' => if b then bb ρ S' else .ok false S' := rfl
@[simp] theorem e_orB : sOrB ba bb ρ S = (ba ρ S).then fun b S' => if b then .ok true S' else bb ρ S' := rfl
@[simp] theorem e_andV : sAndV sa sb ρ S = (sBool sa ρ S).then fun b S' => if b then sb ρ S' else .ok (.bl false) S' := rfl
@[simp] theorem e_orV : sOrV sa sb ρ S = (sBool sa ρ S).then fun b S' => if b then .ok (.bl true) S' else sb ρ S' := rfl
@[simp] theorem e_notV : sNotV ba ρ S = (ba ρ S).then fun b S' => .ok (.bl (!b)) S' := rfl
@[simp] theorem e_ifE : sIfE st sa sb ρ S = (st ρ S).then fun c S' => if c then sa ρ S' else sb ρ S' := rfl
@[simp] theorem e_noPart : sNoPart ρ S = .ok none S := rfl
def rPart : D → Sto → Res (Option Int)
  | .int i, S => .ok (some i) S
  | _, _ => .bad
@[simp] theorem rPart_int (i : Int) : rPart (.int i) S = .ok (some i) S := rfl
@[simp] theorem e_part : sPart se ρ S = (se ρ S).then rPart := by
  unfold sPart
  congr 1
  funext d S'
  cases d <;> rfl
def dSlice : D → Option Int → Option Int → Option D
  | .tup xs, lo, hi => some (.tup (cutD xs lo hi))
  | .lst xs, lo, hi => some (.lst (cutD xs lo hi))
  | _, _, _ => none
@[simp] theorem dSlice_tup (xs : List D) (lo hi : Option Int) : dSlice (.tup xs) lo hi = some (.tup (cutD xs lo hi)) := rfl
@[simp] theorem dSlice_lst (xs : List D) (lo hi : Option Int) : dSlice (.lst xs) lo hi = some (.lst (cutD xs lo hi)) := rfl
@[simp] theorem e_slice (sl sh : SO) : sSlice sa sl sh ρ S = (sa ρ S).then fun x S1 => (sl ρ S1).then fun lo S2 => (sh ρ S2).then fun hi S3 => optR (dSlice x lo hi) S3 := by
  unfold sSlice
  congr 1
  funext x S1
  congr 1
  funext lo S2
  congr 1
  funext hi S3
  cases x <;> rfl
@[simp] theorem e_args0 : sArgs [] ρ S = .ok [] S := rfl
@[simp] theorem e_args1 : sArgs ((false, sa) :: sas) ρ S = (sa ρ S).then fun d S1 => (sArgs sas ρ S1).then fun ds S2 => .ok (d :: ds) S2 := rfl
def starD : D → Option (List D)
  | .tup xs => some xs
  | .lst xs => some xs
  | _ => none
@[simp] theorem starD_tup (xs : List D) : starD (.tup xs) = some xs := rfl
@[simp] theorem starD_lst (xs : List D) : starD (.lst xs) = some xs := rfl
@[simp] theorem e_args2 : sArgs ((true, sa) :: sas) ρ S = (sa ρ S).then fun d S1 => (optR (starD d) S1).then fun xs S1 => (sArgs sas ρ S1).then fun ds S2 => .ok (xs ++ ds) S2 := by
  rw [sArgs]
  show (sa ρ S).then _ = (sa ρ S).then _
  congr 1
  funext d S'
  cases d <;> simp [starD]
@[simp] theorem e_tup : sTup sas ρ S = (sArgs sas ρ S).then fun ds S' => if ds.length ≤ sizeLine then .ok (.tup ds) S' else .bad := rfl
@[simp] theorem e_lst : sLst sas ρ S = (sArgs sas ρ S).then fun ds S' => if ds.length ≤ sizeLine then .ok (.lst ds) S' else .bad := rfl
@[simp] theorem e_callN : sCallN fn sas ρ S = (sArgs sas ρ S).then fun ds S' => optR (fn ds) S' := rfl
@[simp] theorem e_isi (Ts : List String) : sIsi Ts sa ρ S = (sa ρ S).then fun d S' => (optR (tyD d) S').then fun t S' => .ok (.bl (Ts.any fun T => isTyS t T)) S' := by
  unfold sIsi
  congr 1
  funext d S'
  cases tyD d <;> rfl
@[simp] theorem e_call : sCall m sas ρ S = (sArgs sas ρ S).then m := rfl
def attrD (cs : List Str) (f : Str) : D → Sto → Res D
  | .obj c fs, S' => if c ∈ cs then optR (fs.lookup f) S' else .bad
  | _, _ => .bad
@[simp] theorem e_attr (cs : List Str) (x : Str) : sAttr cs x se ρ S = (se ρ S).then (attrD cs x) := by
  unfold sAttr
  congr 1
  funext d S'
  cases d <;> rfl
def getD' (o k : D) (S : Sto) : Res D := match o, keyD k with
  | .mref i, some k => optR (S[i]?.bind fun kds => valK kds k) S
  | _, _ => .bad
@[simp] theorem e_get : sGet so sk ρ S = (so ρ S).then fun o S1 => (sk ρ S1).then fun k S2 => getD' o k S2 := rfl
@[simp] theorem e_next : sNext ρ S = .ok (.nx ρ) S := rfl
def thenO (t : SS) : Out → Sto → Res Out
  | .nx ρ', S' => t ρ' S'
  | o, S' => .ok o S'
@[simp] theorem thenO_nx (t : SS) : thenO t (.nx ρ) S = t ρ S := rfl
@[simp] theorem thenO_rt (t : SS) : thenO t (.rt d) S = .ok (.rt d) S := rfl
@[simp] theorem thenO_bk (t : SS) : thenO t (.bk ρ) S = .ok (.bk ρ) S := rfl
@[simp] theorem thenO_ct (t : SS) : thenO t (.ct ρ) S = .ok (.ct ρ) S := rfl
@[simp] theorem e_seq : sSeq ss tt ρ S = (ss ρ S).then (thenO tt) := by
  unfold sSeq
  congr 1
  funext o S'
  cases o <;> rfl
@[simp] theorem e_bad : sBad ρ S = .bad := rfl
@[simp] theorem e_break : sBreak ρ S = .ok (.bk ρ) S := rfl
@[simp] theorem e_cont : sCont ρ S = .ok (.ct ρ) S := rfl
@[simp] theorem e_ret : sRet se ρ S = (se ρ S).then fun d S' => .ok (.rt d) S' := rfl
@[simp] theorem e_retN : sRetN ρ S = .ok (.rt .non) S := rfl
@[simp] theorem e_drop : sDrop se ρ S = (se ρ S).then fun _ S' => .ok (.nx ρ) S' := rfl
@[simp] theorem e_ifS : sIfS st ss tt ρ S = (st ρ S).then fun b S' => if b then ss ρ S' else tt ρ S' := rfl
@[simp] theorem e_set : sSet i se ρ S = (se ρ S).then fun d S' => .ok (.nx (ρ.set i (some d))) S' := rfl
@[simp] theorem e_pure : sPure se ρ S = (se ρ S).then fun d S' => .ok (d, ρ) S' := rfl
def mtD (i : Nat) (f : List D → List D → Option (List D × D)) (a : List D) (ρ : DEnv) (S : Sto) : Option (Option D) → Res (D × DEnv)
  | some (some (.lst xs)) => (optR (f xs a) S).then fun yd S => .ok (yd.2, ρ.set i (some (.lst yd.1))) S
  | _ => .bad
@[simp] theorem mtD_lst (f : List D → List D → Option (List D × D)) (a xs : List D) : mtD i f a ρ S (some (some (.lst xs))) = (optR (f xs a) S).then fun yd S => .ok (yd.2, ρ.set i (some (.lst yd.1))) S := rfl
@[simp] theorem isLst_lst (xs : List D) : isLst (some (some (.lst xs))) = true := rfl
@[simp] theorem e_mt1 (f : List D → List D → Option (List D × D)) : mt1 i f sm ρ S = if isLst ρ[i]? then (sm ρ S).then fun dr S' => mtD i f [dr.1] dr.2 S' dr.2[i]? else .bad := by
  unfold mt1
  congr 2
  funext dr S'
  cases dr.2[i]? with
  | none => rfl
  | some o => cases o with
    | none => rfl
    | some d => cases d with
      | lst xs => show (match f xs [dr.1] with
          | some (ys, d) => Res.ok (d, dr.2.set i (some (.lst ys))) S'
          | none => .bad) = (optR (f xs [dr.1]) S').then _
                  cases f xs [dr.1] <;> rfl
      | _ => rfl
@[simp] theorem e_mt0 (f : List D → List D → Option (List D × D)) : mt0 i f ρ S = mtD i f [] ρ S ρ[i]? := by
  unfold mt0
  cases ρ[i]? with
  | none => rfl
  | some o => cases o with
    | none => rfl
    | some d => cases d with
      | lst xs => show (match f xs [] with
          | some (ys, d) => Res.ok (d, ρ.set i (some (.lst ys))) S
          | none => .bad) = (optR (f xs []) S).then _
                  cases f xs [] <;> rfl
      | _ => rfl
@[simp] theorem e_dropM : sDropM sm ρ S = (sm ρ S).then fun dr S' => .ok (.nx dr.2) S' := rfl
@[simp] theorem e_setM : sSetM i sm ρ S = (sm ρ S).then fun dr S' => .ok (.nx (dr.2.set i (some dr.1))) S' := rfl
def setIxD (i : Nat) (ρ : DEnv) (d k : D) (S : Sto) : Option (Option D) → Res Out
  | some (some (.lst xs)) => (match k with
    | .int k => (optR (ixN xs.length k) S).then fun j S => .ok (.nx (ρ.set i (some (.lst (xs.set j d))))) S
    | _ => .bad)
  | _ => .bad
@[simp] theorem setIxD_lst (xs : List D) (k : Int) : setIxD i ρ d (.int k) S (some (some (.lst xs))) = (optR (ixN xs.length k) S).then fun j S => .ok (.nx (ρ.set i (some (.lst (xs.set j d))))) S := rfl
@[simp] theorem e_setIx : sSetIx i sk sv ρ S = (sv ρ S).then fun d S1 => (sk ρ S1).then fun k S2 => setIxD i ρ d k S2 ρ[i]? := by
  unfold sSetIx
  congr 1
  funext d S1
  congr 1
  funext k S2
  cases ρ[i]? with
  | none => rfl
  | some o => cases o with
    | none => rfl
    | some x => cases x with
      | lst xs => cases k with
        | int k => show (match ixN xs.length k with
            | some j => Res.ok (Out.nx (ρ.set i (some (.lst (xs.set j d))))) S2
            | none => .bad) = (optR (ixN xs.length k) S2).then _
                   cases ixN xs.length k <;> rfl
        | _ => rfl
      | _ => cases k <;> rfl
def putD' (ρ : DEnv) (d o k : D) (S3 : Sto) : Res Out := match o, keyD k with
  | .mref j, some key => (match S3[j]? with
    | some kds => if kds.length < sizeLine then .ok (.nx ρ) (S3.set j (putKD kds key d)) else .bad
    | none => .bad)
  | _, _ => .bad
@[simp] theorem e_put : sPut so sk sv ρ S = (sv ρ S).then fun d S1 => (so ρ S1).then fun o S2 => (sk ρ S2).then fun k S3 => putD' ρ d o k S3 := rfl
@[simp] theorem e_gN : gN i d ρ = some (ρ.set i (some d)) := rfl
@[simp] theorem e_gT (xs : List D) : gT gs (.tup xs) ρ = gAll gs xs ρ := rfl
@[simp] theorem e_gAll0 : gAll [] [] ρ = some ρ := rfl
@[simp] theorem e_gAll1 (ds : List D) : gAll (sg :: gs) (d :: ds) ρ = (sg d ρ).bind (gAll gs ds) := rfl
@[simp] theorem e_asg : sAsg sg se ρ S = (se ρ S).then fun d S' => (optR (sg d ρ) S').then fun ρ' S' => .ok (.nx ρ') S' := by
  unfold sAsg
  congr 1
  funext d S'
  cases sg d ρ <;> rfl
@[simp] theorem e_itR : sItR sas ρ S = (sArgs sas ρ S).then fun ds S' => optR (dRange ds) S' := rfl
def itE : D → Option (List D)
  | .tup xs => some (enumD xs)
  | .lst xs => some (enumD xs)
  | _ => none
@[simp] theorem itE_tup (xs : List D) : itE (.tup xs) = some (enumD xs) := rfl
@[simp] theorem itE_lst (xs : List D) : itE (.lst xs) = some (enumD xs) := rfl
@[simp] theorem e_itE : sItE se ρ S = (se ρ S).then fun d S' => optR (itE d) S' := by
  unfold sItE
  congr 1
  funext d S'
  cases d <;> rfl
def itZ : D → D → Option (List D)
  | .tup xs, .tup ys => some (zipD xs ys)
  | .lst xs, .lst ys => some (zipD xs ys)
  | _, _ => none
@[simp] theorem itZ_tup (xs ys : List D) : itZ (.tup xs) (.tup ys) = some (zipD xs ys) := rfl
@[simp] theorem itZ_lst (xs ys : List D) : itZ (.lst xs) (.lst ys) = some (zipD xs ys) := rfl
@[simp] theorem e_itZ : sItZ sa sb ρ S = (sa ρ S).then fun x S1 => (sb ρ S1).then fun y S2 => optR (itZ x y) S2 := by
  unfold sItZ
  congr 1
  funext x S1
  congr 1
  funext y S2
  cases x <;> cases y <;> rfl
def itA : D → Option (List D)
  | .lst xs => some xs
  | .tup xs => some xs
  | .scr ns => some (ns.map .int)
  | .str z => some (signsD z)
  | _ => none
@[simp] theorem itA_tup (xs : List D) : itA (.tup xs) = some xs := rfl
@[simp] theorem itA_lst (xs : List D) : itA (.lst xs) = some xs := rfl
@[simp] theorem itA_scr (ns : List Int) : itA (.scr ns) = some (ns.map .int) := rfl
@[simp] theorem itA_str (z : Str) : itA (.str z) = some (signsD z) := rfl
@[simp] theorem e_itA : sItA se ρ S = (se ρ S).then fun d S' => optR (itA d) S' := by
  unfold sItA
  congr 1
  funext d S'
  cases d <;> rfl
@[simp] theorem e_for : sFor si sg ss ρ S = (si ρ S).then fun ds S1 => forL (fBody sg ss) ds ρ S1 := rfl
@[simp] theorem e_fBody : fBody sg ss d ρ S = (optR (sg d ρ) S).then fun ρ' S => ss ρ' S := by
  unfold fBody
  cases sg d ρ <;> rfl
@[simp] theorem e_comp (vs : List Nat) : sComp vs si sg st se ρ S = (si ρ S).then fun ds S1 => (compL (cBody sg st se (wipeE ρ vs)) ds S1).then fun ys S2 => if ys.length ≤ sizeLine then .ok (.lst ys) S2 else .bad := rfl
@[simp] theorem e_cBody : cBody sg st se ρ d S = (optR (sg d ρ) S).then fun ρ2 S => (st ρ2 S).then fun b S1 => if b then (se ρ2 S1).then fun y S2 => .ok (some y) S2 else .ok none S1 := by
  unfold cBody
  cases sg d ρ <;> rfl
@[simp] theorem e_yes : sYes ρ S = .ok true S := rfl
@[simp] theorem e_wipe0 : wipeE ρ [] = ρ := rfl
@[simp] theorem e_wipe1 (vs : List Nat) : wipeE ρ (i :: vs) = (wipeE ρ vs).set i none := rfl
@[simp] theorem e_par2 : sPar2 i j sa sb ρ S = (sa ρ S).then fun d1 S1 => (sb ρ S1).then fun d2 S2 => .ok (.nx ((ρ.set i (some d1)).set j (some d2))) S2 := rfl
@[simp] theorem e_par3 : sPar3 i j l sa sb sc ρ S = (sa ρ S).then fun d1 S1 => (sb ρ S1).then fun d2 S2 => (sc ρ S2).then fun d3 S3 => .ok (.nx (((ρ.set i (some d1)).set j (some d2)).set l (some d3))) S3 := rfl
def outE : Out → Sto → Res D
  | .nx _, S => .ok .non S
  | .rt d, S => .ok d S
  | _, _ => .bad
@[simp] theorem outE_nx : outE (.nx ρ) S = .ok .non S := rfl
@[simp] theorem outE_rt : outE (.rt d) S = .ok d S := rfl
@[simp] theorem e_outD (r : Res Out) : outD r = r.then outE := by
  unfold outD
  congr 1
  funext o S'
  cases o <;> rfl
@[simp] theorem e_runD (n : Nat) (b : SS) (ds : List D) : runD n b ds S = (b (ds.map some ++ List.replicate (n - ds.length) none) S).then outE := e_outD _
def fldD (ρ : DEnv) (i : Nat) (cs : List Str) (f : Str) (d : D) (S : Sto) : Option (Option D) → Res Out
  | some (some (.obj c fs)) => if c ∈ cs ∧ fs.length < 1000 then .ok (.nx (ρ.set i (some (.obj c (putD f d fs))))) S else .bad
  | _ => .bad
@[simp] theorem fldD_obj (cs : List Str) (f c : Str) (fs : List (Str × D)) : fldD ρ i cs f d S (some (some (.obj c fs))) = if c ∈ cs ∧ fs.length < 1000 then .ok (.nx (ρ.set i (some (.obj c (putD f d fs))))) S else .bad := rfl
@[simp] theorem e_fldI (cs : List Str) (f : Str) : sFldI i cs f se ρ S = (se ρ S).then fun d S' => fldD ρ i cs f d S' ρ[i]? := by
  unfold sFldI
  congr 1
def outI (c : Str) : Out → Sto → Res D
  | .nx ρ, S' => (match ρ[0]? with
    | some (some (D.obj c fs)) => .ok (.obj c fs) S'
    | _ => .bad)
  | _, _ => .bad
@[simp] theorem outI_nx (c c' : Str) (fs : List (Str × D)) : outI c (.nx (some (.obj c' fs) :: ρ)) S = .ok (.obj c' fs) S := rfl
@[simp] theorem e_runI (n : Nat) (c : Str) (b : SS) (ds : List D) : runI n c b ds S = (b (some (.obj c []) :: (ds.map some ++ List.replicate (n - 1 - ds.length) none)) S).then (outI c) := by
  unfold runI
  congr 1
  funext o S'
  cases o <;> rfl
@[simp] theorem e_items0 : sItems [] ρ S = .ok [] S := rfl
@[simp] theorem e_items1 (x : Str) (r : List (Str × SE)) : sItems ((x, sa) :: r) ρ S = (sa ρ S).then fun d S1 => (sItems r ρ S1).then fun ds S2 => .ok ((Sum.inr x, d) :: ds) S2 := rfl
@[simp] theorem e_dict (items : List (Str × SE)) : sDict items ρ S = (sItems items ρ S).then fun kds S' => if kds.length ≤ 15 then .ok (.mref S'.length) (S' ++ [mergeKD [] kds]) else .bad := rfl
def lendD : Res D → Sto → Res D
  | .ok d [], S1 => if flatD d then .ok d S1 else .bad
  | _, _ => .bad
@[simp] theorem lendD_ok : lendD (.ok d []) S = if flatD d then .ok d S else .bad := rfl
@[simp] theorem e_callL : sCallL m sas ρ S = (sArgs sas ρ S).then fun ds S1 => if noMs ds then lendD (m ds []) S1 else .bad := by
  unfold sCallL
  congr 1
  funext ds S1
  congr 1
  cases m ds [] with
  | bad => rfl
  | ok d s => cases s <;> rfl
end
/-! ### operations at data -/
section
variable (i j : Int) (a b : D) (xs ys : List D) (x y : Str) (p q : Bool)
@[simp] theorem d_add_int : dAdd (.int i) (.int j) = some (.int (i + j)) := rfl
@[simp] theorem d_sub_int : dSub (.int i) (.int j) = some (.int (i - j)) := rfl
@[simp] theorem d_neg_int : dNeg (.int i) = some (.int (-i)) := rfl
@[simp] theorem d_i2 (f : Int → Int → Bool) : dI2 f (.int i) (.int j) = some (.bl (f i j)) := rfl
@[simp] theorem d_tr_bl : dTruth (.bl p) = some p := rfl
@[simp] theorem d_tr_int : dTruth (.int i) = some (i != 0) := rfl
@[simp] theorem d_tr_non : dTruth .non = some false := rfl
@[simp] theorem d_tr_tup : dTruth (.tup xs) = some (!xs.isEmpty) := rfl
@[simp] theorem d_tr_lst : dTruth (.lst xs) = some (!xs.isEmpty) := rfl
@[simp] theorem d_len_tup : dLen [.tup xs] = some (.int xs.length) := rfl
@[simp] theorem d_len_lst : dLen [.lst xs] = some (.int xs.length) := rfl
@[simp] theorem d_int_int : dIntOf [.int i] = some (.int i) := rfl
@[simp] theorem d_tup_tup : dTupOf [.tup xs] = some (.tup xs) := rfl
@[simp] theorem d_tup_lst : dTupOf [.lst xs] = some (.tup xs) := rfl
@[simp] theorem d_lst_tup : dLstOf [.tup xs] = some (.lst xs) := rfl
@[simp] theorem d_lst_lst : dLstOf [.lst xs] = some (.lst xs) := rfl
@[simp] theorem d_lst_scr (ns : List Int) : dLstOf [.scr ns] = some (.lst (ns.map .int)) := rfl
@[simp] theorem d_ty_non : tyD .non = some "NoneType" := rfl
@[simp] theorem d_ty_bl : tyD (.bl p) = some "bool" := rfl
@[simp] theorem d_ty_int : tyD (.int i) = some "int" := rfl
@[simp] theorem d_ty_str : tyD (.str x) = some "str" := rfl
@[simp] theorem d_ty_tup : tyD (.tup xs) = some "tuple" := rfl
@[simp] theorem d_ty_lst : tyD (.lst xs) = some "list" := rfl
@[simp] theorem d_isN_non (n : Bool) : dIsN n .non .non = some (.bl (!n)) := rfl
@[simp] theorem d_isN_bl (n : Bool) : dIsN n (.bl p) .non = some (.bl n) := rfl
@[simp] theorem d_isN_int (n : Bool) : dIsN n (.int i) .non = some (.bl n) := rfl
@[simp] theorem d_isN_str (n : Bool) : dIsN n (.str x) .non = some (.bl n) := rfl
@[simp] theorem d_isN_tup (n : Bool) : dIsN n (.tup xs) .non = some (.bl n) := rfl
@[simp] theorem d_isN_lst (n : Bool) : dIsN n (.lst xs) .non = some (.bl n) := rfl
@[simp] theorem d_isB_bl (n : Bool) : dIsBX n (.bl p) (.bl q) = some (.bl (if n then !decide (p = q) else decide (p = q))) := rfl
@[simp] theorem d_isB_int (n : Bool) : dIsBX n (.int i) (.bl q) = some (.bl n) := rfl
@[simp] theorem d_isB_str (n : Bool) : dIsBX n (.str x) (.bl q) = some (.bl n) := rfl
@[simp] theorem d_isB_tup (n : Bool) : dIsBX n (.tup xs) (.bl q) = some (.bl n) := rfl
@[simp] theorem d_isB_lst (n : Bool) : dIsBX n (.lst xs) (.bl q) = some (.bl n) := rfl
@[simp] theorem d_isB_non (n : Bool) : dIsBX n .non (.bl q) = some (.bl n) := rfl
@[simp] theorem d_ix0 : dIx (.tup (a :: xs)) (.int 0) = some a := atI_nat (j := 0) rfl
@[simp] theorem d_ixl0 : dIx (.lst (a :: xs)) (.int 0) = some a := atI_nat (j := 0) rfl
theorem atI_of {α : Type} {xs : List α} {n : Nat} {v : α} (h : xs[n]? = some v) : atI xs (n : Int) = some v := atI_nat h
theorem d_ixt {xs : List D} {n : Nat} {v : D} (h : xs[n]? = some v) : dIx (.tup xs) (.int (n : Int)) = some v := atI_nat h
theorem d_ixl {xs : List D} {n : Nat} {v : D} (h : xs[n]? = some v) : dIx (.lst xs) (.int (n : Int)) = some v := atI_nat h
@[simp] theorem d_ix1 (c : D) : dIx (.tup (a :: c :: xs)) (.int 1) = some c := d_ixt (n := 1) rfl
@[simp] theorem d_ix2 (c e : D) : dIx (.tup (a :: c :: e :: xs)) (.int 2) = some e := d_ixt (n := 2) rfl
@[simp] theorem d_ix3 (c e f : D) : dIx (.tup (a :: c :: e :: f :: xs)) (.int 3) = some f := d_ixt (n := 3) rfl
@[simp] theorem d_ixl1 (c : D) : dIx (.lst (a :: c :: xs)) (.int 1) = some c := d_ixl (n := 1) rfl
@[simp] theorem d_ixl2 (c e : D) : dIx (.lst (a :: c :: e :: xs)) (.int 2) = some e := d_ixl (n := 2) rfl
@[simp] theorem d_ixlast : dIx (.lst (xs ++ [a])) (.int (-1)) = some a := atI_last xs a
theorem szl : sizeLine = 16777216 := by decide +kernel
end
end Ev
namespace Ev
open PySem PySem.Spec PyProof.Rows L2
/-! ### loops: what holds behind them -/
@[simp] theorem then_assoc {α β γ : Type} (r : Res α) (k : α → Sto → Res β) (k2 : β → Sto → Res γ) : (r.then k).then k2 = r.then fun a S => (k a S).then k2 := by cases r <;> rfl
def stepP (P : DEnv → Sto → Prop) (Q : Out → Sto → Prop) : Out → Sto → Prop
  | .nx ρ, S => P ρ S
  | .ct ρ, S => P ρ S
  | .bk ρ, S => Q (.nx ρ) S
  | .rt d, S => Q (.rt d) S
theorem post_intro {α : Type} {r : Res α} {a : α} {S : Sto} {P : α → Sto → Prop} (e : r = .ok a S) (h : P a S) : r.post P := by rw [e]; exact h
theorem post_ok {α : Type} {r : Res α} {a : α} {S : Sto} (h : r.post fun x S' => x = a ∧ S' = S) : r = .ok a S := by
  obtain ⟨x, S', e, rfl, rfl⟩ := Res.post_ex h
  exact e
theorem then_post {α β : Type} {r : Res α} {k : α → Sto → Res β} {P : α → Sto → Prop} {Q : β → Sto → Prop} (h : r.post P) (h2 : ∀ a S, P a S → (k a S).post Q) : (r.then k).post Q := by
  obtain ⟨a, S, e, p⟩ := Res.post_ex h
  rw [e]
  exact h2 a S p
theorem forL_run {body : D → DEnv → M Out} {P : Nat → DEnv → Sto → Prop} {Q : Out → Sto → Prop} : ∀ (ds : List D) (i : Nat) (ρ : DEnv) (S : Sto),
    (∀ j d, ds[j]? = some d → ∀ ρ S, P (i + j) ρ S → (body d ρ S).post (stepP (P (i + j + 1)) Q)) → (∀ ρ S, P (i + ds.length) ρ S → Q (.nx ρ) S) → P i ρ S → (forL body ds ρ S).post Q
  | [], i, ρ, S, _, h2, h => h2 ρ S h
  | d :: ds, i, ρ, S, h1, h2, h => by
    refine Res.post_then.mpr (Res.post_mono (h1 0 d rfl ρ S h) fun o S' q => ?_)
    have next : ∀ ρ', P (i + 0 + 1) ρ' S' → (forL body ds ρ' S').post Q := fun ρ' q => by
      refine forL_run ds (i + 1) ρ' S' (fun j d hj ρ S hp => ?_) (fun ρ S hp => h2 ρ S ?_) q
      · have := h1 (j + 1) d (by simpa using hj) ρ S (by rw [show i + (j + 1) = i + 1 + j by omega]; exact hp)
        rw [show i + (j + 1) + 1 = i + 1 + j + 1 by omega] at this
        exact this
      · rw [List.length_cons, show i + (ds.length + 1) = i + 1 + ds.length by omega]
        exact hp
    cases o with
    | nx ρ' => exact next ρ' q
    | ct ρ' => exact next ρ' q
    | bk ρ' => exact q
    | rt d => exact q
/-- over a mapped list -/
theorem forL_map {α : Type} {enc : α → D} {body : D → DEnv → M Out} {P : Nat → DEnv → Sto → Prop} {Q : Out → Sto → Prop} (xs : List α) {ρ : DEnv} {S : Sto}
    (h0 : P 0 ρ S) (h1 : ∀ j x, xs[j]? = some x → ∀ ρ S, P j ρ S → (body (enc x) ρ S).post (stepP (P (j + 1)) Q)) (h2 : ∀ ρ S, P xs.length ρ S → Q (.nx ρ) S) : (forL body (xs.map enc) ρ S).post Q := by
  refine forL_run (P := P) (xs.map enc) 0 ρ S (fun j d hj ρ S hp => ?_) (fun ρ S hp => h2 ρ S (by simpa using hp)) h0
  rw [List.getElem?_map] at hj
  cases q : xs[j]? with
  | none => rw [q] at hj; cases hj
  | some x =>
    rw [q] at hj
    cases hj
    rw [Nat.zero_add] at hp ⊢
    exact h1 j x q ρ S hp
/-- over a mapped list: the state is a function of what has been seen -/
theorem forL_fold {α β : Type} {enc : α → D} {body : D → DEnv → M Out} {R : β → DEnv → Sto → Prop} {Q : Out → Sto → Prop} (f : β → α → β) : ∀ (xs : List α) (b : β) {ρ : DEnv} {S : Sto},
    R b ρ S → (∀ x ∈ xs, ∀ b ρ S, R b ρ S → (body (enc x) ρ S).post (stepP (R (f b x)) Q)) → (∀ ρ S, R (xs.foldl f b) ρ S → Q (.nx ρ) S) → (forL body (xs.map enc) ρ S).post Q
  | [], b, ρ, S, h0, _, h2 => h2 ρ S h0
  | x :: xs, b, ρ, S, h0, h1, h2 => by
    refine Res.post_then.mpr (Res.post_mono (h1 x List.mem_cons_self b ρ S h0) fun o S' q => ?_)
    have next : ∀ ρ', R (f b x) ρ' S' → (forL body (xs.map enc) ρ' S').post Q := fun ρ' q => forL_fold f xs (f b x) q (fun y hy => h1 y (List.mem_cons_of_mem _ hy)) h2
    cases o with
    | nx ρ' => exact next ρ' q
    | ct ρ' => exact next ρ' q
    | bk ρ' => exact q
    | rt d => exact q
theorem whL_run {c : SB} {b : SS} {P : Nat → DEnv → Sto → Prop} {Q : Out → Sto → Prop}
    (h : ∀ k ρ S, P k ρ S → (c ρ S).post fun t S1 => if t then ∃ k', k = k' + 1 ∧ (b ρ S1).post (stepP (P k') Q) else Q (.nx ρ) S1) : ∀ (n k : Nat) (ρ : DEnv) (S : Sto), k < n → P k ρ S → (whL n c b ρ S).post Q
  | 0, k, ρ, S, hk, _ => absurd hk (Nat.not_lt_zero _)
  | n + 1, k, ρ, S, hk, hp => by
    refine Res.post_then.mpr (Res.post_mono (h k ρ S hp) fun t S1 q => ?_)
    cases t with
    | false => exact q
    | true =>
      obtain ⟨k', rfl, q⟩ := q
      refine Res.post_then.mpr (Res.post_mono q fun o S2 q => ?_)
      cases o with
      | nx ρ' => exact whL_run h n k' ρ' S2 (by omega) q
      | ct ρ' => exact whL_run h n k' ρ' S2 (by omega) q
      | bk ρ' => exact q
      | rt d => exact q
/-! ### comprehensions -/
theorem compL_map {α : Type} {f : D → M (Option D)} {enc : α → D} {g : α → D} {S : Sto} : ∀ (xs : List α), (∀ x ∈ xs, f (enc x) S = .ok (some (g x)) S) → compL f (xs.map enc) S = .ok (xs.map g) S
  | [], _ => rfl
  | x :: xs, h => by
    show (f (enc x) S).then _ = _
    rw [h x List.mem_cons_self]
    show (compL f (xs.map enc) S).then _ = _
    rw [compL_map xs fun y hy => h y (List.mem_cons_of_mem _ hy)]
    rfl
theorem compL_filter {α : Type} {f : D → M (Option D)} {enc : α → D} {g : α → D} {p : α → Bool} {S : Sto} : ∀ (xs : List α), (∀ x ∈ xs, f (enc x) S = .ok (if p x then some (g x) else none) S) → compL f (xs.map enc) S = .ok ((xs.filter p).map g) S
  | [], _ => rfl
  | x :: xs, h => by
    show (f (enc x) S).then _ = _
    rw [h x List.mem_cons_self]
    show (compL f (xs.map enc) S).then _ = _
    rw [compL_filter xs fun y hy => h y (List.mem_cons_of_mem _ hy)]
    cases hp : p x <;> simp [hp]
/-- with a state that changes: what each value is -/
inductive Each {α β : Type} (R : α → β → Prop) : List α → List β → Prop
  | nil : Each R [] []
  | cons {a : α} {b : β} {as : List α} {bs : List β} : R a b → Each R as bs → Each R (a :: as) (b :: bs)
theorem Each.length {α β : Type} {R : α → β → Prop} {as : List α} {bs : List β} (h : Each R as bs) : as.length = bs.length := by
  induction h with
  | nil => rfl
  | cons _ _ ih => simp [ih]
theorem Each.get {α β : Type} {R : α → β → Prop} {as : List α} {bs : List β} (h : Each R as bs) : ∀ (i : Nat) (a : α), as[i]? = some a → ∃ b, bs[i]? = some b ∧ R a b := by
  induction h with
  | nil => intro i a e; simp at e
  | cons r _ ih =>
    intro i a e
    cases i with
    | zero => simp at e; subst e; exact ⟨_, rfl, r⟩
    | succ i => simpa using ih i a (by simpa using e)
theorem Each.getR {α β : Type} {R : α → β → Prop} {as : List α} {bs : List β} (h : Each R as bs) : ∀ (i : Nat) (b : β), bs[i]? = some b → ∃ a, as[i]? = some a ∧ R a b := by
  induction h with
  | nil => intro i a e; simp at e
  | cons r _ ih =>
    intro i a e
    cases i with
    | zero => simp at e; subst e; exact ⟨_, rfl, r⟩
    | succ i => simpa using ih i a (by simpa using e)
theorem Each.map {α β γ : Type} {R : α → β → Prop} {Q : γ → β → Prop} {g : α → γ} {as : List α} {bs : List β} (h : Each R as bs) (f : ∀ a b, R a b → Q (g a) b) : Each Q (as.map g) bs := by
  induction h with
  | nil => exact .nil
  | cons r _ ih => exact .cons (f _ _ r) ih
/-- each b is made of some c -/
theorem Each.pick {α β γ : Type} {R : α → β → Prop} {enc : γ → β} {W : α → γ → Prop} {as : List α} {bs : List β} (h : Each R as bs) (f : ∀ a b, R a b → ∃ c, b = enc c ∧ W a c) : ∃ cs, bs = cs.map enc ∧ Each W as cs := by
  induction h with
  | nil => exact ⟨[], rfl, .nil⟩
  | cons r _ ih =>
    obtain ⟨c, e, w⟩ := f _ _ r
    obtain ⟨cs, e2, w2⟩ := ih
    exact ⟨c :: cs, by rw [e, e2]; rfl, .cons w w2⟩
theorem Each.mem {α β : Type} {R : α → β → Prop} {as : List α} {bs : List β} (h : Each R as bs) : ∀ b ∈ bs, ∃ a ∈ as, R a b := by
  induction h with
  | nil => intro b hb; cases hb
  | cons r _ ih =>
    intro b hb
    rcases List.mem_cons.mp hb with rfl | hb
    · exact ⟨_, List.mem_cons_self, r⟩
    · obtain ⟨a, ha, hr⟩ := ih b hb
      exact ⟨a, List.mem_cons_of_mem _ ha, hr⟩
theorem compL_post {f : D → M (Option D)} {I : Sto → Prop} {R : D → D → Prop} : ∀ (ds : List D) (S : Sto), I S → (∀ d ∈ ds, ∀ S, I S → (f d S).post fun o S' => I S' ∧ ∃ y, o = some y ∧ R d y) → (compL f ds S).post fun ys S' => I S' ∧ Each R ds ys
  | [], S, h0, _ => ⟨h0, .nil⟩
  | d :: ds, S, h0, h => by
    refine then_post (h d List.mem_cons_self S h0) fun o S1 ⟨i1, y, e, r⟩ => ?_
    refine then_post (compL_post ds S1 i1 fun d hd => h d (List.mem_cons_of_mem _ hd)) fun ys S2 ⟨i2, es⟩ => ?_
    subst e
    exact ⟨i2, .cons r es⟩
theorem rangeD_map (lo : Int) (n : Nat) : rangeD lo n = (List.range n).map fun (k : Nat) => D.int (lo + (k : Int)) := rfl
theorem range0 (n : Nat) : rangeD 0 n = (List.range n).map fun (k : Nat) => D.int (k : Int) := by
  unfold rangeD
  congr 1
  funext k
  rw [Int.zero_add]
theorem rg1 {j : Nat} (h : j < 4611686018427387904) : dRange [.int (j : Int)] = some ((List.range j).map fun (k : Nat) => D.int (k : Int)) := by
  show (if rgOk (j : Int) then some (rangeD 0 (j : Int).toNat) else none) = _
  have : rgOk (j : Int) = true := rgOk_of (by omega)
  rw [if_pos this, range0, Int.toNat_natCast]
theorem rg2 {i j : Int} (h1 : -4611686018427387904 < i) (h2 : i < 4611686018427387904) (h3 : -4611686018427387904 < j) (h4 : j < 4611686018427387904) : dRange [.int i, .int j] = some ((List.range (j - i).toNat).map fun (k : Nat) => D.int (i + (k : Int))) := by
  show (if rgOk i && rgOk j then some (rangeD i (j - i).toNat) else none) = _
  have h5 : rgOk i = true := rgOk_of (by omega)
  have h6 : rgOk j = true := rgOk_of (by omega)
  rw [h5, h6]
  rfl
@[simp] theorem d_add_tup (xs ys : List D) (h : xs.length + ys.length ≤ sizeLine) : dAdd (.tup xs) (.tup ys) = some (.tup (xs ++ ys)) := by
  show (if _ then _ else _) = _
  rw [if_pos h]
end Ev
namespace Ev
open PySem PySem.Spec PyProof.Rows L2
/-! ### encodings of plain values: equality, membership, order -/
structure EncOk {α : Type} [DecidableEq α] (P : α → Prop) (e : α → D) (p : α → PyData) (h : Nat) : Prop where
  py : ∀ a, (e a).py = some (p a)
  lay : ∀ a, P a → (p a).canLay0 = true
  dep : ∀ a, (p a).depth ≤ h
  eqv : ∀ a b, PyData.eqv (p a) (p b) = decide (a = b)
theorem pyAll_map {α : Type} {e : α → D} {p : α → PyData} (h : ∀ a, (e a).py = some (p a)) : ∀ xs : List α, pyAll (xs.map e) = some (xs.map p)
  | [] => rfl
  | x :: xs => by
    show (match (e x).py, pyAll (xs.map e) with
      | some x, some xs => some (x :: xs)
      | _, _ => none) = _
    rw [h, pyAll_map h xs]
    rfl
theorem layAll_map {α : Type} {P : α → Prop} {p : α → PyData} (h : ∀ a, P a → (p a).canLay0 = true) : ∀ xs : List α, (∀ x ∈ xs, P x) → PyData.canLayAll0 (xs.map p) = true
  | [], _ => by simp [PyData.canLayAll0]
  | x :: xs, q => by
    show PyData.canLayAll0 (p x :: xs.map p) = true
    rw [PyData.canLayAll0, h x (q x List.mem_cons_self), layAll_map h xs fun y hy => q y (List.mem_cons_of_mem _ hy)]
    rfl
theorem depAll_map {α : Type} {p : α → PyData} {n : Nat} (h : ∀ a, (p a).depth ≤ n) : ∀ xs : List α, PyData.depthAll (xs.map p) ≤ n
  | [] => by simp [PyData.depthAll]
  | x :: xs => by
    show PyData.depthAll (p x :: xs.map p) ≤ n
    rw [PyData.depthAll]
    have h1 := h x
    have h2 := depAll_map h xs
    omega
theorem eqvAll_map {α : Type} [DecidableEq α] {p : α → PyData} (h : ∀ a b, PyData.eqv (p a) (p b) = decide (a = b)) : ∀ xs ys : List α, PyData.eqvAll (xs.map p) (ys.map p) = decide (xs = ys)
  | [], [] => by simp [PyData.eqvAll]
  | [], y :: ys => by simp [PyData.eqvAll]
  | x :: xs, [] => by simp [PyData.eqvAll]
  | x :: xs, y :: ys => by
    show PyData.eqvAll (p x :: xs.map p) (p y :: ys.map p) = _
    rw [PyData.eqvAll, h, eqvAll_map h xs ys, ← Bool.decide_and]
    simp
section
variable {α : Type} [DecidableEq α] {P : α → Prop} {e : α → D} {p : α → PyData} {n : Nat}
theorem EncOk.lst (o : EncOk P e p n) : EncOk (α := List α) (fun xs => ∀ x ∈ xs, P x) (fun xs => .lst (xs.map e)) (fun xs => .list (xs.map p)) (n + 1) where
  py := fun xs => by
    show (pyAll (xs.map e)).map PyData.list = _
    rw [pyAll_map o.py]
    rfl
  lay := fun xs h => by
    show PyData.canLay0 (.list (xs.map p)) = true
    rw [PyData.canLay0]
    exact layAll_map o.lay xs h
  dep := fun xs => by
    show PyData.depth (.list (xs.map p)) ≤ _
    rw [PyData.depth]
    exact Nat.succ_le_succ (depAll_map o.dep xs)
  eqv := fun xs ys => by
    show PyData.eqv (.list (xs.map p)) (.list (ys.map p)) = _
    rw [PyData.eqv]
    exact eqvAll_map o.eqv xs ys
theorem EncOk.tup (o : EncOk P e p n) : EncOk (α := List α) (fun xs => ∀ x ∈ xs, P x) (fun xs => .tup (xs.map e)) (fun xs => .tuple (xs.map p)) (n + 1) where
  py := fun xs => by
    show (pyAll (xs.map e)).map PyData.tuple = _
    rw [pyAll_map o.py]
    rfl
  lay := fun xs h => by
    show PyData.canLay0 (.tuple (xs.map p)) = true
    rw [PyData.canLay0]
    exact layAll_map o.lay xs h
  dep := fun xs => by
    show PyData.depth (.tuple (xs.map p)) ≤ _
    rw [PyData.depth]
    exact Nat.succ_le_succ (depAll_map o.dep xs)
  eqv := fun xs ys => by
    show PyData.eqv (.tuple (xs.map p)) (.tuple (ys.map p)) = _
    rw [PyData.eqv]
    exact eqvAll_map o.eqv xs ys
theorem EncOk.shaped (o : EncOk P e p n) {a : α} (ha : P a) (hn : n ≤ 64) : SeqAt.shaped (p a) = true := by
  unfold SeqAt.shaped
  rw [o.lay a ha, Bool.true_and]
  exact decide_eq_true (Nat.le_trans (o.dep a) hn)
theorem EncOk.eq (o : EncOk P e p n) {a b : α} (ha : P a) (hb : P b) (neg : Bool) (hn : n ≤ 64 := by decide) : dEqv neg (e a) (e b) = some (.bl (if neg then !decide (a = b) else decide (a = b))) := by
  unfold dEqv
  rw [o.py, o.py]
  show (if (SeqAt.shaped (p a) && SeqAt.shaped (p b)) = true then _ else _) = _
  rw [o.shaped ha hn, o.shaped hb hn, o.eqv]
  rfl
theorem any_eqv (o : EncOk P e p n) (a : α) : ∀ xs : List α, ((xs.map p).any fun z => PyData.eqv z (p a)) = decide (a ∈ xs)
  | [] => by simp
  | x :: xs => by
    rw [List.map_cons, List.any_cons, any_eqv o a xs, o.eqv, ← Bool.decide_or]
    congr 1
    rw [List.mem_cons, eq_comm (a := x)]
theorem dIn_lst {n : Bool} {a : D} {ys : List D} (h : ∀ x y, a = .str x → D.lst ys ≠ .str y) : dIn n a (.lst ys) = (match a.py, pyAll ys with
    | some x, some zs => if (SeqAt.shaped x && SeqAt.shaped (.list zs)) = true then some (.bl (if n then !zs.any fun z => PyData.eqv z x else zs.any fun z => PyData.eqv z x)) else none
    | _, _ => none) := by
  cases a <;> rfl
theorem EncOk.mem (o : EncOk P e p n) {a : α} {xs : List α} (ha : P a) (hx : ∀ x ∈ xs, P x) (neg : Bool) (hn : n + 1 ≤ 64 := by decide) : dIn neg (e a) (.lst (xs.map e)) = some (.bl (if neg then !decide (a ∈ xs) else decide (a ∈ xs))) := by
  rw [dIn_lst (fun _ _ _ => fun z => nomatch z), o.py, pyAll_map o.py]
  show (if (SeqAt.shaped (p a) && SeqAt.shaped (.list (xs.map p))) = true then _ else _) = _
  rw [o.shaped ha (by omega), o.lst.shaped (a := xs) hx hn, any_eqv o]
  rfl
end
theorem encInt : EncOk (α := Int) (fun _ => True) D.int PyData.int 0 := ⟨fun _ => rfl, fun _ _ => by simp [PyData.canLay0], fun _ => by simp [PyData.depth], fun a b => by
  rw [PyData.eqv]
  by_cases h : a = b <;> simp [h]⟩
theorem encNat : EncOk (α := Nat) (fun _ => True) (fun n => D.int (n : Int)) (fun n => PyData.int (n : Int)) 0 := ⟨fun _ => rfl, fun _ _ => by simp [PyData.canLay0], fun _ => by simp [PyData.depth], fun a b => by
  rw [PyData.eqv]
  by_cases h : a = b
  · simp [h]
  · have : (a : Int) ≠ b := by omega
    simp [h, this]⟩
theorem encStr : EncOk (α := Str) (fun x => PyData.strOk x = true) D.str PyData.str 0 := ⟨fun _ => rfl, fun _ h => by simpa [PyData.canLay0] using h, fun _ => by simp [PyData.depth], fun a b => by
  rw [PyData.eqv]
  by_cases h : a = b <;> simp [h]⟩
@[simp] theorem d_eq_int (i j : Int) (neg : Bool) : dEqv neg (.int i) (.int j) = some (.bl (if neg then !decide (i = j) else decide (i = j))) := encInt.eq trivial trivial neg
@[simp] theorem d_eq_bl (i j : Bool) (neg : Bool) : dEqv neg (.bl i) (.bl j) = some (.bl (if neg then !decide (i = j) else decide (i = j))) := by
  cases i <;> cases j <;> cases neg <;> rfl
@[simp] theorem sz_1 : (1 : Nat) ≤ sizeLine := by rw [szl]; decide
@[simp] theorem sw_1 : (1 : Nat) < sizeLine := by rw [szl]; decide
@[simp] theorem sz_2 : (2 : Nat) ≤ sizeLine := by rw [szl]; decide
@[simp] theorem sw_2 : (2 : Nat) < sizeLine := by rw [szl]; decide
@[simp] theorem sz_3 : (3 : Nat) ≤ sizeLine := by rw [szl]; decide
@[simp] theorem sw_3 : (3 : Nat) < sizeLine := by rw [szl]; decide
@[simp] theorem sz_4 : (4 : Nat) ≤ sizeLine := by rw [szl]; decide
@[simp] theorem sw_4 : (4 : Nat) < sizeLine := by rw [szl]; decide
@[simp] theorem sz_5 : (5 : Nat) ≤ sizeLine := by rw [szl]; decide
@[simp] theorem sw_5 : (5 : Nat) < sizeLine := by rw [szl]; decide
@[simp] theorem sz_6 : (6 : Nat) ≤ sizeLine := by rw [szl]; decide
@[simp] theorem sw_6 : (6 : Nat) < sizeLine := by rw [szl]; decide
@[simp] theorem sz_7 : (7 : Nat) ≤ sizeLine := by rw [szl]; decide
@[simp] theorem sw_7 : (7 : Nat) < sizeLine := by rw [szl]; decide
@[simp] theorem sz_8 : (8 : Nat) ≤ sizeLine := by rw [szl]; decide
@[simp] theorem sw_8 : (8 : Nat) < sizeLine := by rw [szl]; decide
@[simp] theorem sz_9 : (9 : Nat) ≤ sizeLine := by rw [szl]; decide
@[simp] theorem sw_9 : (9 : Nat) < sizeLine := by rw [szl]; decide
@[simp] theorem sz_10 : (10 : Nat) ≤ sizeLine := by rw [szl]; decide
@[simp] theorem sw_10 : (10 : Nat) < sizeLine := by rw [szl]; decide
@[simp] theorem sz_11 : (11 : Nat) ≤ sizeLine := by rw [szl]; decide
@[simp] theorem sw_11 : (11 : Nat) < sizeLine := by rw [szl]; decide
@[simp] theorem sz_12 : (12 : Nat) ≤ sizeLine := by rw [szl]; decide
@[simp] theorem sw_12 : (12 : Nat) < sizeLine := by rw [szl]; decide
@[simp] theorem sz_13 : (13 : Nat) ≤ sizeLine := by rw [szl]; decide
@[simp] theorem sw_13 : (13 : Nat) < sizeLine := by rw [szl]; decide
@[simp] theorem sz_14 : (14 : Nat) ≤ sizeLine := by rw [szl]; decide
@[simp] theorem sw_14 : (14 : Nat) < sizeLine := by rw [szl]; decide
@[simp] theorem sz_15 : (15 : Nat) ≤ sizeLine := by rw [szl]; decide
@[simp] theorem sw_15 : (15 : Nat) < sizeLine := by rw [szl]; decide
theorem szk {n : Nat} (h : n ≤ 1000) : n ≤ sizeLine := by rw [szl]; omega
/-- rows of counts -/
abbrev natT (r : List Nat) : D := .tup (r.map fun (n : Nat) => .int (n : Int))
abbrev natP (r : List Nat) : PyData := .tuple (r.map fun (n : Nat) => .int (n : Int))
theorem encRow : EncOk (α := List Nat) (fun _ => True) natT natP 1 := ⟨encNat.tup.py, fun a _ => encNat.tup.lay a (fun _ _ => trivial), encNat.tup.dep, encNat.tup.eqv⟩
end Ev
namespace Ev
open PySem PySem.Spec PyProof.Rows L2
/-! ### a Hook that tells more -/
def obsMG (n : Nat) (fa : List He.Fa) (fn : List He.DefD) (more : PySem.W.Frag → Bool) (g : Addr → Option Obj) : Bool × He.AlD := (more (He.frG g (He.asD g n)), He.obsDG n fa fn g)
def hookM (n : Nat) (fa : List He.Fa) (fn : List He.DefD) (more : PySem.W.Frag → Bool) : PySem.W.Hook where
  α := Bool × He.AlD
  obs := fun s => obsMG n fa fn more s.heap.get?
  val := fun _ => (true, He.valD fn)
  says := fun _ h => ∃ K : PySem.W.Frag, K.In h ∧ He.SaysD fa fn K ∧ more K = true
  of := fun _ _ e => ⟨_, He.frG_in, congrArg Prod.snd e, congrArg Prod.fst e⟩
  keeps := fun _ _ _ ⟨K, hK, c⟩ k => ⟨K, PySem.W.Frag.In.keeps hK k, c⟩
theorem obsMG_eq {n : Nat} {fa : List He.Fa} {fn : List He.DefD} {more : PySem.W.Frag → Bool} {g : Addr → Option Obj} {s : Shared} (h : ∀ a, g a = s.heap.get? a) : obsMG n fa fn more g = (hookM n fa fn more).obs s := by
  have e : g = s.heap.get? := funext h
  rw [e] <;> rfl
/-! ### isinstance of own classes -/
def clsFacts (K : PySem.W.Frag) (cs : List Str) : Bool :=
  (decide (PySem.W.specialIn K (.builtin "object.__class__") "__get__" = some (some (.builtin "getset_descriptor.__get__"))) && decide (PySem.W.takesIn K (.builtin "object.__class__") = some true)) &&
  cs.all fun c => (decide (PySem.W.findIn K (.ref (He.ga K c)) "__class__" = some (some (.builtin "object.__class__"))) && decide (PySem.W.mroIn K (He.ga K c) (.type "object") = some true)) &&
    ((cs.all fun d => decide (PySem.W.kitOne K (.ref (He.ga K c)) (.ref (He.ga K d)) = some (decide (c = d)))) && tyNames.all fun t => decide (PySem.W.kitOne K (.type t) (.ref (He.ga K c)) = some false))
structure ClsOk (K : PySem.W.Frag) (mg : Str → Option Value) (cs : List Str) : Prop where
  glo : ∀ c ∈ cs, mg c = some (.ref (He.ga K c))
  cls : ∀ c ∈ cs, Cls K (He.ga K c)
  facts : clsFacts K cs = true
def isOwn (cs : List Str) (cls : Str) : D → Option Bool
  | .obj c _ => if c ∈ cs then some (decide (c = cls)) else none
  | d => (tyD d).map fun _ => false
def sIsC (cs : List Str) (cls : Str) (sa : SE) : SE := fun ρ S => (sa ρ S).then fun d S' => (optR (isOwn cs cls d) S').then fun b S' => .ok (.bl b) S'
section
variable {X : Cx} {own : List Nat} {a : Expr} {sa : SE} {pos p p2 : Pos} {cs : List Str} {cls : Str}
theorem sim_isC (C : ClsOk X.K X.mg cs) (hc : cls ∈ cs) (hg : Gl X "isinstance") (hm : X.mg "isinstance" = none) (hg2 : Gl X cls) (ha : SimE X own a sa) (hdb : (cls == ("__debug__" : Str)) = false := by decide)
    (he : starEach [a, .Name cls p2] X.env = (false, eval a X.env) :: starEach [.Name cls p2] X.env := by rfl) (hpl : (backTo pos (starEach [.Name cls p2] X.env)).any (·.1) = false := by rfl) :
    SimE X own (.Call (.Name "isinstance" p) [a, .Name cls p2] [] pos) (sIsC cs cls sa) :=
  pe_weak (pe_callB call_isi hg hm (by decide +kernel) (pa_cons ha (pa_cons (pe_glob (v := .ref (He.ga X.K cls)) hg2 (C.glo cls hc) rfl hdb) pa_nil) he) (by decide) (by decide) he hpl) fun σ H Q ⟨g0, H0, ρ, g, S, E, q⟩ => by
    obtain ⟨d, S', e1, k⟩ := Res.post_ex q
    obtain ⟨x, S1, e2, e1⟩ := Res.then_ex e1
    obtain ⟨b, S2, e30, e1⟩ := Res.then_ex e1
    obtain ⟨e3, eS⟩ := optR_ex e30
    clear e30
    subst eS
    cases e1
    refine ⟨g0, H0, ρ, g, S, E, ?_⟩
    rw [e2]
    intro v g1 H1 G1 s1 r1
    have f := C.facts
    unfold clsFacts at f
    rw [Bool.and_eq_true, Bool.and_eq_true, decide_eq_true_eq, decide_eq_true_eq] at f
    obtain ⟨⟨f1, f2⟩, f3⟩ := f
    have fc := List.all_eq_true.mp f3 cls hc
    rw [Bool.and_eq_true, Bool.and_eq_true, Bool.and_eq_true, decide_eq_true_eq, decide_eq_true_eq] at fc
    have base : ∀ t, tyD x = some t → b = false → ∃ (y c : V) (t u : Value) (b' : Bool), [v, V.ref (He.ga X.K cls)] = [y, c] ∧ ClsV c u ∧ TyX X.K H1 y t ∧ PySem.W.kitOne X.K t u = some b' ∧ Q (.bl b') H1 := fun t ht hb => by
      subst hb
      have := List.all_eq_true.mp fc.2.2 t (ty_mem ht)
      rw [decide_eq_true_eq] at this
      exact ⟨v, .ref (He.ga X.K cls), .type t, .ref (He.ga X.K cls), false, rfl, .own _, tyx_of G1 (.inl r1) ht, this, k _ g1 H1 G1 s1 (.bl false)⟩
    cases x with
    | obj c fs =>
      have e3' : (if c ∈ cs then some (decide (c = cls)) else none) = some b := e3
      split at e3'
      · rename_i hcs
        cases e3'
        cases r1 with
        | @obj A C' dx fvs _ _ hmc h1 h2 rf =>
          have hCe : C' = He.ga X.K c := by
            have := (C.glo c hcs).symm.trans hmc
            cases this
            rfl
          subst hCe
          have fo := List.all_eq_true.mp f3 c hcs
          rw [Bool.and_eq_true, Bool.and_eq_true, Bool.and_eq_true, decide_eq_true_eq, decide_eq_true_eq] at fo
          have fk := List.all_eq_true.mp fo.2.1 cls hc
          rw [decide_eq_true_eq] at fk
          exact ⟨_, .ref (He.ga X.K cls), .ref (He.ga X.K c), .ref (He.ga X.K cls), _, rfl, .own _, .base (.ins (G1.sub _ _ h1) (C.cls c hcs) fo.1.1 f1 f2 fo.1.2), fk, k _ g1 H1 G1 s1 (.bl _)⟩
      · cases e3'
    | mref i => cases e3
    | scr ns => cases e3
    | non => cases e3; exact base _ rfl rfl
    | bl _ => cases e3; exact base _ rfl rfl
    | int _ => cases e3; exact base _ rfl rfl
    | str _ => cases e3; exact base _ rfl rfl
    | tup _ => cases e3; exact base _ rfl rfl
    | lst _ => cases e3; exact base _ rfl rfl
end
end Ev
namespace Ev
open PySem PySem.Spec PyProof.Rows L2
/-! ### states told by some of their slots -/
def St : List (Option D) → DEnv → Prop
  | [], [] => True
  | some d :: t, y :: ρ => y = some d ∧ St t ρ
  | none :: t, _ :: ρ => St t ρ
  | _, _ => False
theorem St.some {d : D} {t : List (Option D)} {ρ : DEnv} (h : St (some d :: t) ρ) : ∃ ρ', ρ = .some d :: ρ' ∧ St t ρ' := by
  cases ρ with
  | nil => exact h.elim
  | cons y ρ => exact ⟨ρ, by rw [h.1], h.2⟩
theorem St.none {t : List (Option D)} {ρ : DEnv} (h : St (none :: t) ρ) : ∃ y ρ', ρ = y :: ρ' ∧ St t ρ' := by
  cases ρ with
  | nil => exact h.elim
  | cons y ρ => exact ⟨y, ρ, rfl, h⟩
theorem St.nil {ρ : DEnv} (h : St [] ρ) : ρ = [] := by
  cases ρ with
  | nil => rfl
  | cons y ρ => exact h.elim
@[simp] theorem st_nil : St [] [] = True := rfl
@[simp] theorem st_some (d : D) (t : List (Option D)) (y : Option D) (ρ : DEnv) : St (some d :: t) (y :: ρ) = (y = some d ∧ St t ρ) := rfl
@[simp] theorem st_none (t : List (Option D)) (y : Option D) (ρ : DEnv) : St (none :: t) (y :: ρ) = St t ρ := rfl
/-- for i in range(n) -/
theorem forL_range {body : D → DEnv → M Out} {ρ : DEnv} {S : Sto} {Q : Out → Sto → Prop} (P : Nat → DEnv → Sto → Prop) (n : Nat) (h0 : P 0 ρ S)
    (h1 : ∀ j, j < n → ∀ ρ S, P j ρ S → (body (.int (j : Int)) ρ S).post (stepP (P (j + 1)) Q)) (h2 : ∀ ρ S, P n ρ S → Q (.nx ρ) S) : (forL body ((List.range n).map fun (k : Nat) => D.int (k : Int)) ρ S).post Q :=
  forL_map (P := P) (List.range n) h0 (fun j x hj ρ S hp => by
    obtain ⟨h, e⟩ := List.getElem?_eq_some_iff.mp hj
    rw [List.getElem_range] at e
    rw [List.length_range] at h
    subst e
    exact h1 j h ρ S hp) fun ρ S hp => h2 ρ S (by rw [List.length_range] at hp; exact hp)
/-- for i in range(lo, hi) -/
theorem forL_range2 {body : D → DEnv → M Out} {ρ : DEnv} {S : Sto} {Q : Out → Sto → Prop} (P : Nat → DEnv → Sto → Prop) (lo n : Nat) (h0 : P 0 ρ S)
    (h1 : ∀ j, j < n → ∀ ρ S, P j ρ S → (body (.int ((lo + j : Nat) : Int)) ρ S).post (stepP (P (j + 1)) Q)) (h2 : ∀ ρ S, P n ρ S → Q (.nx ρ) S) : (forL body ((List.range n).map fun (k : Nat) => D.int ((lo : Int) + (k : Int))) ρ S).post Q :=
  forL_map (P := P) (List.range n) h0 (fun j x hj ρ S hp => by
    obtain ⟨h, e⟩ := List.getElem?_eq_some_iff.mp hj
    rw [List.getElem_range] at e
    rw [List.length_range] at h
    subst e
    have := h1 j h ρ S hp
    rw [Int.natCast_add] at this
    exact this) fun ρ S hp => h2 ρ S (by rw [List.length_range] at hp; exact hp)
theorem rg2n {i j : Nat} (h1 : i < 4611686018427387904) (h2 : j < 4611686018427387904) : dRange [.int (i : Int), .int (j : Int)] = some ((List.range (j - i)).map fun (k : Nat) => .int ((i : Int) + (k : Int))) := by
  rw [rg2 (by omega) (by omega) (by omega) (by omega)]
  congr 3
  omega
/-- for i, x in enumerate(xs) -/
theorem enumD_map {α : Type} {e : α → D} (xs : List α) : enumD (xs.map e) = (List.range xs.length).map fun k => .tup [.int (k : Int), (xs.map e).getD k .non] := by
  unfold enumD
  rw [List.length_map]
theorem getD_at {α : Type} {e : α → D} {xs : List α} {k : Nat} {x : α} (h : xs[k]? = some x) : (xs.map e).getD k .non = e x := by
  rw [List.getD_eq_getElem?_getD, List.getElem?_map, h]
  rfl
theorem forL_enum {α : Type} {e : α → D} {body : D → DEnv → M Out} {ρ : DEnv} {S : Sto} {Q : Out → Sto → Prop} (P : Nat → DEnv → Sto → Prop) (xs : List α) (h0 : P 0 ρ S)
    (h1 : ∀ j x, xs[j]? = some x → ∀ ρ S, P j ρ S → (body (.tup [.int (j : Int), e x]) ρ S).post (stepP (P (j + 1)) Q)) (h2 : ∀ ρ S, P xs.length ρ S → Q (.nx ρ) S) : (forL body (enumD (xs.map e)) ρ S).post Q := by
  rw [enumD_map]
  refine forL_map (P := P) (List.range xs.length) h0 (fun j x hj ρ S hp => ?_) fun ρ S hp => h2 ρ S (by rw [List.length_range] at hp; exact hp)
  obtain ⟨h, e'⟩ := List.getElem?_eq_some_iff.mp hj
  rw [List.getElem_range] at e'
  rw [List.length_range] at h
  subst e'
  have hx : xs[j]? = some xs[j] := List.getElem?_eq_getElem h
  rw [getD_at hx]
  exact h1 j _ hx ρ S hp
theorem compL_range {f : D → M (Option D)} {g : Nat → D} {S : Sto} (n : Nat) (h : ∀ k, k < n → f (.int (k : Int)) S = .ok (some (g k)) S) : compL f ((List.range n).map fun (k : Nat) => D.int (k : Int)) S = .ok ((List.range n).map g) S :=
  compL_map (enc := fun (k : Nat) => D.int (k : Int)) _ fun k hk => h k (List.mem_range.mp hk)
theorem compL_rangeF {f : D → M (Option D)} {g : Nat → D} {p : Nat → Bool} {S : Sto} (n : Nat) (h : ∀ k, k < n → f (.int (k : Int)) S = .ok (if p k then some (g k) else none) S) : compL f ((List.range n).map fun (k : Nat) => D.int (k : Int)) S = .ok (((List.range n).filter p).map g) S :=
  compL_filter (enc := fun (k : Nat) => D.int (k : Int)) _ fun k hk => h k (List.mem_range.mp hk)
theorem compL_enum {α : Type} {e : α → D} {f : D → M (Option D)} {g : Nat → α → D} {S : Sto} {d0 : α} (xs : List α) (h : ∀ (k : Nat) (x : α), xs[k]? = some x → f (.tup [.int (k : Int), e x]) S = .ok (some (g k x)) S) : compL f (enumD (xs.map e)) S = .ok ((List.range xs.length).map fun (k : Nat) => g k (xs.getD k d0)) S := by
  rw [enumD_map]
  refine compL_map _ fun k hk => ?_
  have hk' := List.mem_range.mp hk
  have hx : xs[k]? = some xs[k] := List.getElem?_eq_getElem hk'
  rw [getD_at hx, h k _ hx]
  rw [List.getD_eq_getElem?_getD, hx]
  rfl
/-- all values of a loop that only looks -/
theorem ok_of_post {α : Type} {r : Res α} {P : α → Sto → Prop} (h : r.post P) : ∃ a S, r = .ok a S ∧ P a S := Res.post_ex h
theorem all_map {α : Type} (p : α → Bool) (r : List α) : dAll [.lst (r.map fun x => .bl (p x))] = some (.bl (r.all p)) := by
  show (blsD (r.map fun x => D.bl (p x))).map (fun ns => D.bl (ns.all id)) = _
  rw [show (r.map fun x => D.bl (p x)) = (r.map p).map D.bl by simp, blsD_map]
  simp
theorem any_map {α : Type} (p : α → Bool) (r : List α) : dAnyA [.lst (r.map fun x => .bl (p x))] = some (.bl (r.any p)) := by
  show (blsD (r.map fun x => D.bl (p x))).map (fun ns => D.bl (ns.any id)) = _
  rw [show (r.map fun x => D.bl (p x)) = (r.map p).map D.bl by simp, blsD_map]
  simp
section
variable (ρ : DEnv) (S : Sto) (sa : SE) (cs : List Str) (c : Str) (i : Int) (b : Bool) (xs : List D) (x : Str)
@[simp] theorem e_isC : sIsC cs c sa ρ S = (sa ρ S).then fun d S' => (optR (isOwn cs c d) S').then fun b S' => .ok (.bl b) S' := rfl
@[simp] theorem own_non : isOwn cs c .non = some false := rfl
@[simp] theorem own_bl : isOwn cs c (.bl b) = some false := rfl
@[simp] theorem own_int : isOwn cs c (.int i) = some false := rfl
@[simp] theorem own_str : isOwn cs c (.str x) = some false := rfl
@[simp] theorem own_tup : isOwn cs c (.tup xs) = some false := rfl
@[simp] theorem own_lst : isOwn cs c (.lst xs) = some false := rfl
end
theorem comp_end {α : Type} {ys : List α} (e : α → D) (h : ys.length ≤ sizeLine) (S : Sto) : (if (ys.map e).length ≤ sizeLine then (Res.ok (.lst (ys.map e)) S : Res D) else .bad) = .ok (.lst (ys.map e)) S := by
  rw [if_pos (by rw [List.length_map]; exact h)]
end Ev
namespace Ev
open PySem PySem.Spec PyProof.Rows L2
/-! ### list(range(n)), tuple(range(n)) -/
theorem reps_rg {K : PySem.W.Frag} {mg : Str → Option Value} {g : Gh} (a b : Int) : Reps K mg g (rgV a b) (rangeD a (b - a).toNat) := by
  unfold rgV rangeD
  generalize List.range (b - a).toNat = l
  induction l with
  | nil => exact .nil
  | cons i l ih => exact .cons (.int _) ih
def rgS (n : Int) : Bool := decide (0 ≤ n) && decide (n.toNat ≤ sizeLine)
theorem rgS_ok {n : Int} (h : rgS n = true) : RgOk 0 n := by
  unfold rgS at h
  rw [Bool.and_eq_true, decide_eq_true_eq, decide_eq_true_eq, szl] at h
  exact .of_le (by decide) (by omega) (by decide) h.1
theorem rgS_of {n : Nat} (h : n ≤ sizeLine) : rgS (n : Int) = true := by
  unfold rgS
  rw [Bool.and_eq_true, decide_eq_true_eq, decide_eq_true_eq]
  exact ⟨by omega, by rw [Int.toNat_natCast]; exact h⟩
def rgEnd (f : List D → D) : D → Sto → Res D
  | .int n, S => if rgS n then .ok (f (rangeD 0 n.toNat)) S else .bad
  | _, _ => .bad
def sRgL (sa : SE) : SE := fun ρ S => (sa ρ S).then (rgEnd .lst)
def sRgT (sa : SE) : SE := fun ρ S => (sa ρ S).then (rgEnd .tup)
@[simp] theorem e_rgL (sa : SE) (ρ : DEnv) (S : Sto) : sRgL sa ρ S = (sa ρ S).then (rgEnd .lst) := rfl
@[simp] theorem e_rgT (sa : SE) (ρ : DEnv) (S : Sto) : sRgT sa ρ S = (sa ρ S).then (rgEnd .tup) := rfl
theorem rgEnd_nat (f : List D → D) {n : Nat} (h : n ≤ sizeLine) (S : Sto) : rgEnd f (.int (n : Int)) S = .ok (f ((List.range n).map fun (k : Nat) => D.int (k : Int))) S := by
  show (if rgS (n : Int) then _ else _) = _
  rw [if_pos (rgS_of h), range0, Int.toNat_natCast]
section
variable {X : Cx} {own : List Nat} {a : Expr} {sa : SE} {pos p p2 pos2 : Pos}
theorem rg_ex {f : List D → D} {ρ : DEnv} {S S' : Sto} {d : D} (e : ((sa ρ S).then (rgEnd f)) = .ok d S') : ∃ n, sa ρ S = .ok (.int n) S' ∧ rgS n = true ∧ d = f (rangeD 0 n.toNat) := by
  obtain ⟨x, S1, e2, e1⟩ := Res.then_ex e
  cases x with
  | int n =>
    have e1' : (if rgS n then (Res.ok (f (rangeD 0 n.toNat)) S1 : Res D) else .bad) = .ok d S' := e1
    split at e1'
    · cases e1'
      exact ⟨n, e2, ‹_›, rfl⟩
    · cases e1'
  | _ => cases e1
theorem f_lstRg (hl : X.mg "list" = none) (hr : X.mg "range" = none) (ha : SimE X own a sa) (hc : X.calm = true := by rfl) (hgl : Gl X "list" := by rfl) (hgr : Gl X "range" := by rfl)
    (na : starEach [a] X.env = (false, eval a X.env) :: starEach [] X.env := by rfl)
    (na2 : starEach [.Call (.Name "range" p2) [a] [] pos2] X.env = (false, eval (.Call (.Name "range" p2) [a] [] pos2) X.env) :: starEach [] X.env := by rfl) :
    SimF X own (.Call (.Name "list" p) [.Call (.Name "range" p2) [a] [] pos2] [] pos) (sRgL sa) :=
  pe_weak (pe_listRg hc hgl hl (prg_1 hgr hr ha na) na2) fun σ H Q ⟨g0, H0, ρ, g, S, E, q⟩ => by
    obtain ⟨d, S', e1, ds, e3, k⟩ := Res.post_ex q
    subst e3
    obtain ⟨n, e2, hn, e4⟩ := rg_ex e1
    cases e4
    refine ⟨g0, H0, ρ, g, S, E, ?_⟩
    rw [e2]
    intro v g1 H1 G1 s1 r1
    cases r1
    refine ⟨n, rfl, rgS_ok hn, fun p' hp => ?_⟩
    have := reps_rg (K := X.K) (mg := X.mg) (g := g1) 0 n
    rw [Int.sub_zero] at this
    exact fresh_end G1 s1 hp this k
theorem v_tupRg (hl : X.mg "tuple" = none) (hr : X.mg "range" = none) (ha : SimE X own a sa) (hc : X.calm = true := by rfl) (hgl : Gl X "tuple" := by rfl) (hgr : Gl X "range" := by rfl)
    (na : starEach [a] X.env = (false, eval a X.env) :: starEach [] X.env := by rfl)
    (na2 : starEach [.Call (.Name "range" p2) [a] [] pos2] X.env = (false, eval (.Call (.Name "range" p2) [a] [] pos2) X.env) :: starEach [] X.env := by rfl) :
    SimE X own (.Call (.Name "tuple" p) [.Call (.Name "range" p2) [a] [] pos2] [] pos) (sRgT sa) :=
  pe_weak (pe_tupRg hc hgl hl (prg_1 hgr hr ha na) na2) fun σ H Q ⟨g0, H0, ρ, g, S, E, q⟩ => by
    obtain ⟨d, S', e1, k⟩ := Res.post_ex q
    obtain ⟨n, e2, hn, e4⟩ := rg_ex e1
    subst e4
    refine ⟨g0, H0, ρ, g, S, E, ?_⟩
    rw [e2]
    intro v g1 H1 G1 s1 r1
    cases r1
    refine ⟨n, rfl, rgS_ok hn, fun p' hp => ?_⟩
    have := reps_rg (K := X.K) (mg := X.mg) (g := g1) 0 n
    rw [Int.sub_zero] at this
    exact k _ _ _ (G1.add hp) (s1.trans (stp_add G1 hp)) (Rep.newT G1 hp this)
end
instance {sa : SE} : IsL (sRgL sa) := ⟨fun _ _ _ _ e => by
  obtain ⟨n, _, _, e4⟩ := rg_ex e
  exact ⟨_, e4⟩⟩
end Ev
namespace HT
open PySem PySem.Spec PyProof PyProof.Rows
section
variable {prog : Program} {w : World} {A : Around} {E : Value → Shared → Prop} {s : Shared}
theorem sliceApplied_rev {sl : Addr} {t : Tok} {n : Nat} {Q : Int × Int × Nat → Shared → Prop} (hs : s.heap.IsSliceOf sl .none .none (.int (-1) t))
    (h : Q ((n : Int) - 1, -1, n) s) : wpAny (model prog w) A (Builtin.Slice.sliceApplied (.ref sl) (pure (n : Int))) Q E s := by
  obtain ⟨os, hos, hcs, hds⟩ := id hs
  unfold Builtin.Slice.sliceApplied Builtin.Slice.sliceFields
  refine wpAny_bind (wpAny_bind (wpAny_field hos hds (x := .none) rfl (wpAny_bind (wpAny_field hos hds (x := .none) rfl (wpAny_bind (wpAny_field hos hds (x := .int (-1) t) rfl (wpAny_pure ?_)))))))
  refine wpAny_bind (slicePart_int ?_)
  show wpAny _ _ (if ((-1 : Int) == 0) = true then _ else _) _ _ s
  rw [if_neg (by decide)]
  refine wpAny_bind (slicePart_none (wpAny_bind (slicePart_none (wpAny_bind (wpAny_pure ?_)))))
  show wpAny _ _ (match Builtin.Slice.sliceAdjust none none (-1) (n : Int) with | (lo, hi) => pure (lo, (-1 : Int), Builtin.Slice.slicePlaces lo hi (-1))) _ _ s
  have e : Builtin.Slice.sliceAdjust none none (-1) (n : Int) = ((n : Int) - 1, -1) := rfl
  rw [e]
  show wpAny _ _ (pure ((n : Int) - 1, (-1 : Int), Builtin.Slice.slicePlaces ((n : Int) - 1) (-1) (-1))) _ _ s
  have e2 : Builtin.Slice.slicePlaces ((n : Int) - 1) (-1) (-1) = n := by
    unfold Builtin.Slice.slicePlaces
    rw [if_neg (by decide)]
    by_cases z : n = 0
    · subst z
      rfl
    · rw [if_pos (by omega), show -(-1 : Int) = 1 from rfl, Int.ediv_one]
      omega
  rw [e2]
  exact wpAny_pure h
theorem filterMap_all {α β : Type} {f : α → Option β} {g : α → β} : ∀ l : List α, (∀ m ∈ l, f m = some (g m)) → l.filterMap f = l.map g
  | [], _ => rfl
  | m :: l, h => by
    rw [List.filterMap_cons, h m List.mem_cons_self, List.map_cons, filterMap_all l fun x hx => h x (List.mem_cons_of_mem _ hx)]
theorem pick_rev (xs : Array Value) : ((List.range xs.size).filterMap fun (m : Nat) => xs[(((xs.size : Int) - 1) + (m : Int) * -1).toNat]?).toArray = xs.toList.reverse.toArray := by
  congr 1
  apply List.ext_getElem?
  intro i
  have e : ∀ m, m < xs.size → xs[(((xs.size : Int) - 1) + (m : Int) * -1).toNat]? = some xs.toList.reverse[m]! := fun m hm => by
    have : (((xs.size : Int) - 1) + (m : Int) * -1).toNat = xs.size - 1 - m := by omega
    rw [this, Array.getElem?_eq_getElem (by omega)]
    congr 1
    rw [getElem!_pos _ _ (by simpa using hm), List.getElem_reverse]
    simp
  rw [show ((List.range xs.size).filterMap fun (m : Nat) => xs[(((xs.size : Int) - 1) + (m : Int) * -1).toNat]?) = (List.range xs.size).map fun m => xs.toList.reverse[m]! from by
    exact filterMap_all _ fun m hm => e m (List.mem_range.mp hm)]
  rw [List.getElem?_map]
  by_cases hi : i < xs.size
  · rw [List.getElem?_range hi]
    show some (xs.toList.reverse[i]!) = _
    rw [getElem!_pos _ _ (by simpa using hi), List.getElem?_eq_getElem]
  · rw [List.getElem?_eq_none (by simp; omega), List.getElem?_eq_none (by simp; omega)]
    rfl
theorem getItem_tuple_rev {t sl : Addr} {items : Array Value} {tk : Tok} {Q : Value → Shared → Prop} (ht : IsTup s.heap t items) (hs : s.heap.IsSliceOf sl .none .none (.int (-1) tk))
    (h : Q (.ref s.heap.objs.size) { s with heap := s.heap.push { cls := .type "tuple", data := .seq items.toList.reverse.toArray } })
    (hsz : items.size ≤ sizeLine) : wpAny (model prog w) A (getItem (.ref t) (.ref sl)) Q E s := by
  have htake : sizeOk (.seq items.toList.reverse.toArray) := by
    show items.toList.reverse.toArray.size ≤ sizeLine
    simpa using hsz
  obtain ⟨os, hos, hcs, hds⟩ := id hs
  have hTs : s.TypeIs (.ref sl) "slice" := ⟨os, hos, hcs⟩
  unfold getItem
  try with_reducible refine wpAny_holding ?_
  first | refine wpAny_bind (wpAny_pure ?_) | skip
  refine wpAny_bind (wpAny_sequenceKey ht.typeIs (by decide) ?_)
  refine wpAny_bind (wpAny_callSpecial?_slot (name := Str.ofString "__getitem__") ht.typeIs PyProof.Rows.slot_tuple_getitem
    (wpAny_call_entry PyProof.Rows.slot_tuple_getitem ht.typeIs entry_tuple_getitem ?_ (args_tuple_getitem _ _)))
  show wpAny _ _ (Builtin.Tuple.tupleItemsOf (.ref t) >>= _) _ _ s
  refine wpAny_bind (tupleItemsOf_ ht ?_)
  refine wpAny_bind (wpAny_typeOf hTs ?_)
  rw [if_pos (by decide)]
  refine wpAny_bind (sliceApplied_rev hs ?_)
  have hno : ¬ ((((items.size : Int) - 1) == 0 && (-1 : Int) == 1 && items.size == items.size) = true) := by
    intro q
    rw [Bool.and_eq_true, Bool.and_eq_true] at q
    exact absurd q.1.2 (by decide)
  show wpAny _ _ (if (((items.size : Int) - 1) == 0 && (-1 : Int) == 1 && items.size == items.size) = true then _ else _) _ _ s
  rw [if_neg hno, pick_rev]
  first
    | exact wpAny_bind (m := Builtin.Tuple.tupleExact _) (wpAny_newObj_type (wpAny_pure ⟨_, rfl, wpAny_pure h⟩) htake)
    | exact wpAny_bind (m := Builtin.Tuple.tupleExact _) (wpAny_newObj_type (wpAny_bind (wpAny_pure (wpAny_pure ⟨_, rfl, wpAny_pure h⟩))) htake)
    | exact wpAny_bind (wpAny_bind (m := Builtin.Tuple.tupleExact _) (wpAny_newObj_type (wpAny_pure (wpAny_pure ⟨_, rfl, wpAny_pure h⟩)) htake))
    | exact wpAny_bind (wpAny_bind (m := Builtin.Tuple.tupleExact _) (wpAny_newObj_type (wpAny_pure ⟨_, rfl, wpAny_pure h⟩) htake))
end
end HT
namespace Ev
open PySem PySem.Spec PyProof.Rows L2
/-! ### xs[::-1] of a list or a tuple -/
def tRevA (K : PySem.W.Frag) (te : TE) : TE := fun σ H Q => te σ H fun x H1 => ∃ a xs, x = .ref a ∧ ((SqL K H1 a xs ∧ ∀ p, H1 p = none → Q (.ref p) (upd H1 p (.lst xs.reverse))) ∨ (SqT K H1 a xs ∧ ∀ p, H1 p = none → Q (.ref p) (upd H1 p (.tup xs.reverse))))
theorem pe_revA {X : Cx} {e : Expr} {te : TE} {k : Nat} {p1 p2 p3 pos : Pos} (he : PE X e te) : PE X (.Subscript e (.Slice none none (some (.UnaryOp .USub (.Constant (.int 1) k p1) p2)) p3) pos) (tRevA X.K te) := by
  refine ⟨fun pins s σ H Q I h => ?_⟩
  refine Subscript_ (thn (he.run pins s σ H _ I h) fun v s1 ⟨x, H1, I1, r1, q1⟩ => ?_)
  obtain ⟨a, xs, ex, q⟩ := q1
  subst ex
  cases r1
  have hst : PO X (some (.UnaryOp .USub (.Constant (.int 1) k p1) p2)) (tPart (tUn (rU fun i => .int (-i)) (tC (.int 1)))) := po_some (pe_un un_neg pe_int)
  refine wpAny_Slice (thn (po_none.run pins s1 σ H1 (fun o H2 => o = none ∧ H2 = H1) I1 ⟨rfl, rfl⟩) fun vl s2 ⟨l, H2, I2, pl, el, e2⟩ => ?_)
  subst el e2
  refine thn (po_none.run pins s2 σ H2 (fun o H3 => o = none ∧ H3 = H2) I2 ⟨rfl, rfl⟩) fun vu s3 ⟨u, H3, I3, pu, eu, e3⟩ => ?_
  subst eu e3
  refine thn (hst.run pins s3 σ H3 (fun o H4 => o = some (-1) ∧ H4 = H3) I3 ⟨1, rfl, -1, rfl, rfl, rfl⟩) fun vs s4 ⟨o, H4, I4, ps, eo, e4⟩ => ?_
  subst eo e4
  have I5 : Inv X pins σ H4 { s4 with heap := s4.heap.push { cls := .type "slice", data := .fields #[vl, vu, vs] } } := I4.kept (t' := s4.toks) fun b ob q => Heap.get?_push_of_some _ q
  show wpAny (model X.prog X.w) X.A (subscriptTail e (.Slice none none (some (.UnaryOp .USub (.Constant (.int 1) k p1) p2)) p3) (.ref a) (.ref s4.heap.objs.size)) (EP X pins σ Q) X.xe { s4 with heap := s4.heap.push { cls := .type "slice", data := .fields #[vl, vu, vs] } }
  rcases q with ⟨hx, q⟩ | ⟨hx, q⟩
  · obtain ⟨its, r, ht, hz⟩ := I5.list hx
    have hlen := r.length
    refine tail_any (ops := [.ref a, .ref s4.heap.objs.size]) ht.isList.typeIs (PySem.slot_list_getitem.lookup) ?_ (by with_unfolding_all rfl)
    refine wpAny_getItem_list_slice ht.isList (Heap.IsSliceOf.new _ vl vu vs) pl pu ps (by decide) ?_ (by rw [List.size_toArray]; omega)
    rw [PySem.W.krv_pick]
    refine ⟨.ref _, _, I5.laid (t' := s4.toks) (o := .lst xs.reverse) (fun b ob q => Heap.get?_push_of_some _ q) (Nat.le_refl _) ?_, rfl, q _ (I5.hok.fresh (Nat.le_refl _))⟩
    exact ⟨by rw [List.length_reverse]; exact hz, _, 0, r.reverse, Heap.get?_push_size _ rfl⟩
  · obtain ⟨its, r, ht, hz⟩ := I5.tuple hx
    have hlen : its.toArray.size = xs.length := by rw [List.size_toArray]; exact r.length.symm
    cases pl
    cases pu
    cases ps
    refine tail_any (ops := [.ref a, .ref s4.heap.objs.size]) ht.typeIs PyProof.Rows.slot_tuple_getitem.lookup ?_ (by with_unfolding_all rfl)
    refine HT.getItem_tuple_rev ht (Heap.IsSliceOf.new _ _ _ _) ?_ (by rw [hlen]; exact hz)
    refine ⟨.ref _, _, I5.laid (t' := s4.toks) (o := .tup xs.reverse) (fun b ob q => Heap.get?_push_of_some _ q) (Nat.le_refl _) ?_, rfl, q _ (I5.hok.fresh (Nat.le_refl _))⟩
    exact ⟨by rw [List.length_reverse]; exact hz, _, r.reverse, IsTup.new _ _⟩
theorem Reps.reverse {K : PySem.W.Frag} {mg : Str → Option Value} {g : Gh} : ∀ {vs : List V} {ds : List D}, Reps K mg g vs ds → Reps K mg g vs.reverse ds.reverse
  | _, _, .nil => .nil
  | _, _, .cons h r => by
    rw [List.reverse_cons, List.reverse_cons]
    exact (Reps.reverse r).append (.one h)
def revD : D → Option D
  | .lst xs => some (.lst xs.reverse)
  | .tup xs => some (.tup xs.reverse)
  | _ => none
@[simp] theorem rev_lst (xs : List D) : revD (.lst xs) = some (.lst xs.reverse) := rfl
@[simp] theorem rev_tup (xs : List D) : revD (.tup xs) = some (.tup xs.reverse) := rfl
def sRev (sa : SE) : SE := fun ρ S => (sa ρ S).then fun d S' => optR (revD d) S'
@[simp] theorem e_rev (sa : SE) (ρ : DEnv) (S : Sto) : sRev sa ρ S = (sa ρ S).then fun d S' => optR (revD d) S' := rfl
theorem sim_rev {X : Cx} {own : List Nat} {e : Expr} {sa : SE} {k : Nat} {p1 p2 p3 pos : Pos} (h : SimE X own e sa) : SimE X own (.Subscript e (.Slice none none (some (.UnaryOp .USub (.Constant (.int 1) k p1) p2)) p3) pos) (sRev sa) :=
  pe_weak (pe_revA h) fun σ H Q ⟨g0, H0, ρ, g, S, E, q⟩ => by
    obtain ⟨d, S', e1, kk⟩ := Res.post_ex q
    obtain ⟨x, S1, e2, e1⟩ := Res.then_ex e1
    obtain ⟨e3, eS⟩ := optR_ex e1
    subst eS
    refine ⟨g0, H0, ρ, g, S, E, ?_⟩
    rw [e2]
    intro v g1 H1 G1 s1 r1
    cases x with
    | lst xs =>
      cases e3
      obtain ⟨p, vs, rfl, hp, rs⟩ := RepR.lst G1 (.inl r1)
      exact ⟨p, vs, rfl, .inl ⟨SqL.of hp, fun p' hp' => kk _ _ _ (G1.add hp') (s1.trans (stp_add G1 hp')) (Rep.newL G1 hp' rs.reverse)⟩⟩
    | tup xs =>
      cases e3
      obtain ⟨p, vs, rfl, hp, rs⟩ := RepR.tup G1 (.inl r1)
      exact ⟨p, vs, rfl, .inr ⟨SqT.of hp, fun p' hp' => kk _ _ _ (G1.add hp') (s1.trans (stp_add G1 hp')) (Rep.newT G1 hp' rs.reverse)⟩⟩
    | _ => cases e3
/-! ### comparisons of data of any depth -/
def rCmpD (K : PySem.W.Frag) (f : PyData → PyData → Bool) : R2 := fun x y H Q => ∃ d e, Dp K H x d ∧ Dp K H y e ∧ PySem.W.alike d e = true ∧ d ≠ .none ∧ d.depth ≤ 60 ∧ Q (.bl (f d e)) H
section
variable {X : Cx}
theorem op_ltD (hu : X.A.units + 62 < cLine) : OpR X (compareOp .Lt) (rCmpD X.K fun d e => PySem.W.dataLt d e) := by
  intro pins s σ H x y v u Q I rx ry ⟨d, e, hd, he, ha, hn, hz, q⟩
  obtain ⟨as, r1⟩ := Dp.reads I _ _ _ hd rx
  obtain ⟨bs, r2⟩ := Dp.reads I _ _ _ he ry
  exact PySem.W.lt_data r1 r2 ha hn (by omega) ⟨.bl _, H, I, rfl, q⟩
theorem op_gtD (hu : X.A.units + 62 < cLine) : OpR X (compareOp .Gt) (rCmpD X.K fun d e => PySem.W.dataLt e d) := by
  intro pins s σ H x y v u Q I rx ry ⟨d, e, hd, he, ha, hn, hz, q⟩
  obtain ⟨as, r1⟩ := Dp.reads I _ _ _ hd rx
  obtain ⟨bs, r2⟩ := Dp.reads I _ _ _ he ry
  exact PySem.W.gt_data r1 r2 ha hn (by omega) ⟨.bl _, H, I, rfl, q⟩
theorem op_leD (hu : X.A.units + 62 < cLine) : OpR X (compareOp .LtE) (rCmpD X.K fun d e => !PySem.W.dataLt e d) := by
  intro pins s σ H x y v u Q I rx ry ⟨d, e, hd, he, ha, hn, hz, q⟩
  obtain ⟨as, r1⟩ := Dp.reads I _ _ _ hd rx
  obtain ⟨bs, r2⟩ := Dp.reads I _ _ _ he ry
  exact PySem.W.le_data r1 r2 ha hn (by omega) ⟨.bl _, H, I, rfl, q⟩
theorem op_geD (hu : X.A.units + 62 < cLine) : OpR X (compareOp .GtE) (rCmpD X.K fun d e => !PySem.W.dataLt d e) := by
  intro pins s σ H x y v u Q I rx ry ⟨d, e, hd, he, ha, hn, hz, q⟩
  obtain ⟨as, r1⟩ := Dp.reads I _ _ _ hd rx
  obtain ⟨bs, r2⟩ := Dp.reads I _ _ _ he ry
  exact PySem.W.ge_data r1 r2 ha hn (by omega) ⟨.bl _, H, I, rfl, q⟩
end
def notNon : PyData → Bool
  | .none => false
  | _ => true
theorem notNon_ok {x : PyData} (h : notNon x = true) : x ≠ .none := fun e => by subst e; cases h
def cmpOk (x y : PyData) : Bool := PySem.W.alike x y && (notNon x && decide (x.depth ≤ 60))
def dCmp (f : PyData → PyData → Bool) (a b : D) : Option D := match a.py, b.py with
  | some x, some y => if cmpOk x y then some (.bl (f x y)) else none
  | _, _ => none
/-- ints by themselves, all else as data -/
def dCmpA (h : Int → Int → Bool) (f : PyData → PyData → Bool) (a b : D) : Option D := match a, b with
  | .int i, .int j => some (.bl (h i j))
  | a, b => dCmp f a b
abbrev dLtA : D → D → Option D := dCmpA (fun i j => decide (i < j)) fun d e => PySem.W.dataLt d e
abbrev dGtA : D → D → Option D := dCmpA (fun i j => decide (j < i)) fun d e => PySem.W.dataLt e d
abbrev dLeA : D → D → Option D := dCmpA (fun i j => decide (i ≤ j)) fun d e => !PySem.W.dataLt e d
abbrev dGeA : D → D → Option D := dCmpA (fun i j => decide (j ≤ i)) fun d e => !PySem.W.dataLt d e
@[simp] theorem d_cmpA_int (h : Int → Int → Bool) (f : PyData → PyData → Bool) (i j : Int) : dCmpA h f (.int i) (.int j) = some (.bl (h i j)) := rfl
@[simp] theorem d_cmpA_tup (h : Int → Int → Bool) (f : PyData → PyData → Bool) (xs ys : List D) : dCmpA h f (.tup xs) (.tup ys) = dCmp f (.tup xs) (.tup ys) := rfl
@[simp] theorem d_cmpA_lst (h : Int → Int → Bool) (f : PyData → PyData → Bool) (xs ys : List D) : dCmpA h f (.lst xs) (.lst ys) = dCmp f (.lst xs) (.lst ys) := rfl
section
variable {X : Cx}
theorem op2_cmpA (h : Int → Int → Bool) (f : PyData → PyData → Bool) : Op2 X (dCmpA h f) (fun x y H Q => rI0 (fun i j => .bl (h i j)) x y H Q ∨ rCmpD X.K f x y H Q) := by
  intro g H S x y a b d Q G ra rb e k
  by_cases hi : ∃ i j, a = .int i ∧ b = .int j
  · obtain ⟨i, j, rfl, rfl⟩ := hi
    cases e
    cases ra.int
    cases rb.int
    exact .inl ⟨i, j, rfl, rfl, k _ _ _ G .refl (.bl _)⟩
  · have e' : dCmp f a b = some d := by
      unfold dCmpA at e
      split at e
      · exact absurd ⟨_, _, rfl, rfl⟩ hi
      · exact e
    unfold dCmp at e'
    cases p1 : a.py with
    | none => rw [p1] at e'; cases e'
    | some x1 => cases p2 : b.py with
      | none => rw [p1, p2] at e'; cases e'
      | some y1 =>
        rw [p1, p2] at e'
        have e2 : (if cmpOk x1 y1 then some (D.bl (f x1 y1)) else none) = some d := e'
        split at e2
        · rename_i ok
          cases e2
          unfold cmpOk at ok
          rw [Bool.and_eq_true, Bool.and_eq_true, decide_eq_true_eq] at ok
          exact .inr ⟨x1, y1, dp_read G ra p1, dp_read G rb p2, ok.1, notNon_ok ok.2.1, ok.2.2, k _ _ _ G .refl (.bl _)⟩
        · cases e2
theorem opr_ltA {k : Nat} (hr : Room k X.A) : OpR X (compareOp .Lt) (fun x y H Q => rI0 (fun i j => .bl (decide (i < j))) x y H Q ∨ rCmpD X.K (fun d e => PySem.W.dataLt d e) x y H Q) := op_lt.or (op_ltD (by have := hr.un; omega))
theorem opr_gtA {k : Nat} (hr : Room k X.A) : OpR X (compareOp .Gt) (fun x y H Q => rI0 (fun i j => .bl (decide (j < i))) x y H Q ∨ rCmpD X.K (fun d e => PySem.W.dataLt e d) x y H Q) := op_gt.or (op_gtD (by have := hr.un; omega))
theorem opr_leA {k : Nat} (hr : Room k X.A) : OpR X (compareOp .LtE) (fun x y H Q => rI0 (fun i j => .bl (decide (i ≤ j))) x y H Q ∨ rCmpD X.K (fun d e => !PySem.W.dataLt e d) x y H Q) := op_le.or (op_leD (by have := hr.un; omega))
theorem opr_geA {k : Nat} (hr : Room k X.A) : OpR X (compareOp .GtE) (fun x y H Q => rI0 (fun i j => .bl (decide (j ≤ i))) x y H Q ∨ rCmpD X.K (fun d e => !PySem.W.dataLt d e) x y H Q) := op_ge.or (op_geD (by have := hr.un; omega))
end
end Ev
namespace PySem.W
open PySem PySem.Calls PyProof.Rows
section
variable {prog : Program} {w : World} {A : Around} {E : Value → Shared → Prop} {s : Shared}
theorem collect_tupE {l : Addr} {vs : List Value} {Q : List Value → Shared → Prop} (hl : ∃ o, s.heap.get? l = some o ∧ o.cls = .type "tuple" ∧ ∃ n, o.data = .seq vs.toArray n)
    (h : Q vs { s with heap := (s.heap.push (seqObj "list" #[] 0)).update s.heap.objs.size (Obj.mapSeq (· ++ vs.toArray)) }) (hsz : vs.length ≤ sizeLine) :
    wpAny (model prog w) A (collect (.ref l)) Q E s := by
  obtain ⟨o, ho, hc, n, hd⟩ := id hl
  unfold collect
  refine wpAny_bind (wpAny_runValue (codeAny_builtin entry_proto_collect' ?_))
  show wpAny _ _ (do again (.builtin "list.__iadd__" ⟨[← newList [], .ref l], []⟩)) _ _ s
  refine wpAny_bind (wpAny_newList (wpAny_pure ⟨Code.quiet_builtin _ (by decide +kernel), codeAny_builtin entry_list_iadd' ?_⟩))
  show wpAny _ _ (Builtin.List.listExtendWith (.ref s.heap.objs.size) (.ref l) (.ref s.heap.objs.size)) _ _ { s with heap := s.heap.push (seqObj "list" #[] 0) }
  unfold Builtin.List.listExtendWith
  have ho' : (s.heap.push (seqObj "list" #[] 0)).get? l = some o := Heap.get?_push_of_some _ ho
  refine wpAny_bind (wpAny_typeOf (T := "tuple") ⟨o, ho', hc⟩ ?_)
  rw [if_pos (by simp)]
  refine wpAny_bind (listItems_at ho' hd ?_)
  refine wpAny_bind (listItems_at (xs := #[]) (n := 0) (Heap.get?_push_size _ rfl) rfl ?_)
  rw [if_neg (by simp)]
  refine wpAny_bind (listUpdate_at (xs := #[]) (n := 0) (Heap.get?_push_size _ rfl) rfl ?_ (Nat.zero_le _) (by show (#[] ++ vs.toArray).size ≤ sizeLine + 1; simp only [Array.size_append, List.size_toArray, List.length_nil]; omega))
  refine wpAny_pure ?_
  show wpAny (model prog w) A (do
      let o ← load s.heap.objs.size
      match o.data with
      | .seq xs _ => pure xs.toList
      | _ => unsupported "internal:collect") Q E { s with heap := (s.heap.push (seqObj "list" #[] 0)).update s.heap.objs.size (Obj.mapSeq (· ++ vs.toArray)) }
  refine wpAny_bind (wpAny_load (get?_update_seq (Heap.get?_push_size _ rfl) _) ?_)
  show wpAny _ _ (pure ((#[] : Array Value) ++ vs.toArray).toList) Q E _
  rw [show ((#[] : Array Value) ++ vs.toArray).toList = vs by simp]
  exact wpAny_pure h
theorem sorted_of_sortT {l : Addr} {vs : List Value} {kw : List (Str × Value)} {Q : Value → Shared → Prop} (hl : ∃ o, s.heap.get? l = some o ∧ o.cls = .type "tuple" ∧ ∃ n, o.data = .seq vs.toArray n) (hL : vs.length ≤ sizeLine) (ha1 : argsOk "sorted" ⟨[.ref l], kw⟩) (ha2 : ∀ x, argsOk "list.sort" ⟨[.ref x], kw⟩)
    (body : ∀ E' : Value → Shared → Prop, wpAny (model prog w) A.in1.in1 (Builtin.«list.sort» ⟨[.ref (s.heap.objs.size + 1)], kw⟩) (fun f s' => f = .done (.ret .none) ∧ Q (.ref (s.heap.objs.size + 1)) s') E' { s with heap := copyHeap s.heap vs }) :
    wpAny (model prog w) A (call (.builtin "sorted") [.ref l] kw) Q E s := by
  refine call_function_entry_kw kind_sorted plain_sorted entry_sorted ha1 ?_
  unfold Builtin.«sorted»
  refine wpAny_bind (m := checkCount "sorted" 1 1 _) (wpAny_pure ?_)
  refine wpAny_bind (collect_tupE hl ?_ hL)
  refine wpAny_bind (wpAny_newList ?_ hL)
  have hsz : ((s.heap.push (seqObj "list" #[] 0)).update s.heap.objs.size (Obj.mapSeq (· ++ vs.toArray))).objs.size = s.heap.objs.size + 1 := by
    rw [Heap.size_update, size_push']
  show wpAny _ _ _ _ _ { s with heap := copyHeap s.heap vs }
  rw [hsz]
  refine wpAny_bind (wpAny_holding (wpAny_call_entry_kw slot_list_sort ⟨_, copyHeap_at s.heap vs, rfl⟩ entry_list_sort ?body (ha2 _)))
  case body =>
    show wpAny (model prog w) A.in1.in1 (Builtin.«list.sort» ⟨[.ref (s.heap.objs.size + 1)], kw⟩) _ _ _
    refine wpAny_mono (body _) (fun f s' hf => ?_) fun _ _ e => e
    obtain ⟨rfl, hq⟩ := hf
    exact ⟨_, rfl, wpAny_pure ⟨_, rfl, hq⟩⟩
variable {β : Type} {vs : List Value} {bs : List β} {enc : β → PyData} {R : Value → β → Prop}
theorem sorted_dataT {l : Addr} {Q : Value → Shared → Prop} (hl : ∃ o, s.heap.get? l = some o ∧ o.cls = .type "tuple" ∧ ∃ n, o.data = .seq vs.toArray n) (e : EachIs R vs bs) (er : EachIs (fun v b => ∃ as, Reads s.heap v (enc b) as) vs bs) (hal : AllAlike (bs.map enc)) (hk : Sortable (bs.map enc)) (hL : bs.length ≤ sizeLine)
    (hu : ∀ b, b ∈ bs → A.units + 2 + (enc b).depth < cLine) (h : ∀ out, out.length = bs.length → EachIs R out (bs.mergeSort (dataLe false enc)) → Q (.ref (s.heap.objs.size + 1)) { s with heap := sortedAll s.heap vs (List.toArray out) }) :
    wpAny (model prog w) A (call (.builtin "sorted") [.ref l]) Q E s := by
  have er' : EachIs (fun v b => ∃ as, Reads (sortingHeap (copyHeap s.heap vs) (s.heap.objs.size + 1) vs) v (enc b) as) vs bs := er.mono fun _ _ ⟨as, r⟩ => ⟨as, PyProof.Rows.Reads.keeps (fun _ _ => sorting_copy_old) r⟩
  have hL' : vs.length ≤ sizeLine := by rw [e.length]; exact hL
  exact sorted_of_sortT hl hL' (args_sorted1 _) (fun _ => args_list_sort _) fun _ => list_sort_vals (s := { s with heap := copyHeap s.heap vs }) (copyHeap_at s.heap vs)
    (SortsAt.data (s := { s with heap := sortingHeap (copyHeap s.heap vs) (s.heap.objs.size + 1) vs }) (each_map (R := fun v d => ∃ as, Reads (sortingHeap (copyHeap s.heap vs) (s.heap.objs.size + 1) vs) v d as) enc er') hal hk (bound_map hu)) hL'
    ⟨rfl, h _ (by rw [sortVals_length false rfl]; exact e.length) (sortVals_data false e er' hal)⟩
end
end PySem.W
namespace Ev
open PySem PySem.Spec PyProof.Rows L2
def rSortedT (K : PySem.W.Frag) : List V → Hp → VK → Prop := fun vs H Q => ∃ (a : Addr) (L : List (V × PyData)), vs = [V.ref a] ∧ SqT K H a (L.map (·.1)) ∧ (∀ x ∈ L, Dp K H x.1 x.2) ∧ sortOk (L.map (·.2)) = true ∧
  ∀ p, H p = none → Q (.ref p) (upd H p (.lst ((L.mergeSort (PySem.W.dataLe false (·.2))).map (·.1))))
section
variable {X : Cx}
theorem cr_sortedT (hu : X.A.units + 62 < cLine) : CallR X (.builtin "sorted") (rSortedT X.K) := by
  intro pins s σ H vs us Q I r h
  obtain ⟨a, L, rfl, hs, hd, ok, q⟩ := h
  obtain ⟨its, rv, hl, hz⟩ := I.tuple hs
  rw [Vals.ref1 r]
  obtain ⟨h1, h2, h3⟩ := sortOk_al ok
  rw [List.length_map] at hz
  refine PySem.W.sorted_dataT (bs := L) (enc := (·.2)) (R := fun u x => RelV x.1 u) hl (vals_each rv fun x _ u h => h) (vals_each rv fun x hx u h => Dp.reads I _ _ _ (hd x hx) h) h1 h2 hz (fun b hb => ?_) fun out ho eo => ?_
  · have := h3 b.2 (List.mem_map.mpr ⟨b, hb, rfl⟩)
    omega
  · obtain ⟨ep, he'⟩ := PyProof.Rows.sortedAll_at s.heap its out.toArray
    have hlen : ((L.mergeSort (PySem.W.dataLe false (·.2))).map (·.1)).length ≤ sizeLine := by
      rw [List.length_map, List.length_mergeSort]
      exact hz
    exact ⟨.ref _, upd H (s.heap.objs.size + 1) (.lst ((L.mergeSort (PySem.W.dataLe false (·.2))).map (·.1))), I.laid (t' := s.toks) (fun _ _ => PyProof.Rows.sortedAll_old) (Nat.le_succ _) ⟨hlen, out, ep, each_vals eo, he'⟩, rfl, q _ (I.hok.fresh (Nat.le_succ _))⟩
def dSortedA : List D → Option D
  | [.tup xs] => dSorted [.lst xs]
  | ds => dSorted ds
@[simp] theorem d_sortedA_tup (xs : List D) : dSortedA [.tup xs] = dSorted [.lst xs] := rfl
@[simp] theorem d_sortedA_lst (xs : List D) : dSortedA [.lst xs] = dSorted [.lst xs] := rfl
theorem sortedA_l {ds : List D} {d : D} (e : dSortedA ds = some d) : ∃ es, d = .lst es := by
  unfold dSortedA at e
  split at e <;> exact sorted_l e
theorem opF_sortedA : OpF X dSortedA (fun xs H Q => rSortedD X.K xs H Q ∨ rSortedT X.K xs H Q) := by
  intro g H S xs ds d Q G r e
  unfold dSortedA at e
  split at e
  · rename_i ys
    obtain ⟨ws, e2, r2⟩ : ∃ x, xs = [x] ∧ RepR X.K X.mg g H x (.tup ys) := rr1 r
    subst e2
    obtain ⟨p, vs, rfl, hp, rs⟩ := r2.tup G
    cases q : pyAll ys with
    | none =>
      have e' : (pyAll ys).bind (fun ps => if sortOk ps then some (D.lst (sortD ys ps)) else none) = some d := e
      rw [q] at e'; cases e'
    | some ps =>
      have e'' : (pyAll ys).bind (fun ps => if sortOk ps then some (D.lst (sortD ys ps)) else none) = some d := e
      rw [q] at e''
      have e' : (if sortOk ps then some (D.lst (sortD ys ps)) else none) = some d := e''
      split at e'
      · rename_i ok
        cases e'
        refine ⟨_, rfl, fun k => .inr ?_⟩
        obtain ⟨ze, hl⟩ := zip_each G.sub rs q
        obtain ⟨_, hdp, _⟩ := each_reps ze
        have hsnd : (vs.zip ps).map (·.2) = ps := List.map_snd_zip (Nat.le_of_eq hl.symm)
        refine ⟨p, vs.zip ps, rfl, ?_, hdp, by rw [hsnd]; exact ok, fun l hl' => ?_⟩
        · have : (vs.zip ps).map (·.1) = vs := List.map_fst_zip (Nat.le_of_eq hl)
          rw [this]
          exact SqT.of hp
        · have ze2 := PySem.W.sort_each (r := PySem.W.dataLe false (·.2)) (s := PySem.W.dataLe false (·.2)) ze fun a ha b hb => by
            have h1 := (each_in ze a ha).2.1
            have h2 := (each_in ze b hb).2.1
            show PySem.W.dataLe false (fun x : V × PyData => x.2) a.1 b.1 = PySem.W.dataLe false (fun x : D × PyData => x.2) a.2 b.2
            unfold PySem.W.dataLe
            unfold PySem.W.sortLe
            simp only [h1, h2]
          exact k l _ hl' (each_reps ze2).1
      · cases e'
  · obtain ⟨es, ed, k⟩ := opF_sorted (X := X) g H S xs ds d Q G r e
    exact ⟨es, ed, fun kk => .inl (k kk)⟩
theorem f_sortedA {own : List Nat} {a : Expr} {sa : SE} {p pos : Pos} {k : Nat} (hr : Room k X.A) (hm : X.mg "sorted" = none) (ha : SimR X own a sa) (hg : Gl X "sorted" := by rfl) (he : starEach (a :: []) X.env = (false, eval a X.env) :: starEach [] X.env := by rfl) (hpl : (backTo pos (starEach ([] : List Expr) X.env)).any (·.1) = false := by rfl) : SimF X own (.Call (.Name "sorted" p) [a] [] pos) (sCallN dSortedA [(false, sa)]) :=
  simf_callB ((cr_sortedD (by have := hr.un; omega)).or (cr_sortedT (by have := hr.un; omega))) opF_sortedA hg hm (by decide +kernel) (simr_cons ha simr_nil he) (by decide) (by decide) he hpl
end
instance {sas : List (Bool × SE)} : IsL (sCallN dSortedA sas) := ⟨fun _ _ _ _ e => callL (fun _ _ h => sortedA_l h) e⟩
/-! ### == and != of own objects by their own methods -/
def eqFacts (K : PySem.W.Frag) (cs : List Str) : Bool := cs.all fun c => (cs.all fun d => PySem.W.notFirst K (He.ga K c) (.ref (He.ga K d))) && tyNames.all fun t => PySem.W.notFirst K (He.ga K c) (.type t)
/-- a value whose class is known -/
def okC (cs : List Str) : D → Bool
  | .obj c _ => decide (c ∈ cs)
  | d => (tyD d).isSome
def isObj (c : Str) : D → Bool
  | .obj c' _ => decide (c' = c)
  | _ => false
def sOwn (cs : List Str) (c : Str) (m : List D → M D) (sa sb : SE) : SE := fun ρ S => (sa ρ S).then fun x S1 => (sb ρ S1).then fun y S2 => if isObj c x && okC cs y then m [x, y] S2 else .bad
@[simp] theorem e_own (cs : List Str) (c : Str) (m : List D → M D) (sa sb : SE) (ρ : DEnv) (S : Sto) : sOwn cs c m sa sb ρ S = (sa ρ S).then fun x S1 => (sb ρ S1).then fun y S2 => if isObj c x && okC cs y then m [x, y] S2 else .bad := rfl
structure GM (P : Program) (w : World) (K : PySem.W.Frag) (mg : Str → Option Value) (base : Heap) (k : Nat) (c nm : Str) (m : List D → M D) : Prop where
  ex : ∃ fd ps, Meth K (He.ga K c) nm (He.ma K (He.ga K c) nm) ∧ Binds K fd ps [] ∧ FnOk P w K mg base CX0 k (He.ma K (He.ga K c) nm) fd ps (spOf K mg 2 m)
theorem gm_of {P : Program} {w : World} {K : PySem.W.Frag} {mg : Str → Option Value} {base : Heap} {x qual : Str} {st : Stmt} {fd : FuncData} {N ps : List Str} {k : Nat} {b : SS} {c nm : Str} (F : FunD K x qual (defArgs st) (defBody st) (defScope st) [] [] (He.ma K (He.ga K c) nm) fd) (hm : Meth K (He.ga K c) nm (He.ma K (He.ga K c) nm)) (Sc : FnScope N ps (defScope st)) (hn : ps.length = 2) (hN : 2 ≤ N.length)
    (hb : ∀ (kV doc pm : Value) (an : Option Addr) (cdv ct : Value) (us : List Value), us.length = ps.length → bindArgs (PySem.W.fnOf x qual (defArgs st) (defBody st) (defScope st) .none kV doc pm an cdv ct) ⟨us, []⟩ = pure (ps.zip us))
    (body : ∀ (cdv : Value) (A : Around) (outer : List Env) (s : Shared) (H : Hp) (E : XK), Room k (A.deeper (envOfC qual (defScope st) s.heap.objs.size (He.ma K (He.ga K c) nm) cdv)) → SimB (Ctx P w K mg base N qual (defScope st) (He.ma K (He.ga K c) nm) cdv A outer s H E) [] [] [] (defBody st) b) :
    GM P w K mg base (k + 1) c nm (runD N.length b) :=
  ⟨fd, ps, hm, F.bindsN hb, fo_of F Sc hn hN body⟩
section
variable {X : Cx}
theorem cmpback0 {v : V} {w : Value} {Q : Value → Shared → Prop} {s : Shared} (r : RelV v w) (q : Q w s) : PySem.W.CmpBack Q w s := by
  unfold PySem.W.CmpBack
  split
  · cases v <;> first | (cases r; done) | (obtain ⟨_, e⟩ := r; cases e)
  · exact q
/-- what the comparison asks -/
def rOwn (K : PySem.W.Frag) (mg : Str → Option Value) (C : Addr) (m : List D → M D) : R2 := fun x y H Q => ∃ a dx fs t, x = .ref a ∧ H a = some (.ins C dx fs) ∧ TyX K H y t ∧ PySem.W.notFirst K C t = true ∧ spOf K mg 2 m [x, y] H Q fun _ _ _ => False
theorem op_own {op : CmpOp} {c nm : Str} {m : List D → M D} {k : Nat} (hop : (cmpInfo op).2.1 = nm) (G : GM X.prog X.w X.K X.mg X.base k c nm m) (hr : Room k X.A) (hc : compareOp op = richCompare op := by rfl) : OpR X (compareOp op) (rOwn X.K X.mg (He.ga X.K c) m) := by
  intro pins s σ H x y v u Q I rx ry ⟨a, dx, fs, t, ex, ha, ty, nf, hq⟩
  subst ex
  cases rx
  obtain ⟨fd, ps, M, hb, F⟩ := G.ex
  obtain ⟨mA, J, _⟩ := ins_get I.hok ha
  obtain ⟨od, J, _⟩ := J.look
  obtain ⟨P, kx, px, _⟩ := kit_of I ry ty
  obtain ⟨mm, hF⟩ := I.fr
  rw [hc]
  refine PySem.W.cmp_K (op := op) (tb := t) hr.units0 hF I.ok.mod.kin J (kx.ty _ _ I.kIn px) nf (by rw [hop]; exact M.at_) M.fn ?_
  refine wpAny_mono (run_fn (us := [.ref a, u]) (vs := [.ref a, y]) (dvs := []) F hr hb .nil pass0 I (.cons rfl (.cons ry .nil)) hq) (fun w s' z => ?_) fun _ _ x => x
  obtain ⟨z', H', I', rz, qz⟩ := z
  exact cmpback0 rz ⟨z', H', I', rz, qz⟩
theorem sim_own {own : List Nat} {a b : Expr} {sa sb : SE} {pos : Pos} {cs : List Str} {op : CmpOp} {c nm : Str} {m : List D → M D} {k : Nat} (C : ClsOk X.K X.mg cs) (ef : eqFacts X.K cs = true) (hcs : c ∈ cs) (hop : (cmpInfo op).2.1 = nm) (G : GM X.prog X.w X.K X.mg X.base k c nm m) (hr : Room k X.A) (ha : SimE X own a sa) (hb : SimE X own b sb)
    (hm : behindInMarks op b = false) (hc : compareOp op = richCompare op := by rfl) : SimE X own (.Compare a [op] [b] pos) (sOwn cs c m sa sb) :=
  pe_weak (pe_cmpR (op_own hop G hr hc) ha hb hm) fun σ H Q ⟨g0, H0, ρ, g, S, E, q⟩ => by
    obtain ⟨d, S', e1, kk⟩ := Res.post_ex q
    obtain ⟨x, S1, e2, e1⟩ := Res.then_ex e1
    obtain ⟨y, S2, e3, e1⟩ := Res.then_ex e1
    refine ⟨g0, H0, ρ, g, S, E, ?_⟩
    rw [e2]
    intro v g1 H1 G1 s1 r1
    refine ⟨g0, H0, ρ, g1, S1, E.step G1 s1, ?_⟩
    rw [e3]
    intro v2 g2 H2 G2 s2 r2
    have e1' : (if (isObj c x && okC cs y) = true then m [x, y] S2 else .bad) = .ok d S' := e1
    split at e1'
    · rename_i ok
      rw [Bool.and_eq_true] at ok
      cases x with
      | obj c' fs =>
        have hcc : c' = c := of_decide_eq_true ok.1
        subst hcc
        have f := List.all_eq_true.mp ef c' hcs
        rw [Bool.and_eq_true] at f
        cases r1 with
        | @obj A C' dx fvs _ _ hmc h1 h2 rf =>
          have hCe : C' = He.ga X.K c' := by
            have := (C.glo c' hcs).symm.trans hmc
            cases this
            rfl
          subst hCe
          have sp : spOf X.K X.mg 2 m [.ref A, v2] H2 Q fun _ _ _ => False := ⟨g2, [.obj c' fs, y], S2, G2, .cons (.obj hmc (s2.le.F _ _ h1) (s2.le.F _ _ h2) (rf.mono s2.le)) (.cons r2 .nil), rfl, by
            rw [e1']
            exact fun v3 g3 H3 G3 s3 r3 => kk v3 g3 H3 G3 ((s1.trans s2).trans s3) r3⟩
          have hA : H2 A = some (.ins (He.ga X.K c') dx fvs) := G2.sub _ _ (s2.le.F _ _ h1)
          have base : ∀ t, tyD y = some t → rOwn X.K X.mg (He.ga X.K c') m (.ref A) v2 H2 Q := fun t ht =>
            ⟨A, dx, fvs, .type t, rfl, hA, tyx_of G2 (.inl r2) ht, List.all_eq_true.mp f.2 t (ty_mem ht), sp⟩
          cases y with
          | obj d gs =>
            have hd : d ∈ cs := of_decide_eq_true ok.2
            cases r2 with
            | @obj B D' dy gvs _ _ hmd k1 k2 rg =>
              have hDe : D' = He.ga X.K d := by
                have := (C.glo d hd).symm.trans hmd
                cases this
                rfl
              subst hDe
              have cf := C.facts
              unfold clsFacts at cf
              rw [Bool.and_eq_true, Bool.and_eq_true, decide_eq_true_eq, decide_eq_true_eq] at cf
              have fo := List.all_eq_true.mp cf.2 d hd
              rw [Bool.and_eq_true, Bool.and_eq_true, Bool.and_eq_true, decide_eq_true_eq, decide_eq_true_eq] at fo
              exact ⟨A, dx, fvs, .ref (He.ga X.K d), rfl, hA, .base (.ins (G2.sub _ _ k1) (C.cls d hd) fo.1.1 cf.1.1 cf.1.2 fo.1.2), List.all_eq_true.mp f.1 d hd, sp⟩
          | mref i => cases ok.2
          | scr ns => cases ok.2
          | non => exact base _ rfl
          | bl _ => exact base _ rfl
          | int _ => exact base _ rfl
          | str _ => exact base _ rfl
          | tup _ => exact base _ rfl
          | lst _ => exact base _ rfl
      | _ => cases ok.1
    · cases e1'
end
end Ev
namespace Ev
open PySem PySem.Spec PyProof.Rows L2
/-! ### sum of a tuple of ints -/
def rSumT (K : PySem.W.Frag) : List V → Hp → VK → Prop := fun vs H Q => ∃ (a : Addr) (ns : List Int), vs = [V.ref a] ∧ SqT K H a (ns.map V.int) ∧ Q (.int ns.sum) H
section
variable {X : Cx}
theorem cr_sumT (hc : X.calm = true) : CallR X (.builtin "sum") (rSumT X.K) := by
  intro pins s σ H vs us Q I r h
  obtain ⟨a, ns, rfl, hs, q⟩ := h
  obtain ⟨its, rv, hl, _⟩ := I.tuple hs
  rw [Vals.ref1 r]
  have hi := rv.ints
  obtain ⟨xs, e⟩ := hi.allInts.items
  have hn : numsOf (intItems xs).toList = ns := by rw [← e]; exact hi.numsOf
  rw [nums_intItems] at hn
  rw [e] at hl
  refine PySem.W.ktm_sumG (I.ok.hd hc) hl fun h' tk t' hk => ?_
  refine ⟨.int _, H, I.kept hk, ?_, q⟩
  rw [preSum_eq, List.take_of_length_le (by simp), hn]
  exact ⟨_, rfl⟩
def dSumA : List D → Option D
  | [.tup xs] => dSum [.lst xs]
  | ds => dSum ds
@[simp] theorem d_sumA_tup (xs : List D) : dSumA [.tup xs] = dSum [.lst xs] := rfl
@[simp] theorem d_sumA_lst (xs : List D) : dSumA [.lst xs] = dSum [.lst xs] := rfl
theorem opN_sumA : OpN X dSumA (fun xs H Q => rSum X.K xs H Q ∨ rSumT X.K xs H Q) := by
  intro g H S xs ds d Q G r e k
  unfold dSumA at e
  split at e
  · rename_i ys
    obtain ⟨x, rfl, r2⟩ := rr1 r
    obtain ⟨p, vs, rfl, hp, rs⟩ := r2.tup G
    have e' : (intsD ys).map (fun ns => D.int ns.sum) = some d := e
    cases q : intsD ys with
    | none => rw [q] at e'; cases e'
    | some ns =>
      rw [q] at e'
      cases e'
      have hv := ints_of rs q
      subst hv
      exact .inr ⟨p, ns, rfl, SqT.of hp, k _ _ _ G .refl (.int _)⟩
  · exact .inl (opN_sum (X := X) g H S xs ds d Q G r e k)
theorem v_sumA {own : List Nat} {a : Expr} {sa : SE} {p pos : Pos} (hm : X.mg "sum" = none) (ha : SimR X own a sa) (hc : X.calm = true := by rfl) (hg : Gl X "sum" := by rfl) (he : starEach (a :: []) X.env = (false, eval a X.env) :: starEach [] X.env := by rfl) (hpl : (backTo pos (starEach ([] : List Expr) X.env)).any (·.1) = false := by rfl) : SimE X own (.Call (.Name "sum" p) [a] [] pos) (sCallN dSumA [(false, sa)]) :=
  sim_callB ((cr_sum hc).or (cr_sumT hc)) opN_sumA hg hm (by decide +kernel) (simr_cons ha simr_nil he) (by decide) (by decide) he hpl
end
end Ev
namespace Ev
open PySem PySem.Spec PyProof.Rows L2
/-! ### x in a tuple of data -/
def rInT (K : PySem.W.Frag) : R2 := fun x y H Q => ∃ d ds, Dp K H x d ∧ Dp K H y (.tuple ds) ∧ SeqAt.shaped d = true ∧ SeqAt.shaped (.tuple ds) = true ∧ Q (.bl (ds.any fun z => PyData.eqv z d)) H
def rNotInT (K : PySem.W.Frag) : R2 := fun x y H Q => ∃ d ds, Dp K H x d ∧ Dp K H y (.tuple ds) ∧ SeqAt.shaped d = true ∧ SeqAt.shaped (.tuple ds) = true ∧ Q (.bl (!ds.any fun z => PyData.eqv z d)) H
section
variable {X : Cx}
theorem op_inT (hu : X.A.units + 65 < cLine) : OpR X (compareOp .In) (rInT X.K) := by
  intro pins s σ H x y v u Q I rx ry h
  obtain ⟨d, ds, hd, he, sd, se, q⟩ := h
  obtain ⟨as, r1⟩ := Dp.reads I d x v hd rx
  obtain ⟨bs, r2⟩ := Dp.reads I (.tuple ds) y u he ry
  exact SeqAt.in_tuple_reads r2 r1 (SeqAt.canLay_of_shaped se) (SeqAt.canLay_of_shaped sd) (room_in_shaped sd hu) ⟨.bl _, H, I, rfl, q⟩
theorem op_notInT (hu : X.A.units + 65 < cLine) : OpR X (compareOp .NotIn) (rNotInT X.K) := by
  intro pins s σ H x y v u Q I rx ry h
  obtain ⟨d, ds, hd, he, sd, se, q⟩ := h
  obtain ⟨as, r1⟩ := Dp.reads I d x v hd rx
  obtain ⟨bs, r2⟩ := Dp.reads I (.tuple ds) y u he ry
  exact SeqAt.notIn_tuple_reads r2 r1 (SeqAt.canLay_of_shaped se) (SeqAt.canLay_of_shaped sd) (room_in_shaped sd hu) ⟨.bl _, H, I, rfl, q⟩
/-- x in y: a text, a list or a tuple -/
def dInA (neg : Bool) (a b : D) : Option D := match b with
  | .tup ys => dIn neg a (.lst ys)
  | b => dIn neg a b
@[simp] theorem d_inA_lst (n : Bool) (a : D) (ys : List D) : dInA n a (.lst ys) = dIn n a (.lst ys) := rfl
@[simp] theorem d_inA_tup (n : Bool) (a : D) (ys : List D) : dInA n a (.tup ys) = dIn n a (.lst ys) := rfl
@[simp] theorem d_inA_str (n : Bool) (a : D) (y : Str) : dInA n a (.str y) = dIn n a (.str y) := rfl
theorem sh_tl (zs : List PyData) : SeqAt.shaped (.tuple zs) = SeqAt.shaped (.list zs) := by
  unfold SeqAt.shaped
  rw [PyData.canLay0, PyData.canLay0, PyData.depth, PyData.depth]
theorem op2_inA (r : R2) (h : Op2 X (dIn false) r) : Op2 X (dInA false) (fun x y H Q => r x y H Q ∨ rInT X.K x y H Q) := by
  intro g H S x y a b d Q G ra rb e k
  unfold dInA at e
  split at e
  · rename_i ys
    rw [dIn_lst (fun _ _ _ => fun z => nomatch z)] at e
    split at e
    · rename_i u zs q1 q2
      split at e
      · rename_i hz
        cases e
        obtain ⟨h1, h2⟩ := Bool.and_eq_true_iff.mp hz
        refine .inr ⟨u, zs, dp_read G ra q1, dp_read G rb ?_, h1, by rw [sh_tl]; exact h2, k _ g H G .refl (.bl _)⟩
        show (pyAll ys).map PyData.tuple = _
        rw [q2] <;> rfl
      · cases e
    · cases e
  · exact .inl (h g H S x y a b d Q G ra rb e k)
theorem op2_notInA (r : R2) (h : Op2 X (dIn true) r) : Op2 X (dInA true) (fun x y H Q => r x y H Q ∨ rNotInT X.K x y H Q) := by
  intro g H S x y a b d Q G ra rb e k
  unfold dInA at e
  split at e
  · rename_i ys
    rw [dIn_lst (fun _ _ _ => fun z => nomatch z)] at e
    split at e
    · rename_i u zs q1 q2
      split at e
      · rename_i hz
        cases e
        obtain ⟨h1, h2⟩ := Bool.and_eq_true_iff.mp hz
        refine .inr ⟨u, zs, dp_read G ra q1, dp_read G rb ?_, h1, by rw [sh_tl]; exact h2, k _ g H G .refl (.bl _)⟩
        show (pyAll ys).map PyData.tuple = _
        rw [q2] <;> rfl
      · cases e
    · cases e
  · exact .inl (h g H S x y a b d Q G ra rb e k)
theorem opr_inA {k : Nat} (hr : Room k X.A) : OpR X (compareOp .In) (fun x y H Q => ((∃ i j, x = .str i ∧ y = .str j ∧ Q (.bl (!(Builtin.Str.occurrences j i 0 j.length 1).isEmpty)) H) ∨ rInD X.K x y H Q) ∨ rInT X.K x y H Q) := (opr_in hr).or (op_inT (by have := hr.un; omega))
theorem opr_notInA {k : Nat} (hr : Room k X.A) : OpR X (compareOp .NotIn) (fun x y H Q => ((∃ i j, x = .str i ∧ y = .str j ∧ Q (.bl (!(!(Builtin.Str.occurrences j i 0 j.length 1).isEmpty))) H) ∨ rNotInD X.K x y H Q) ∨ rNotInT X.K x y H Q) := (opr_notIn hr).or (op_notInT (by have := hr.un; omega))
end
end Ev
namespace K86
open PySem PySem.Spec PyProof.Rows L2 Ev
abbrev at_beaten : List Str := ["Thin"]
abbrev at_kept : List Str := ["Thin"]
abbrev at_kerf : List Str := ["Shop"]
abbrev at_pieces : List Str := ["Shop"]
abbrev at_stocks : List Str := ["Shop"]
abbrev OWN : List Str := ["Shop", "Thin"]
def FUEL : Nat := 100000
/- _law_draw(pen, many): 0 pen 1 many 2 cell 3 digit 4 blend -/
def b__law_draw : SS := (sSeq (sPut (sVar 0) (sC (.str "count")) (sOp2 dAdd (sGet (sVar 0) (sC (.str "count"))) (sC (.int 1)))) (sSeq (sIfS (sAndB (sBool (sOp2 dEq (sGet (sVar 0) (sC (.str "digits"))) (sC (.int 0)))) (sBool (sOp2 dLt (sGet (sVar 0) (sC (.str "at"))) (sCallN dLen [(false, (sGet (sVar 0) (sC (.str "cells"))))])))) (sSeq (sSet 2 (sOp2 dIx (sGet (sVar 0) (sC (.str "cells"))) (sGet (sVar 0) (sC (.str "at"))))) (sSeq (sPut (sVar 0) (sC (.str "at")) (sOp2 dAdd (sGet (sVar 0) (sC (.str "at"))) (sC (.int 1)))) (sIfS (sBool (sOp2 dGe (sVar 2) (sOp2 dPow (sC (.int 10)) (sC (.int 18))))) (sPut (sVar 0) (sC (.str "digits")) (sOp2 dSub (sVar 2) (sOp2 dPow (sC (.int 10)) (sC (.int 18))))) (sPut (sVar 0) (sC (.str "fold")) (sOp2 dMod (sCallN dIntOf [(false, (sOp2 dAdd (sOp2 dMulA (sGet (sVar 0) (sC (.str "fold"))) (sC (.int 69069))) (sVar 2)))]) (sC (.int 2147483587))))))) sNext) (sSeq (sIfS (sBool (sOp2 dGt (sGet (sVar 0) (sC (.str "digits"))) (sC (.int 0)))) (sSeq (sSet 3 (sOp2 dMod (sCallN dIntOf [(false, (sGet (sVar 0) (sC (.str "digits"))))]) (sVar 1))) (sSeq (sPut (sVar 0) (sC (.str "digits")) (sOp2 dFdiv (sGet (sVar 0) (sC (.str "digits"))) (sVar 1))) (sRet (sVar 3)))) sNext) (sSeq (sSet 4 (sOp2 dMod (sCallN dIntOf [(false, (sOp2 dAdd (sOp2 dAdd (sOp2 dMulA (sGet (sVar 0) (sC (.str "fold"))) (sC (.int 48271))) (sOp2 dMulA (sGet (sVar 0) (sC (.str "count"))) (sC (.int 7919)))) (sC (.int 13))))]) (sC (.int 2147483647)))) (sSeq (sSet 4 (sOp2 dMod (sCallN dIntOf [(false, (sOp2 dAdd (sOp2 dAdd (sOp2 dMulA (sVar 4) (sVar 4)) (sOp2 dMulA (sC (.int 31)) (sVar 4))) (sGet (sVar 0) (sC (.str "count")))))]) (sC (.int 2147483629)))) (sSeq (sPut (sVar 0) (sC (.str "fold")) (sOp2 dMod (sCallN dIntOf [(false, (sOp2 dAdd (sOp2 dMulA (sVar 4) (sC (.int 16807))) (sC (.int 7))))]) (sC (.int 2147483647)))) (sRet (sOp2 dMod (sCallN dIntOf [(false, (sOp2 dFdiv (sVar 4) (sC (.int 64))))]) (sVar 1)))))))))
def m__law_draw : List D → M D := runD 5 b__law_draw
/- _law_pick(pen, some): 0 pen 1 some -/
def b__law_pick : SS := (sRet (sOp2 dIx (sVar 1) (sCall m__law_draw [(false, (sVar 0)), (false, (sCallN dLen [(false, (sVar 1))]))])))
def m__law_pick : List D → M D := runD 2 b__law_pick
/- as_tuples(value): 0 value 1 one -/
def b_as_tuples (m_rec : List D → M D) : SS := (sSeq (sIfS (sTru (sIsi ["list", "tuple"] (sVar 0))) (sRet (sCallN dTupOf [(false, (sComp [1] (sItA (sVar 0)) (gN 1) sYes (sCall m_rec [(false, (sVar 1))])))])) sNext) (sRet (sVar 0)))
def r_as_tuples : Nat → List D → M D
  | 0 => fun _ _ => .bad
  | n + 1 => runD 2 (b_as_tuples (r_as_tuples n))
def m_as_tuples : List D → M D := r_as_tuples 12
/- __init__(self, kept, beaten): 0 self 1 kept 2 beaten -/
def b_Thin_init : SS := (sSeq (sFldI 0 at_kept "kept" (sCall m_as_tuples [(false, (sVar 1))])) (sFldI 0 at_beaten "beaten" (sCall m_as_tuples [(false, (sVar 2))])))
def m_Thin_init : List D → M D := runI 3 "Thin" b_Thin_init
/- _law_bent(pen, shop, told): 0 pen 1 shop 2 told 3 kept 4 beaten 5 at 6 to 7 some 8 row 9 news 10 lap -/
def b__law_bent : SS := (sSeq (sPar2 3 4 (sAttr at_kept "kept" (sVar 2)) (sAttr at_beaten "beaten" (sVar 2))) (sSeq (sPar2 5 6 (sCall m__law_draw [(false, (sVar 0)), (false, (sCallN dMax [(false, (sC (.int 1))), (false, (sCallN dLen [(false, (sVar 3))]))]))]) (sCall m__law_draw [(false, (sVar 0)), (false, (sCallN dMax [(false, (sC (.int 1))), (false, (sCallN dLen [(false, (sVar 4))]))]))])) (sSeq (sSet 7 (sLst [(false, (sCall m_Thin_init [(false, (sSlice (sVar 3) (sPart (sC (.int 1))) sNoPart)), (false, (sVar 4))])), (false, (sCall m_Thin_init [(false, (sVar 3)), (false, (sSlice (sVar 4) (sPart (sC (.int 1))) sNoPart))])), (false, (sCall m_Thin_init [(false, (sRev (sVar 3))), (false, (sVar 4))])), (false, (sCall m_Thin_init [(false, (sVar 3)), (false, (sRev (sVar 4)))])), (false, (sCall m_Thin_init [(false, (sOp2 dAdd (sVar 3) (sSlice (sVar 3) sNoPart (sPart (sC (.int 1)))))), (false, (sVar 4))]))])) (sSeq (sSet 7 (sOp2 dCatF (sVarR 7) (sLst [(false, (sCall m_Thin_init [(false, (sVar 3)), (false, (sOp2 dAdd (sVar 4) (sSlice (sVar 4) sNoPart (sPart (sC (.int 1))))))])), (false, (sCall m_Thin_init [(false, (sC .non)), (false, (sVar 4))])), (false, (sCall m_Thin_init [(false, (sVar 3)), (false, (sC .non))])), (false, (sCall m_Thin_init [(false, (sCallN dLstOf [(false, (sVar 3))])), (false, (sCallN dLstOf [(false, (sVar 4))]))])), (false, (sC .non)), (false, (sTup [(false, (sVar 3)), (false, (sVar 4))]))]))) (sSeq (sIfS (sBool (sOp2 dNe (sVar 4) (sTup []))) (sSeq (sSet 8 (sOp2 dIx (sVar 4) (sVar 6))) (sSeq (sSet 9 (sLst [(false, (sOp2 dAdd (sSlice (sVar 8) sNoPart (sPart (sC (.int 2)))) (sTup [(false, (sOp2 dAdd (sOp2 dIx (sVar 8) (sC (.int 2))) (sC (.int 1))))]))), (false, (sOp2 dAdd (sSlice (sVar 8) sNoPart (sPart (sC (.int 2)))) (sTup [(false, (sCallN dLen [(false, (sVar 3))]))]))), (false, (sOp2 dAdd (sSlice (sVar 8) sNoPart (sPart (sC (.int 2)))) (sTup [(false, (sC (.int 0)))]))), (false, (sOp2 dAdd (sSlice (sVar 8) sNoPart (sPart (sC (.int 2)))) (sTup [(false, (sC (.bl true)))]))), (false, (sSlice (sVar 8) sNoPart (sPart (sC (.int 2))))), (false, (sC .non)), (false, (sOp2 dAdd (sSlice (sVar 8) sNoPart (sPart (sC (.int 2)))) (sTup [(false, (sOp1 dNeg (sC (.int 1))))]))), (false, (sTup [(false, (sC (.int 0))), (false, (sOp2 dMulA (sTup [(false, (sC (.int 0)))]) (sCallN dLen [(false, (sOp2 dIx (sVar 1) (sC (.int 1))))]))), (false, (sC (.int 0)))]))])) (sSeq (sSet 7 (sOp2 dCatF (sVarR 7) (sComp [10] (sItR [(false, (sC (.int 4)))]) (gN 10) sYes (sCall m_Thin_init [(false, (sVar 3)), (false, (sOp2 dAdd (sOp2 dAdd (sSlice (sVar 4) sNoPart (sPart (sVar 6))) (sTup [(false, (sCall m__law_pick [(false, (sVar 0)), (false, (sVar 9))]))])) (sSlice (sVar 4) (sPart (sOp2 dAdd (sVar 6) (sC (.int 1)))) sNoPart)))])))) (sDropM (mt1 7 mAppend (sPure (sCall m_Thin_init [(false, (sCallN dTupOf [(false, (sCallN dSortedA [(false, (sOp2 dAdd (sVar 3) (sTup [(false, (sSlice (sVar 8) sNoPart (sPart (sC (.int 2)))))])))]))])), (false, (sOp2 dAdd (sSlice (sVar 4) sNoPart (sPart (sVar 6))) (sSlice (sVar 4) (sPart (sOp2 dAdd (sVar 6) (sC (.int 1)))) sNoPart)))]))))))) sNext) (sSeq (sIfS (sBool (sOp2 dNe (sVar 3) (sTup []))) (sSeq (sDropM (mt1 7 mAppend (sPure (sCall m_Thin_init [(false, (sOp2 dAdd (sSlice (sVar 3) sNoPart (sPart (sVar 5))) (sSlice (sVar 3) (sPart (sOp2 dAdd (sVar 5) (sC (.int 1)))) sNoPart))), (false, (sCallN dTupOf [(false, (sCallN dSortedA [(false, (sOp2 dAdd (sVar 4) (sTup [(false, (sOp2 dAdd (sOp2 dIx (sVar 3) (sVar 5)) (sTup [(false, (sC (.int 0)))])))])))]))]))])))) (sDropM (mt1 7 mAppend (sPure (sCall m_Thin_init [(false, (sOp2 dAdd (sOp2 dAdd (sSlice (sVar 3) sNoPart (sPart (sVar 5))) (sTup [(false, (sCall m__law_pick [(false, (sVar 0)), (false, (sLst [(false, (sC .non)), (false, (sSlice (sOp2 dIx (sVar 3) (sVar 5)) sNoPart (sPart (sC (.int 1))))), (false, (sTup [(false, (sC (.int 9))), (false, (sOp2 dIx (sOp2 dIx (sVar 3) (sVar 5)) (sC (.int 1))))])), (false, (sTup [(false, (sOp2 dIx (sOp2 dIx (sVar 3) (sVar 5)) (sC (.int 0)))), (false, (sC .non))])), (false, (sTup [(false, (sOp2 dIx (sOp2 dIx (sVar 3) (sVar 5)) (sC (.int 0)))), (false, (sOp2 dMulA (sTup [(false, (sC (.int 0)))]) (sCallN dLen [(false, (sOp2 dIx (sVar 1) (sC (.int 1))))])))]))]))]))])) (sSlice (sVar 3) (sPart (sOp2 dAdd (sVar 5) (sC (.int 1)))) sNoPart))), (false, (sVar 4))]))))) sNext) (sRet (sCall m__law_pick [(false, (sVar 0)), (false, (sVar 7))]))))))))
def m__law_bent : List D → M D := runD 11 b__law_bent
/- _law_changed_shop(pen, shop): 0 pen 1 shop 2 way 3 at 4 to 5 name 6 length 7 many 8 price 9 row 10 wanted 11 piece -/
def b__law_changed_shop : SS := (sSeq (sPar3 2 3 4 (sCall m__law_draw [(false, (sVar 0)), (false, (sC (.int 6)))]) (sCall m__law_draw [(false, (sVar 0)), (false, (sCallN dLen [(false, (sOp2 dIx (sVar 1) (sC (.int 0))))]))]) (sCall m__law_draw [(false, (sVar 0)), (false, (sCallN dLen [(false, (sOp2 dIx (sVar 1) (sC (.int 1))))]))])) (sSeq (sAsg (gT [(gN 5), (gN 6), (gN 7), (gN 8)]) (sOp2 dIx (sOp2 dIx (sVar 1) (sC (.int 0))) (sVar 3))) (sSeq (sSet 9 (sOp2 dIx (sLst [(false, (sTup [(false, (sVar 5)), (false, (sOp2 dAdd (sVar 6) (sC (.int 1)))), (false, (sVar 7)), (false, (sVar 8))])), (false, (sTup [(false, (sVar 5)), (false, (sVar 6)), (false, (sIfE (sBool (sOp2 (dIsN false) (sVar 7) (sC .non))) (sC (.int 7)) (sC .non))), (false, (sVar 8))])), (false, (sTup [(false, (sVar 5)), (false, (sVar 6)), (false, (sVar 7)), (false, (sOp2 dAdd (sVar 8) (sC (.int 1))))]))]) (sCallN dMin [(false, (sVar 2)), (false, (sC (.int 2)))]))) (sSeq (sIfS (sBool (sOp2 dLt (sVar 2) (sC (.int 3)))) (sRet (sOp2 dAdd (sTup [(false, (sOp2 dAdd (sOp2 dAdd (sSlice (sOp2 dIx (sVar 1) (sC (.int 0))) sNoPart (sPart (sVar 3))) (sTup [(false, (sVar 9))])) (sSlice (sOp2 dIx (sVar 1) (sC (.int 0))) (sPart (sOp2 dAdd (sVar 3) (sC (.int 1)))) sNoPart)))]) (sSlice (sVar 1) (sPart (sC (.int 1))) sNoPart))) sNext) (sSeq (sAsg (gT [(gN 5), (gN 6), (gN 10)]) (sOp2 dIx (sOp2 dIx (sVar 1) (sC (.int 1))) (sVar 4))) (sSeq (sSet 11 (sOp2 dIx (sLst [(false, (sTup [(false, (sVar 5)), (false, (sOp2 dAdd (sVar 6) (sC (.int 1)))), (false, (sVar 10))])), (false, (sTup [(false, (sVar 5)), (false, (sVar 6)), (false, (sOp2 dAdd (sVar 10) (sC (.int 1))))])), (false, (sTup [(false, (sVar 5)), (false, (sCallN dMax [(false, (sC (.int 1))), (false, (sOp2 dSub (sVar 6) (sC (.int 1))))])), (false, (sVar 10))]))]) (sOp2 dSub (sVar 2) (sC (.int 3))))) (sRet (sTup [(false, (sOp2 dIx (sVar 1) (sC (.int 0)))), (false, (sOp2 dAdd (sOp2 dAdd (sSlice (sOp2 dIx (sVar 1) (sC (.int 1))) sNoPart (sPart (sVar 4))) (sTup [(false, (sVar 11))])) (sSlice (sOp2 dIx (sVar 1) (sC (.int 1))) (sPart (sOp2 dAdd (sVar 4) (sC (.int 1)))) sNoPart))), (false, (sOp2 dIx (sVar 1) (sC (.int 2))))]))))))))
def m__law_changed_shop : List D → M D := runD 12 b__law_changed_shop
/- _law_name(pen): 0 pen 1 letters 2 signs 3 long 4 lap -/
def b__law_name : SS := (sSeq (sPar2 1 2 (sC (.str "abcdefghijklmnopqrstuvwxyz")) (sC (.str "abcdefghijklmnopqrstuvwxyz0123456789"))) (sSeq (sSet 3 (sOp2 dIx (sLst [(false, (sC (.int 0))), (false, (sC (.int 0))), (false, (sC (.int 1))), (false, (sC (.int 2))), (false, (sC (.int 5))), (false, (sC (.int 11)))]) (sCall m__law_draw [(false, (sVar 0)), (false, (sC (.int 6)))]))) (sRet (sOp2 dAdd (sCall m__law_pick [(false, (sVar 0)), (false, (sVar 1))]) (sOp2 dJoin (sC (.str "")) (sComp [4] (sItR [(false, (sVar 3))]) (gN 4) sYes (sCall m__law_pick [(false, (sVar 0)), (false, (sVar 2))])))))))
def m__law_name : List D → M D := runD 5 b__law_name
/- _law_names(pen, many): 0 pen 1 many 2 found 3 lap 4 name -/
def b__law_names : SS := (sSeq (sSet 2 (sLst [])) (sSeq (sFor (sItR [(false, (sVar 1))]) (gN 3) (sSeq (sSet 4 (sCall m__law_name [(false, (sVar 0))])) (sSeq (sIfS (sBool (sOp2 (dInA false) (sVar 4) (sVarR 2))) (sSet 4 (sOp2 dAdd (sOp2 dAdd (sC (.str "z")) (sCallN dStrOf [(false, (sVar 3))])) (sC (.str "q")))) sNext) (sSeq (whL FUEL (sBool (sOp2 (dInA false) (sVar 4) (sVarR 2))) (sSet 4 (sOp2 dAdd (sVar 4) (sC (.str "0"))))) (sDropM (mt1 2 mAppend (sPure (sVar 4)))))))) (sRet (sCallN dTupOf [(false, (sVarR 2))]))))
def m__law_names : List D → M D := runD 5 b__law_names
/- _law_few_shop(pen, stocks, pieces): 0 pen 1 stocks 2 pieces 3 names 4 kerf 5 bars 6 some 7 at -/
def b__law_few_shop : SS := (sSeq (sPar2 3 4 (sCall m__law_names [(false, (sVar 0)), (false, (sOp2 dAdd (sVar 1) (sVar 2)))]) (sCall m__law_pick [(false, (sVar 0)), (false, (sLst [(false, (sC (.int 0))), (false, (sC (.int 0))), (false, (sC (.int 1))), (false, (sC (.int 2)))]))])) (sSeq (sSet 5 (sComp [7] (sItR [(false, (sOp2 dAdd (sC (.int 1)) (sCall m__law_draw [(false, (sVar 0)), (false, (sVar 1))])))]) (gN 7) sYes (sTup [(false, (sOp2 dIx (sVar 3) (sVar 7))), (false, (sOp2 dAdd (sC (.int 5)) (sCall m__law_draw [(false, (sVar 0)), (false, (sC (.int 10)))]))), (false, (sCall m__law_pick [(false, (sVar 0)), (false, (sLst [(false, (sC .non)), (false, (sCall m__law_draw [(false, (sVar 0)), (false, (sC (.int 5)))]))]))])), (false, (sCall m__law_draw [(false, (sVar 0)), (false, (sC (.int 6)))]))]))) (sSeq (sSet 6 (sComp [7] (sItR [(false, (sOp2 dAdd (sC (.int 1)) (sCall m__law_draw [(false, (sVar 0)), (false, (sVar 2))])))]) (gN 7) sYes (sTup [(false, (sOp2 dIx (sVar 3) (sOp2 dAdd (sVar 1) (sVar 7)))), (false, (sOp2 dAdd (sC (.int 2)) (sCall m__law_draw [(false, (sVar 0)), (false, (sC (.int 6)))]))), (false, (sCall m__law_draw [(false, (sVar 0)), (false, (sC (.int 4)))]))]))) (sRet (sTup [(false, (sCallN dTupOf [(false, (sVarR 5))])), (false, (sCallN dTupOf [(false, (sVarR 6))])), (false, (sVar 4))])))))
def m__law_few_shop : List D → M D := runD 8 b__law_few_shop
/- _law_is(told, due): 0 told 1 due 2 at -/
def b__law_is (m_rec : List D → M D) : SS := (sSeq (sIfS (sTru (sIsi ["tuple"] (sVar 1))) (sSeq (sIfS (sOrB (sNotB (sTru (sIsi ["tuple"] (sVar 0)))) (sBool (sOp2 dNe (sCallN dLen [(false, (sVar 0))]) (sCallN dLen [(false, (sVar 1))])))) (sRet (sC (.bl false))) sNext) (sRet (sOp2 dEq (sComp [2] (sItR [(false, (sCallN dLen [(false, (sVar 1))]))]) (gN 2) (sNotB (sTru (sCall m_rec [(false, (sOp2 dIx (sVar 0) (sVar 2))), (false, (sOp2 dIx (sVar 1) (sVar 2)))]))) (sVar 2)) (sLst [])))) sNext) (sSeq (sIfS (sBool (sOp2 (dIsN false) (sVar 1) (sC .non))) (sRet (sOp2 (dIsN false) (sVar 0) (sC .non))) sNext) (sSeq (sIfS (sBool (sOp2 (dIsBX false) (sVar 1) (sC (.bl true)))) (sRet (sOp2 (dIsBX false) (sVar 0) (sC (.bl true)))) sNext) (sSeq (sIfS (sBool (sOp2 (dIsBX false) (sVar 1) (sC (.bl false)))) (sRet (sOp2 (dIsBX false) (sVar 0) (sC (.bl false)))) sNext) (sSeq (sIfS (sTru (sIsi ["str"] (sVar 1))) (sRet (sAndV (sIsi ["str"] (sVar 0)) (sOp2 dEq (sVar 0) (sVar 1)))) sNext) (sRet (sAndV (sIsi ["int"] (sVar 0)) (sAndV (sNotV (sTru (sIsi ["bool"] (sVar 0)))) (sOp2 dEq (sVar 0) (sVar 1))))))))))
def r__law_is : Nat → List D → M D
  | 0 => fun _ _ => .bad
  | n + 1 => runD 3 (b__law_is (r__law_is n))
def m__law_is : List D → M D := r__law_is 12
/- is_whole(value): 0 value -/
def b_is_whole : SS := (sRet (sAndV (sIsi ["int"] (sVar 0)) (sNotV (sTru (sIsi ["bool"] (sVar 0))))))
def m_is_whole : List D → M D := runD 1 b_is_whole
/- is_number(value): 0 value -/
def b_is_number : SS := (sRet (sAndV (sCall m_is_whole [(false, (sVar 0))]) (sOp2 dGe (sVar 0) (sC (.int 0)))))
def m_is_number : List D → M D := runD 1 b_is_number
/- is_length(value): 0 value -/
def b_is_length : SS := (sRet (sAndV (sCall m_is_whole [(false, (sVar 0))]) (sOp2 dGe (sVar 0) (sC (.int 1)))))
def m_is_length : List D → M D := runD 1 b_is_length
/- need_length(length): 0 length -/
def b_need_length : SS := (sIfS (sNotB (sTru (sCall m_is_length [(false, (sVar 0))]))) sBad sNext)
def m_need_length : List D → M D := runD 1 b_need_length
/- is_name(value): 0 value 1 sign -/
def b_is_name : SS := (sSeq (sIfS (sOrB (sNotB (sTru (sIsi ["str"] (sVar 0)))) (sOrB (sNotB (sBool (sChain dLe dLe (sC (.int 1)) (sCallN dLen [(false, (sVar 0))]) (sC (.int 12))))) (sBool (sOp2 (dInA true) (sOp2 dIx (sVar 0) (sC (.int 0))) (sC (.str "abcdefghijklmnopqrstuvwxyz")))))) (sRet (sC (.bl false))) sNext) (sRet (sCallN dAll [(false, (sComp [1] (sItA (sVar 0)) (gN 1) sYes (sOp2 (dInA false) (sVar 1) (sC (.str "abcdefghijklmnopqrstuvwxyz0123456789")))))])))
def m_is_name : List D → M D := runD 2 b_is_name
/- need_new_name(name, ahead): 0 name 1 ahead -/
def b_need_new_name : SS := (sSeq (sIfS (sNotB (sTru (sCall m_is_name [(false, (sVar 0))]))) sBad sNext) (sIfS (sBool (sOp2 (dInA false) (sVar 0) (sVar 1))) sBad sNext))
def m_need_new_name : List D → M D := runD 2 b_need_new_name
/- need_pieces(pieces): 0 pieces 1 ahead 2 row 3 name 4 length 5 wanted -/
def b_need_pieces : SS := (sSeq (sIfS (sOrB (sNotB (sTru (sIsi ["list", "tuple"] (sVar 0)))) (sNotB (sBool (sChain dLe dLe (sC (.int 1)) (sCallN dLen [(false, (sVar 0))]) (sC (.int 6)))))) sBad sNext) (sSeq (sSet 1 (sLst [])) (sFor (sItA (sVar 0)) (gN 2) (sSeq (sIfS (sOrB (sNotB (sTru (sIsi ["tuple"] (sVar 2)))) (sBool (sOp2 dNe (sCallN dLen [(false, (sVar 2))]) (sOp2 dAdd (sC (.int 2)) (sC (.int 1)))))) sBad sNext) (sSeq (sAsg (gT [(gN 3), (gN 4), (gN 5)]) (sVar 2)) (sSeq (sDrop (sCallL m_need_new_name [(false, (sVar 3)), (false, (sVarR 1))])) (sSeq (sDrop (sCall m_need_length [(false, (sVar 4))])) (sSeq (sIfS (sNotB (sTru (sCall m_is_number [(false, (sVar 5))]))) sBad sNext) (sDropM (mt1 1 mAppend (sPure (sVar 3))))))))))))
def m_need_pieces : List D → M D := runD 6 b_need_pieces
/- need_stocks(stocks): 0 stocks 1 ahead 2 row 3 name 4 length 5 many 6 price -/
def b_need_stocks : SS := (sSeq (sIfS (sOrB (sNotB (sTru (sIsi ["list", "tuple"] (sVar 0)))) (sNotB (sBool (sChain dLe dLe (sC (.int 1)) (sCallN dLen [(false, (sVar 0))]) (sC (.int 4)))))) sBad sNext) (sSeq (sSet 1 (sLst [])) (sFor (sItA (sVar 0)) (gN 2) (sSeq (sIfS (sOrB (sNotB (sTru (sIsi ["tuple"] (sVar 2)))) (sBool (sOp2 dNe (sCallN dLen [(false, (sVar 2))]) (sOp2 dAdd (sC (.int 3)) (sC (.int 1)))))) sBad sNext) (sSeq (sAsg (gT [(gN 3), (gN 4), (gN 5), (gN 6)]) (sVar 2)) (sSeq (sDrop (sCallL m_need_new_name [(false, (sVar 3)), (false, (sVarR 1))])) (sSeq (sDrop (sCall m_need_length [(false, (sVar 4))])) (sSeq (sIfS (sAndB (sBool (sOp2 (dIsN true) (sVar 5) (sC .non))) (sNotB (sTru (sCall m_is_number [(false, (sVar 5))])))) sBad sNext) (sSeq (sIfS (sNotB (sTru (sCall m_is_number [(false, (sVar 6))]))) sBad sNext) (sDropM (mt1 1 mAppend (sPure (sVar 3)))))))))))))
def m_need_stocks : List D → M D := runD 7 b_need_stocks
/- __init__(self, stocks, pieces, kerf): 0 self 1 stocks 2 pieces 3 kerf -/
def b_Shop_init : SS := (sSeq (sDrop (sCall m_need_stocks [(false, (sVar 1))])) (sSeq (sDrop (sCall m_need_pieces [(false, (sVar 2))])) (sSeq (sIfS (sNotB (sTru (sCall m_is_number [(false, (sVar 3))]))) sBad sNext) (sSeq (sFldI 0 at_stocks "stocks" (sCallN dTupOf [(false, (sVar 1))])) (sSeq (sFldI 0 at_pieces "pieces" (sCallN dTupOf [(false, (sVar 2))])) (sFldI 0 at_kerf "kerf" (sVar 3)))))))
def m_Shop_init : List D → M D := runI 4 "Shop" b_Shop_init
/- _law_made(shop): 0 shop -/
def b__law_made : SS := (sRet (sCall m_Shop_init [(false, (sOp2 dIx (sVar 0) (sC (.int 0)))), (false, (sOp2 dIx (sVar 0) (sC (.int 1)))), (false, (sOp2 dIx (sVar 0) (sC (.int 2))))]))
def m__law_made : List D → M D := runD 1 b__law_made
/- _law_pen(script): 0 script 1 fold 2 cell -/
def b__law_pen : SS := (sSeq (sSet 1 (sC (.int 0))) (sSeq (sFor (sItA (sVar 0)) (gN 2) (sSet 1 (sOp2 dMod (sCallN dIntOf [(false, (sOp2 dAdd (sOp2 dMulA (sVar 1) (sC (.int 47))) (sVar 2)))]) (sC (.int 1000000007))))) (sRet (sDict [("cells", (sCallN dLstOf [(false, (sVar 0))])), ("at", (sC (.int 0))), ("digits", (sC (.int 0))), ("count", (sC (.int 0))), ("fold", (sVar 1))]))))
def m__law_pen : List D → M D := runD 3 b__law_pen
/- _law_beats(shop, other, give): 0 shop 1 other 2 give 3 mine 4 theirs 5 at -/
def b__law_beats : SS := (sSeq (sPar2 3 4 (sOp2 dIx (sOp2 dIx (sVar 0) (sC (.int 0))) (sOp2 dIx (sVar 1) (sC (.int 0)))) (sOp2 dIx (sOp2 dIx (sVar 0) (sC (.int 0))) (sOp2 dIx (sVar 2) (sC (.int 0))))) (sSeq (sIfS (sOrB (sAndB (sBool (sOp2 dNe (sOp2 dIx (sVar 1) (sC (.int 0))) (sOp2 dIx (sVar 2) (sC (.int 0))))) (sBool (sOp2 (dIsN true) (sOp2 dIx (sVar 3) (sC (.int 2))) (sC .non)))) (sBool (sOp2 dGtA (sOp2 dIx (sVar 3) (sC (.int 3))) (sOp2 dIx (sVar 4) (sC (.int 3)))))) (sRet (sC (.bl false))) sNext) (sSeq (sIfS (sBool (sOp2 dNe (sComp [5] (sItR [(false, (sCallN dLen [(false, (sOp2 dIx (sVar 0) (sC (.int 1))))]))]) (gN 5) (sBool (sOp2 dLtA (sOp2 dIx (sOp2 dIx (sVar 1) (sC (.int 1))) (sVar 5)) (sOp2 dIx (sOp2 dIx (sVar 2) (sC (.int 1))) (sVar 5)))) (sVar 5)) (sLst []))) (sRet (sC (.bl false))) sNext) (sRet (sOrV (sOp2 dGt (sCallN dSumA [(false, (sOp2 dIx (sVar 1) (sC (.int 1))))]) (sCallN dSumA [(false, (sOp2 dIx (sVar 2) (sC (.int 1))))])) (sOrV (sOp2 dLtA (sOp2 dIx (sVar 3) (sC (.int 3))) (sOp2 dIx (sVar 4) (sC (.int 3)))) (sOp2 dLtA (sOp2 dIx (sVar 1) (sC (.int 0))) (sOp2 dIx (sVar 2) (sC (.int 0))))))))))
def m__law_beats : List D → M D := runD 6 b__law_beats
/- _law_cut(shop, left, piece): 0 shop 1 left 2 piece -/
def b__law_cut : SS := (sSeq (sSet 1 (sOp2 dSub (sVar 1) (sOp2 dIx (sOp2 dIx (sOp2 dIx (sVar 0) (sC (.int 1))) (sVar 2)) (sC (.int 1))))) (sSeq (sIfS (sBool (sOp2 dLt (sVar 1) (sC (.int 0)))) (sRet (sC .non)) sNext) (sRet (sOp2 dSub (sVar 1) (sCallN dMin [(false, (sVar 1)), (false, (sOp2 dIx (sVar 0) (sC (.int 2))))])))))
def m__law_cut : List D → M D := runD 3 b__law_cut
/- _law_patterns(shop, length): 0 shop 1 length 2 rows 3 piece 4 longer 5 row 6 left 7 number -/
def b__law_patterns : SS := (sSeq (sSet 2 (sLst [(false, (sTup [(false, (sTup [])), (false, (sVar 1))]))])) (sSeq (sFor (sItR [(false, (sCallN dLen [(false, (sOp2 dIx (sVar 0) (sC (.int 1))))]))]) (gN 3) (sSeq (sSet 4 (sLst [])) (sSeq (sFor (sItA (sVar 2)) (gT [(gN 5), (gN 6)]) (sSeq (sSet 7 (sC (.int 0))) (whL FUEL (sBool (sOp2 (dIsN true) (sVar 6) (sC .non))) (sSeq (sDropM (mt1 4 mAppend (sPure (sTup [(false, (sOp2 dAdd (sVar 5) (sTup [(false, (sVar 7))]))), (false, (sVar 6))])))) (sPar2 6 7 (sCall m__law_cut [(false, (sVar 0)), (false, (sVar 6)), (false, (sVar 3))]) (sOp2 dAdd (sVar 7) (sC (.int 1)))))))) (sSet 2 (sVar 4))))) (sRet (sComp [5, 6] (sItA (sVar 2)) (gT [(gN 5), (gN 6)]) sYes (sVar 5)))))
def m__law_patterns : List D → M D := runD 8 b__law_patterns
/- _law_gives_of(shop): 0 shop 1 found 2 stock 3 row -/
def b__law_gives_of : SS := (sSeq (sSet 1 (sLst [])) (sSeq (sFor (sItR [(false, (sCallN dLen [(false, (sOp2 dIx (sVar 0) (sC (.int 0))))]))]) (gN 2) (sDropM (mt1 1 mExtend (sPure (sComp [3] (sItA (sCall m__law_patterns [(false, (sVar 0)), (false, (sOp2 dIx (sOp2 dIx (sOp2 dIx (sVar 0) (sC (.int 0))) (sVar 2)) (sC (.int 1))))])) (gN 3) (sBool (sOp2 dGt (sCallN dSumA [(false, (sVar 3))]) (sC (.int 0)))) (sTup [(false, (sVar 2)), (false, (sVar 3))])))))) (sRet (sVar 1))))
def m__law_gives_of : List D → M D := runD 4 b__law_gives_of
/- _law_size(shop, pattern): 0 shop 1 pattern 2 number 3 row -/
def b__law_size : SS := (sRet (sCallN dSumA [(false, (sComp [2, 3] (sItZ (sVar 1) (sOp2 dIx (sVar 0) (sC (.int 1)))) (gT [(gN 2), (gN 3)]) sYes (sOp2 dMulA (sVar 2) (sOp2 dAdd (sOp2 dIx (sVar 3) (sC (.int 1))) (sOp2 dIx (sVar 0) (sC (.int 2)))))))]))
def m__law_size : List D → M D := runD 4 b__law_size
/- _law_gives(shop, length, pattern): 0 shop 1 length 2 pattern -/
def b__law_gives : SS := (sRet (sOrV (sOp2 dEq (sCallN dSumA [(false, (sVar 2))]) (sC (.int 0))) (sOp2 dLe (sCall m__law_size [(false, (sVar 0)), (false, (sVar 2))]) (sOp2 dAdd (sVar 1) (sOp2 dIx (sVar 0) (sC (.int 2)))))))
def m__law_gives : List D → M D := runD 3 b__law_gives
/- _law_whole(value): 0 value -/
def b__law_whole : SS := (sRet (sAndV (sIsi ["int"] (sVar 0)) (sNotV (sTru (sIsi ["bool"] (sVar 0))))))
def m__law_whole : List D → M D := runD 1 b__law_whole
/- _law_is_numbers(value, many): 0 value 1 many 2 one -/
def b__law_is_numbers : SS := (sRet (sAndV (sIsi ["tuple"] (sVar 0)) (sAndV (sOp2 dEq (sCallN dLen [(false, (sVar 0))]) (sVar 1)) (sOp2 dEq (sComp [2] (sItA (sVar 0)) (gN 2) (sOrB (sNotB (sTru (sCall m__law_whole [(false, (sVar 2))]))) (sBool (sOp2 dLt (sVar 2) (sC (.int 0))))) (sVar 2)) (sLst [])))))
def m__law_is_numbers : List D → M D := runD 3 b__law_is_numbers
/- _law_is_give(shop, value): 0 shop 1 value -/
def b__law_is_give : SS := (sSeq (sIfS (sOrB (sNotB (sTru (sIsi ["tuple"] (sVar 1)))) (sOrB (sBool (sOp2 dNe (sCallN dLen [(false, (sVar 1))]) (sC (.int 2)))) (sOrB (sNotB (sTru (sCall m__law_whole [(false, (sOp2 dIx (sVar 1) (sC (.int 0))))]))) (sNotB (sBool (sChain dLe dLt (sC (.int 0)) (sOp2 dIx (sVar 1) (sC (.int 0))) (sCallN dLen [(false, (sOp2 dIx (sVar 0) (sC (.int 0))))]))))))) (sRet (sC (.bl false))) sNext) (sRet (sAndV (sCall m__law_is_numbers [(false, (sOp2 dIx (sVar 1) (sC (.int 1)))), (false, (sCallN dLen [(false, (sOp2 dIx (sVar 0) (sC (.int 1))))]))]) (sAndV (sOp2 dGt (sCallN dSumA [(false, (sOp2 dIx (sVar 1) (sC (.int 1))))]) (sC (.int 0))) (sCall m__law_gives [(false, (sVar 0)), (false, (sOp2 dIx (sOp2 dIx (sOp2 dIx (sVar 0) (sC (.int 0))) (sOp2 dIx (sVar 1) (sC (.int 0)))) (sC (.int 1)))), (false, (sOp2 dIx (sVar 1) (sC (.int 1))))])))))
def m__law_is_give : List D → M D := runD 2 b__law_is_give
/- _law_thin_right(shop, told): 0 shop 1 told 2 row 3 rows 4 give 5 at 6 other -/
def b__law_thin_right : SS := (sSeq (sIfS (sOrB (sNotB (sTru (sIsC OWN "Thin" (sVar 1)))) (sOrB (sNotB (sTru (sIsi ["tuple"] (sAttr at_kept "kept" (sVar 1))))) (sNotB (sTru (sIsi ["tuple"] (sAttr at_beaten "beaten" (sVar 1))))))) (sRet (sC (.bl false))) sNext) (sSeq (sIfS (sOrB (sBool (sOp2 dNe (sComp [4] (sItA (sAttr at_kept "kept" (sVar 1))) (gN 4) (sNotB (sTru (sCall m__law_is_give [(false, (sVar 0)), (false, (sVar 4))]))) (sVar 4)) (sLst []))) (sBool (sOp2 dNe (sComp [5] (sItR [(false, (sC (.int 1))), (false, (sCallN dLen [(false, (sAttr at_kept "kept" (sVar 1)))]))]) (gN 5) (sBool (sOp2 dGeA (sOp2 dIx (sAttr at_kept "kept" (sVar 1)) (sOp2 dSub (sVar 5) (sC (.int 1)))) (sOp2 dIx (sAttr at_kept "kept" (sVar 1)) (sVar 5)))) (sVar 5)) (sLst [])))) (sRet (sC (.bl false))) sNext) (sSeq (sIfS (sBool (sOp2 dNe (sComp [4] (sItA (sAttr at_kept "kept" (sVar 1))) (gN 4) (sBool (sOp2 dNe (sComp [6] (sItA (sAttr at_kept "kept" (sVar 1))) (gN 6) (sTru (sCall m__law_beats [(false, (sVar 0)), (false, (sVar 6)), (false, (sVar 4))])) (sVar 6)) (sLst []))) (sVar 4)) (sLst []))) (sRet (sC (.bl false))) sNext) (sSeq (sFor (sItA (sAttr at_beaten "beaten" (sVar 1))) (gN 2) (sSeq (sIfS (sOrB (sNotB (sTru (sIsi ["tuple"] (sVar 2)))) (sOrB (sBool (sOp2 dNe (sCallN dLen [(false, (sVar 2))]) (sC (.int 3)))) (sOrB (sNotB (sTru (sCall m__law_is_give [(false, (sVar 0)), (false, (sSlice (sVar 2) sNoPart (sPart (sC (.int 2)))))]))) (sNotB (sTru (sCall m__law_whole [(false, (sOp2 dIx (sVar 2) (sC (.int 2))))])))))) (sRet (sC (.bl false))) sNext) (sIfS (sOrB (sNotB (sBool (sChain dLe dLt (sC (.int 0)) (sOp2 dIx (sVar 2) (sC (.int 2))) (sCallN dLen [(false, (sAttr at_kept "kept" (sVar 1)))])))) (sNotB (sTru (sCall m__law_beats [(false, (sVar 0)), (false, (sOp2 dIx (sAttr at_kept "kept" (sVar 1)) (sOp2 dIx (sVar 2) (sC (.int 2))))), (false, (sSlice (sVar 2) sNoPart (sPart (sC (.int 2)))))])))) (sRet (sC (.bl false))) sNext))) (sSeq (sSet 3 (sComp [2] (sItA (sAttr at_beaten "beaten" (sVar 1))) (gN 2) sYes (sSlice (sVar 2) sNoPart (sPart (sC (.int 2)))))) (sSeq (sIfS (sBool (sOp2 dNe (sComp [5] (sItR [(false, (sC (.int 1))), (false, (sCallN dLen [(false, (sVarR 3))]))]) (gN 5) (sBool (sOp2 dGeA (sOp2 dIx (sVarR 3) (sOp2 dSub (sVar 5) (sC (.int 1)))) (sOp2 dIx (sVarR 3) (sVar 5)))) (sVar 5)) (sLst []))) (sRet (sC (.bl false))) sNext) (sRet (sOp2 dEq (sCallN dSortedA [(false, (sOp2 dCatF (sCallN dLstOf [(false, (sAttr at_kept "kept" (sVar 1)))]) (sVarR 3)))]) (sCall m__law_gives_of [(false, (sVar 0))])))))))))
def m__law_thin_right : List D → M D := runD 7 b__law_thin_right
/- beats_by(shop, other, give): 0 shop 1 other 2 give 3 o 4 better 5 s 6 pattern 7 mine 8 theirs 9 one 10 two -/
def b_beats_by : SS := (sSeq (sAsg (gT [(gT [(gN 3), (gN 4)]), (gT [(gN 5), (gN 6)])]) (sTup [(false, (sVar 1)), (false, (sVar 2))])) (sSeq (sPar2 7 8 (sOp2 dIx (sAttr at_stocks "stocks" (sVar 0)) (sVar 3)) (sOp2 dIx (sAttr at_stocks "stocks" (sVar 0)) (sVar 5))) (sSeq (sIfS (sOrB (sAndB (sBool (sOp2 dNe (sVar 3) (sVar 5))) (sBool (sOp2 (dIsN true) (sOp2 dIx (sVar 7) (sC (.int 2))) (sC .non)))) (sBool (sOp2 dGtA (sOp2 dIx (sVar 7) (sC (.int 3))) (sOp2 dIx (sVar 8) (sC (.int 3)))))) (sRet (sC (.bl false))) sNext) (sSeq (sIfS (sNotB (sTru (sCallN dAll [(false, (sComp [9, 10] (sItZ (sVar 4) (sVar 6)) (gT [(gN 9), (gN 10)]) sYes (sOp2 dGeA (sVar 9) (sVar 10))))]))) (sRet (sC (.bl false))) sNext) (sRet (sOrV (sOp2 dNe (sVar 4) (sVar 6)) (sOrV (sOp2 dLtA (sOp2 dIx (sVar 7) (sC (.int 3))) (sOp2 dIx (sVar 8) (sC (.int 3)))) (sOp2 dLtA (sVar 3) (sVar 5)))))))))
def m_beats_by : List D → M D := runD 11 b_beats_by
/- first_that_beats(shop, kept, give): 0 shop 1 kept 2 give 3 at 4 other -/
def b_first_that_beats : SS := (sRet (sOp2 dIx (sComp [3, 4] (sItE (sVar 1)) (gT [(gN 3), (gN 4)]) (sTru (sCall m_beats_by [(false, (sVar 0)), (false, (sVar 4)), (false, (sVar 2))])) (sVar 3)) (sC (.int 0))))
def m_first_that_beats : List D → M D := runD 5 b_first_that_beats
/- width_by(shop, piece): 0 shop 1 piece -/
def b_width_by : SS := (sRet (sOp2 dAdd (sOp2 dIx (sOp2 dIx (sAttr at_pieces "pieces" (sVar 0)) (sVar 1)) (sC (.int 1))) (sAttr at_kerf "kerf" (sVar 0))))
def m_width_by : List D → M D := runD 2 b_width_by
/- many_by(shop, room): 0 shop 1 room 2 ways 3 piece 4 width 5 size -/
def b_many_by : SS := (sSeq (sSet 2 (sOp2 dRepF (sLst [(false, (sC (.int 1)))]) (sOp2 dAdd (sVar 1) (sC (.int 1))))) (sSeq (sFor (sItR [(false, (sCallN dLen [(false, (sAttr at_pieces "pieces" (sVar 0)))]))]) (gN 3) (sSeq (sSet 4 (sCall m_width_by [(false, (sVar 0)), (false, (sVar 3))])) (sFor (sItR [(false, (sVar 4)), (false, (sOp2 dAdd (sVar 1) (sC (.int 1))))]) (gN 5) (sSetIx 2 (sVar 5) (sOp2 dAdd (sOp2 dIx (sVarR 2) (sVar 5)) (sOp2 dIx (sVarR 2) (sOp2 dSub (sVar 5) (sVar 4)))))))) (sRet (sOp2 dIx (sVarR 2) (sVar 1)))))
def m_many_by : List D → M D := runD 6 b_many_by
/- room_by(shop, stock): 0 shop 1 stock -/
def b_room_by : SS := (sRet (sOp2 dAdd (sOp2 dIx (sOp2 dIx (sAttr at_stocks "stocks" (sVar 0)) (sVar 1)) (sC (.int 1))) (sAttr at_kerf "kerf" (sVar 0))))
def m_room_by : List D → M D := runD 2 b_room_by
/- rows_within(shop, room): 0 shop 1 room 2 rows 3 piece 4 longer 5 width 6 row 7 left 8 number -/
def b_rows_within : SS := (sSeq (sSet 2 (sLst [(false, (sTup [(false, (sTup [])), (false, (sVar 1))]))])) (sSeq (sFor (sItR [(false, (sCallN dLen [(false, (sAttr at_pieces "pieces" (sVar 0)))]))]) (gN 3) (sSeq (sPar2 4 5 (sLst []) (sCall m_width_by [(false, (sVar 0)), (false, (sVar 3))])) (sSeq (sFor (sItA (sVar 2)) (gT [(gN 6), (gN 7)]) (sDropM (mt1 4 mExtend (sPure (sComp [8] (sItR [(false, (sOp2 dAdd (sOp2 dFdiv (sVar 7) (sVar 5)) (sC (.int 1))))]) (gN 8) sYes (sTup [(false, (sTup [(true, (sVar 6)), (false, (sVar 8))])), (false, (sOp2 dSub (sVar 7) (sOp2 dMulA (sVar 8) (sVar 5))))])))))) (sSet 2 (sVar 4))))) (sRet (sComp [6, 7] (sItA (sVar 2)) (gT [(gN 6), (gN 7)]) sYes (sVar 6)))))
def m_rows_within : List D → M D := runD 9 b_rows_within
/- patterns_by(shop, stock): 0 shop 1 stock 2 room 3 many -/
def b_patterns_by : SS := (sSeq (sSet 2 (sCall m_room_by [(false, (sVar 0)), (false, (sVar 1))])) (sSeq (sSet 3 (sCall m_many_by [(false, (sVar 0)), (false, (sVar 2))])) (sSeq (sIfS (sBool (sOp2 dGt (sVar 3) (sC (.int 3000)))) sBad sNext) (sRet (sCall m_rows_within [(false, (sVar 0)), (false, (sVar 2))])))))
def m_patterns_by : List D → M D := runD 4 b_patterns_by
/- gives_by(shop): 0 shop 1 found 2 stock 3 pattern -/
def b_gives_by : SS := (sSeq (sSet 1 (sLst [])) (sSeq (sFor (sItR [(false, (sCallN dLen [(false, (sAttr at_stocks "stocks" (sVar 0)))]))]) (gN 2) (sDropM (mt1 1 mExtend (sPure (sComp [3] (sItA (sCall m_patterns_by [(false, (sVar 0)), (false, (sVar 2))])) (gN 3) (sTru (sCallN dAnyA [(false, (sVar 3))])) (sTup [(false, (sVar 2)), (false, (sVar 3))])))))) (sRet (sVar 1))))
def m_gives_by : List D → M D := runD 4 b_gives_by
/- kept_by(shop): 0 shop 1 gives 2 give 3 other -/
def b_kept_by : SS := (sSeq (sSet 1 (sCall m_gives_by [(false, (sVar 0))])) (sRet (sComp [2] (sItA (sVar 1)) (gN 2) (sNotB (sTru (sCallN dAnyA [(false, (sComp [3] (sItA (sVar 1)) (gN 3) sYes (sCall m_beats_by [(false, (sVar 0)), (false, (sVar 3)), (false, (sVar 2))])))]))) (sVar 2))))
def m_kept_by : List D → M D := runD 4 b_kept_by
/- thin(shop): 0 shop 1 kept 2 beaten 3 stock 4 pattern -/
def b_thin : SS := (sSeq (sPar2 1 2 (sCall m_kept_by [(false, (sVar 0))]) (sLst [])) (sSeq (sFor (sItA (sCall m_gives_by [(false, (sVar 0))])) (gT [(gN 3), (gN 4)]) (sIfS (sBool (sOp2 (dInA true) (sTup [(false, (sVar 3)), (false, (sVar 4))]) (sVar 1))) (sDropM (mt1 2 mAppend (sPure (sTup [(false, (sVar 3)), (false, (sVar 4)), (false, (sCall m_first_that_beats [(false, (sVar 0)), (false, (sVar 1)), (false, (sTup [(false, (sVar 3)), (false, (sVar 4))]))]))])))) sNext)) (sRet (sCall m_Thin_init [(false, (sCallN dTupOf [(false, (sVar 1))])), (false, (sCallN dTupOf [(false, (sVarR 2))]))]))))
def m_thin : List D → M D := runD 5 b_thin
/- are_ascending(rows): 0 rows 1 at -/
def b_are_ascending : SS := (sRet (sCallN dAll [(false, (sComp [1] (sItR [(false, (sOp2 dSub (sCallN dLen [(false, (sVar 0))]) (sC (.int 1))))]) (gN 1) sYes (sOp2 dLtA (sOp2 dIx (sVar 0) (sVar 1)) (sOp2 dIx (sVar 0) (sOp2 dAdd (sVar 1) (sC (.int 1)))))))]))
def m_are_ascending : List D → M D := runD 2 b_are_ascending
/- size_by(shop, pattern): 0 shop 1 pattern 2 piece 3 number -/
def b_size_by : SS := (sRet (sCallN dSumA [(false, (sComp [2, 3] (sItE (sVar 1)) (gT [(gN 2), (gN 3)]) sYes (sOp2 dMulA (sVar 3) (sCall m_width_by [(false, (sVar 0)), (false, (sVar 2))]))))]))
def m_size_by : List D → M D := runD 4 b_size_by
/- fits_by(shop, stock, pattern): 0 shop 1 stock 2 pattern -/
def b_fits_by : SS := (sRet (sOrV (sOp2 dLe (sCall m_size_by [(false, (sVar 0)), (false, (sVar 2))]) (sCall m_room_by [(false, (sVar 0)), (false, (sVar 1))])) (sNotV (sTru (sCallN dAnyA [(false, (sVar 2))])))))
def m_fits_by : List D → M D := runD 3 b_fits_by
/- is_index(value, many): 0 value 1 many -/
def b_is_index : SS := (sRet (sAndV (sCall m_is_whole [(false, (sVar 0))]) (sChain dLe dLtA (sC (.int 0)) (sVar 0) (sVar 1))))
def m_is_index : List D → M D := runD 2 b_is_index
/- is_numbers_row(shop, value): 0 shop 1 value 2 one -/
def b_is_numbers_row : SS := (sRet (sAndV (sIsi ["tuple"] (sVar 1)) (sAndV (sOp2 dEq (sCallN dLen [(false, (sVar 1))]) (sCallN dLen [(false, (sAttr at_pieces "pieces" (sVar 0)))])) (sCallN dAll [(false, (sComp [2] (sItA (sVar 1)) (gN 2) sYes (sCall m_is_number [(false, (sVar 2))])))]))))
def m_is_numbers_row : List D → M D := runD 3 b_is_numbers_row
/- is_give(shop, value): 0 shop 1 value -/
def b_is_give : SS := (sSeq (sIfS (sOrB (sNotB (sTru (sIsi ["tuple"] (sVar 1)))) (sOrB (sBool (sOp2 dNe (sCallN dLen [(false, (sVar 1))]) (sC (.int 2)))) (sNotB (sTru (sCall m_is_index [(false, (sOp2 dIx (sVar 1) (sC (.int 0)))), (false, (sCallN dLen [(false, (sAttr at_stocks "stocks" (sVar 0)))]))]))))) (sRet (sC (.bl false))) sNext) (sRet (sAndV (sCall m_is_numbers_row [(false, (sVar 0)), (false, (sOp2 dIx (sVar 1) (sC (.int 1))))]) (sAndV (sCallN dAnyA [(false, (sOp2 dIx (sVar 1) (sC (.int 1))))]) (sCall m_fits_by [(false, (sVar 0)), (false, (sOp2 dIx (sVar 1) (sC (.int 0)))), (false, (sOp2 dIx (sVar 1) (sC (.int 1))))])))))
def m_is_give : List D → M D := runD 2 b_is_give
/- is_beaten_row(shop, kept, value): 0 shop 1 kept 2 value -/
def b_is_beaten_row : SS := (sSeq (sIfS (sOrB (sNotB (sTru (sIsi ["tuple"] (sVar 2)))) (sOrB (sBool (sOp2 dNe (sCallN dLen [(false, (sVar 2))]) (sC (.int 3)))) (sNotB (sTru (sCall m_is_give [(false, (sVar 0)), (false, (sSlice (sVar 2) sNoPart (sPart (sC (.int 2)))))]))))) (sRet (sC (.bl false))) sNext) (sSeq (sIfS (sOrB (sBool (sOp2 (dInA false) (sSlice (sVar 2) sNoPart (sPart (sC (.int 2)))) (sVar 1))) (sNotB (sTru (sCall m_is_index [(false, (sOp2 dIx (sVar 2) (sC (.int 2)))), (false, (sCallN dLen [(false, (sVar 1))]))])))) (sRet (sC (.bl false))) sNext) (sRet (sCall m_beats_by [(false, (sVar 0)), (false, (sOp2 dIx (sVar 1) (sOp2 dIx (sVar 2) (sC (.int 2))))), (false, (sSlice (sVar 2) sNoPart (sPart (sC (.int 2)))))]))))
def m_is_beaten_row : List D → M D := runD 3 b_is_beaten_row
/- thin_holds(shop, value): 0 shop 1 value 2 gives 3 beaten 4 row 5 give 6 other -/
def b_thin_holds : SS := (sSeq (sSet 2 (sCall m_gives_by [(false, (sVar 0))])) (sSeq (sIfS (sOrB (sNotB (sTru (sIsC OWN "Thin" (sVar 1)))) (sOrB (sNotB (sTru (sIsi ["tuple"] (sAttr at_kept "kept" (sVar 1))))) (sNotB (sTru (sIsi ["tuple"] (sAttr at_beaten "beaten" (sVar 1))))))) (sRet (sC (.bl false))) sNext) (sSeq (sIfS (sOrB (sNotB (sTru (sCallN dAll [(false, (sComp [5] (sItA (sAttr at_kept "kept" (sVar 1))) (gN 5) sYes (sCall m_is_give [(false, (sVar 0)), (false, (sVar 5))])))]))) (sNotB (sTru (sCall m_are_ascending [(false, (sAttr at_kept "kept" (sVar 1)))])))) (sRet (sC (.bl false))) sNext) (sSeq (sIfS (sTru (sCallN dAnyA [(false, (sComp [5] (sItA (sAttr at_kept "kept" (sVar 1))) (gN 5) sYes (sCallN dAnyA [(false, (sComp [6] (sItA (sAttr at_kept "kept" (sVar 1))) (gN 6) sYes (sCall m_beats_by [(false, (sVar 0)), (false, (sVar 6)), (false, (sVar 5))])))])))])) (sRet (sC (.bl false))) sNext) (sSeq (sIfS (sNotB (sTru (sCallN dAll [(false, (sComp [4] (sItA (sAttr at_beaten "beaten" (sVar 1))) (gN 4) sYes (sCall m_is_beaten_row [(false, (sVar 0)), (false, (sAttr at_kept "kept" (sVar 1))), (false, (sVar 4))])))]))) (sRet (sC (.bl false))) sNext) (sSeq (sSet 3 (sComp [4] (sItA (sAttr at_beaten "beaten" (sVar 1))) (gN 4) sYes (sSlice (sVar 4) sNoPart (sPart (sC (.int 2)))))) (sRet (sAndV (sCall m_are_ascending [(false, (sVar 3))]) (sOp2 dEq (sCallN dSortedA [(false, (sLst [(true, (sAttr at_kept "kept" (sVar 1))), (true, (sVar 3))]))]) (sVar 2))))))))))
def m_thin_holds : List D → M D := runD 7 b_thin_holds
/- __eq__(self, other): 0 self 1 other -/
def b_Thin_eq : SS := (sRet (sAndV (sIsC OWN "Thin" (sVar 1)) (sOp2 dEq (sTup [(false, (sAttr at_kept "kept" (sVar 0))), (false, (sAttr at_beaten "beaten" (sVar 0)))]) (sTup [(false, (sAttr at_kept "kept" (sVar 1))), (false, (sAttr at_beaten "beaten" (sVar 1)))]))))
def m_Thin_eq : List D → M D := runD 2 b_Thin_eq
/- __ne__(self, other): 0 self 1 other -/
def b_Thin_ne : SS := (sRet (sNotV (sTru (sOwn OWN "Thin" m_Thin_eq (sVar 0) (sVar 1)))))
def m_Thin_ne : List D → M D := runD 2 b_Thin_ne
/- law(script): 0 script 1 pen 2 lap 3 shop 4 made 5 told 6 turn 7 bent 8 other 9 one -/
def b_law_f352 : SS := (sSeq (sSet 7 (sIfE (sBool (sOp2 dEq (sVar 6) (sC (.int 0)))) (sVar 5) (sCall m__law_bent [(false, (sVar 1)), (false, (sVar 3)), (false, (sVar 5))]))) (sIfS (sNotB (sTru (sCall m__law_is [(false, (sCall m_thin_holds [(false, (sVar 4)), (false, (sVar 7))])), (false, (sCall m__law_thin_right [(false, (sVar 3)), (false, (sVar 7))]))]))) (sRet (sC (.bl false))) sNext))
def b_law_f348 : SS := (sSeq (sSet 3 (sCall m__law_few_shop [(false, (sVar 1)), (false, (sC (.int 3))), (false, (sC (.int 2)))])) (sSeq (sSet 4 (sCall m__law_made [(false, (sVar 3))])) (sSeq (sSet 5 (sCall m_thin [(false, (sVar 4))])) (sSeq (sFor (sItR [(false, (sC (.int 9)))]) (gN 6) b_law_f352) (sSeq (sSet 8 (sCall m__law_changed_shop [(false, (sVar 1)), (false, (sVar 3))])) (sIfS (sNotB (sTru (sCall m__law_is [(false, (sCall m_thin_holds [(false, (sCall m__law_made [(false, (sVar 8))])), (false, (sVar 5))])), (false, (sCall m__law_thin_right [(false, (sVar 8)), (false, (sVar 5))]))]))) (sRet (sC (.bl false))) sNext))))))
def b_law : SS := (sSeq (sSet 1 (sCall m__law_pen [(false, (sVar 0))])) (sSeq (sFor (sItR [(false, (sC (.int 2)))]) (gN 2) b_law_f348) (sSeq (sSet 9 (sCall m_Thin_init [(false, (sLst [(false, (sLst [(false, (sC (.int 0))), (false, (sLst [(false, (sC (.int 1)))]))]))])), (false, (sLst []))])) (sSeq (sIfS (sOrB (sBool (sOp2 (dIsBX true) (sOwn OWN "Thin" m_Thin_eq (sVar 9) (sCall m_Thin_init [(false, (sTup [(false, (sTup [(false, (sC (.int 0))), (false, (sTup [(false, (sC (.int 1)))]))]))])), (false, (sTup []))])) (sC (.bl true)))) (sBool (sOp2 (dIsBX true) (sOwn OWN "Thin" m_Thin_ne (sVar 9) (sCall m_Thin_init [(false, (sTup [])), (false, (sTup []))])) (sC (.bl true))))) (sRet (sC (.bl false))) sNext) (sRet (sAndV (sOp2 (dIsBX false) (sOwn OWN "Thin" m_Thin_eq (sCall m_Thin_init [(false, (sTup [])), (false, (sTup [(false, (sC (.int 1)))]))]) (sCall m_Thin_init [(false, (sTup [])), (false, (sTup [(false, (sC (.int 2)))]))])) (sC (.bl false))) (sOp2 (dIsBX false) (sOwn OWN "Thin" m_Thin_eq (sVar 9) (sAttr at_kept "kept" (sVar 9))) (sC (.bl false)))))))))
def m_law : List D → M D := runD 10 b_law
end K86
namespace K86
open PySem PySem.Spec PyProof.Rows L2 Ev
/-! ### the pen -/
structure Pen where
  cells : List Int
  at_ : Nat
  digits : Int
  count : Int
  fold : Int
def Pen.kd (p : Pen) : List (Key × D) := [(.inr "cells", .lst (p.cells.map .int)), (.inr "at", .int (p.at_ : Int)), (.inr "digits", .int p.digits), (.inr "count", .int p.count), (.inr "fold", .int p.fold)]
def Pen.Ok (p : Pen) : Prop := p.at_ ≤ p.cells.length ∧ 0 ≤ p.digits ∧ p.cells.length ≤ 1000
/-- the pen is the first of what changes; the rest is R -/
def PenS (R : Sto) (S : Sto) : Prop := ∃ p : Pen, S = p.kd :: R ∧ p.Ok
section
variable (p : Pen) (R : Sto) (ρ : DEnv) (c : Int) (k : Nat)
@[simp] theorem get_cells : getD' (.mref 0) (.str "cells") (p.kd :: R) = .ok (.lst (p.cells.map .int)) (p.kd :: R) := rfl
@[simp] theorem get_at : getD' (.mref 0) (.str "at") (p.kd :: R) = .ok (.int (p.at_ : Int)) (p.kd :: R) := rfl
@[simp] theorem get_digits : getD' (.mref 0) (.str "digits") (p.kd :: R) = .ok (.int p.digits) (p.kd :: R) := rfl
@[simp] theorem get_count : getD' (.mref 0) (.str "count") (p.kd :: R) = .ok (.int p.count) (p.kd :: R) := rfl
@[simp] theorem get_fold : getD' (.mref 0) (.str "fold") (p.kd :: R) = .ok (.int p.fold) (p.kd :: R) := rfl
theorem five : (5 : Nat) < sizeLine := by rw [szl]; decide
@[simp] theorem put_at : putD' ρ (.int (k : Int)) (.mref 0) (.str "at") (p.kd :: R) = .ok (.nx ρ) ({ p with at_ := k }.kd :: R) := if_pos (e := Res.bad) five
@[simp] theorem put_digits : putD' ρ (.int c) (.mref 0) (.str "digits") (p.kd :: R) = .ok (.nx ρ) ({ p with digits := c }.kd :: R) := if_pos (e := Res.bad) five
@[simp] theorem put_count : putD' ρ (.int c) (.mref 0) (.str "count") (p.kd :: R) = .ok (.nx ρ) ({ p with count := c }.kd :: R) := if_pos (e := Res.bad) five
@[simp] theorem put_fold : putD' ρ (.int c) (.mref 0) (.str "fold") (p.kd :: R) = .ok (.nx ρ) ({ p with fold := c }.kd :: R) := if_pos (e := Res.bad) five
end
@[simp] theorem ten18 : dPow (.int 10) (.int 18) = some (.int 1000000000000000000) := by
  simp only [dPow]
  rw [if_pos (pwOk_of (by decide) (by decide) (by decide))]
  rfl
theorem mul_lit (i j : Int) (h : -18446744073709551616 < j ∧ j < 18446744073709551616) : dMulA (.int i) (.int j) = some (.int (i * j)) := if_pos (cMul_of (by omega))
theorem mul_lit' (i j : Int) (h : -18446744073709551616 < i ∧ i < 18446744073709551616) : dMulA (.int i) (.int j) = some (.int (i * j)) := if_pos (cMul_of (by omega))
theorem mod_int (i j : Int) (h : j ≠ 0) : dMod (.int i) (.int j) = some (.int (i.fmod j)) := if_pos h
theorem fdiv_int (i j : Int) (h : j ≠ 0) (h2 : j.natAbs < 1073741824) : dFdiv (.int i) (.int j) = some (.int (i.fdiv j)) := if_pos (fdOk_of h h2)
theorem fmod_range (i j : Int) (h : 0 < j) : 0 ≤ i.fmod j ∧ i.fmod j < j := by
  rw [Int.fmod_eq_emod_of_nonneg i (by omega)]
  exact ⟨Int.emod_nonneg i (by omega), Int.emod_lt_of_pos i h⟩
/-- what a draw gives -/
def Drawn (R : Sto) (many : Int) (d : D) (S : Sto) : Prop := (∃ r : Nat, d = .int (r : Int) ∧ (r : Int) < many) ∧ PenS R S
theorem drawn_of {R : Sto} {many r : Int} {p : Pen} (h0 : 0 ≤ r) (h : r < many) (ok : p.Ok) : Drawn R many (.int r) (p.kd :: R) :=
  ⟨⟨r.toNat, by rw [Int.toNat_of_nonneg h0], by rw [Int.toNat_of_nonneg h0]; exact h⟩, p, rfl, ok⟩

theorem len_cells (p : Pen) : dLen [.lst (p.cells.map D.int)] = some (.int (p.cells.length : Int)) := by simp
theorem draw_tail {R : Sto} {p : Pen} {many : Int} (ok : p.Ok) (hm : 0 < many) (hm2 : many < 1073741824) {ρ : DEnv} (c : Option D) (dg bl : Option D) (hρ : ρ = [some (.mref 0), some (.int many), c, dg, bl]) :
    (((sSeq (sIfS (sBool (sOp2 dGt (sGet (sVar 0) (sC (.str "digits"))) (sC (.int 0)))) (sSeq (sSet 3 (sOp2 dMod (sCallN dIntOf [(false, (sGet (sVar 0) (sC (.str "digits"))))]) (sVar 1))) (sSeq (sPut (sVar 0) (sC (.str "digits")) (sOp2 dFdiv (sGet (sVar 0) (sC (.str "digits"))) (sVar 1))) (sRet (sVar 3)))) sNext) (sSeq (sSet 4 (sOp2 dMod (sCallN dIntOf [(false, (sOp2 dAdd (sOp2 dAdd (sOp2 dMulA (sGet (sVar 0) (sC (.str "fold"))) (sC (.int 48271))) (sOp2 dMulA (sGet (sVar 0) (sC (.str "count"))) (sC (.int 7919)))) (sC (.int 13))))]) (sC (.int 2147483647)))) (sSeq (sSet 4 (sOp2 dMod (sCallN dIntOf [(false, (sOp2 dAdd (sOp2 dAdd (sOp2 dMulA (sVar 4) (sVar 4)) (sOp2 dMulA (sC (.int 31)) (sVar 4))) (sGet (sVar 0) (sC (.str "count")))))]) (sC (.int 2147483629)))) (sSeq (sPut (sVar 0) (sC (.str "fold")) (sOp2 dMod (sCallN dIntOf [(false, (sOp2 dAdd (sOp2 dMulA (sVar 4) (sC (.int 16807))) (sC (.int 7))))]) (sC (.int 2147483647)))) (sRet (sOp2 dMod (sCallN dIntOf [(false, (sOp2 dFdiv (sVar 4) (sC (.int 64))))]) (sVar 1))))))) : SS) ρ (p.kd :: R)).post fun o S => ∃ d, o = .rt d ∧ Drawn R many d S := by
  subst hρ
  have h3 : many ≠ 0 := by omega
  have h4 : many.natAbs < 1073741824 := by omega
  by_cases hd : 0 < p.digits
  · simp [hd, mod_int _ _ h3, fdiv_int _ _ h3 h4]
    obtain ⟨q1, q2⟩ := fmod_range p.digits many hm
    refine drawn_of q1 q2 ⟨ok.1, ?_, ok.2.2⟩
    show 0 ≤ p.digits.fdiv many
    exact Int.fdiv_nonneg ok.2.1 (by omega)
  · have e1 := fmod_range (p.fold * 48271 + p.count * 7919 + 13) 2147483647 (by decide)
    simp [hd, mod_int, mul_lit, mul_lit', fdiv_int]
    rw [mul_lit _ _ (by omega)]
    simp [mod_int, mul_lit, mul_lit', fdiv_int, h3]
    obtain ⟨q1, q2⟩ := fmod_range ((((p.fold * 48271 + p.count * 7919 + 13).fmod 2147483647 * (p.fold * 48271 + p.count * 7919 + 13).fmod 2147483647 + 31 * (p.fold * 48271 + p.count * 7919 + 13).fmod 2147483647 + p.count).fmod 2147483629).fdiv 64) many hm
    exact drawn_of q1 q2 ok
theorem draw_ok {R : Sto} {p : Pen} {many : Int} (ok : p.Ok) (hm : 0 < many) (hm2 : many < 1073741824) : (m__law_draw [.mref 0, .int many] (p.kd :: R)).post (Drawn R many) := by
  unfold m__law_draw b__law_draw
  rw [e_runD]
  refine then_post (P := fun o S => ∃ d, o = .rt d ∧ Drawn R many d S) ?_ (fun o S ⟨d, e, h⟩ => by subst e; exact h)
  simp only [List.map_cons, List.map_nil, List.length_cons, List.length_nil, List.replicate, List.cons_append, List.nil_append]
  rw [e_seq]
  refine then_post (P := fun o S => ∃ p : Pen, o = .nx [some (.mref 0), some (.int many), none, none, none] ∧ S = p.kd :: R ∧ p.Ok) (by simp; exact ⟨_, rfl, ok⟩) (fun o S ⟨p, e1, e2, ok⟩ => ?_)
  subst e1 e2
  rw [thenO_nx, e_seq]
  refine then_post (P := fun o S => ∃ (p : Pen) (c : Option D), o = .nx [some (.mref 0), some (.int many), c, none, none] ∧ S = p.kd :: R ∧ p.Ok) ?_ (fun o S ⟨p, c, e1, e2, ok⟩ => ?_)
  · by_cases h1 : p.digits = 0
    · by_cases h2 : p.at_ < p.cells.length
      · have hc : (p.cells.map D.int)[p.at_]? = some (.int p.cells[p.at_]) := by simp [h2]
        have h2' : (p.at_ : Int) < p.cells.length := by omega
        have e3 : (p.at_ : Int) + 1 = ((p.at_ + 1 : Nat) : Int) := by simp
        by_cases h3 : 1000000000000000000 ≤ p.cells[p.at_]
        · simp [h1, h2', d_ixl hc, h3, e3, -Int.natCast_add]
          exact ⟨_, rfl, ⟨h2, by show 0 ≤ p.cells[p.at_] - _; omega, ok.2.2⟩⟩
        · simp [h1, h2', d_ixl hc, h3, e3, -Int.natCast_add, mul_lit, mod_int]
          exact ⟨_, rfl, ⟨h2, Int.le_refl 0, ok.2.2⟩⟩
      · have h2' : ¬ (p.at_ : Int) < p.cells.length := by omega
        simp [h1, h2']
        exact ⟨_, rfl, ok⟩
    · simp [h1]
      exact ⟨_, rfl, ok⟩
  · subst e1 e2
    exact draw_tail ok hm hm2 c none none rfl
theorem draw_post {R S : Sto} {many : Int} (h : PenS R S) (hm : 0 < many) (hm2 : many < 1073741824) : (m__law_draw [.mref 0, .int many] S).post (Drawn R many) := by
  obtain ⟨p, rfl, ok⟩ := h
  exact draw_ok ok hm hm2
/-- a pick of what there is -/
theorem pick_tup {R S : Sto} (h : PenS R S) {xs : List D} (h0 : xs ≠ []) (h1 : xs.length < 1073741824) : (m__law_pick [.mref 0, .tup xs] S).post fun d S' => d ∈ xs ∧ PenS R S' := by
  unfold m__law_pick b__law_pick
  have hp : 0 < xs.length := List.length_pos_iff.mpr h0
  simp
  refine then_post (draw_post h (by omega) (by omega)) fun d S' ⟨⟨r, e, hr⟩, h'⟩ => ?_
  subst e
  have hr' : r < xs.length := by omega
  rw [d_ixt (List.getElem?_eq_getElem hr')]
  simp [h']
theorem pick_lst {R S : Sto} (h : PenS R S) {xs : List D} (h0 : xs ≠ []) (h1 : xs.length < 1073741824) : (m__law_pick [.mref 0, .lst xs] S).post fun d S' => d ∈ xs ∧ PenS R S' := by
  unfold m__law_pick b__law_pick
  have hp : 0 < xs.length := List.length_pos_iff.mpr h0
  simp
  refine then_post (draw_post h (by omega) (by omega)) fun d S' ⟨⟨r, e, hr⟩, h'⟩ => ?_
  subst e
  have hr' : r < xs.length := by omega
  rw [d_ixl (List.getElem?_eq_getElem hr')]
  simp [h']
/-- a sign of a text -/
theorem pick_str {R S : Sto} (h : PenS R S) {z : Str} (h0 : 0 < z.length) (h1 : z.length ≤ sizeLine) {P : Nat → Bool} (hP : ∀ c ∈ z.cps.toList, P c = true) : (m__law_pick [.mref 0, .str z] S).post fun d S' => (∃ c, P c = true ∧ d = .str ⟨#[c]⟩) ∧ PenS R S' := by
  unfold m__law_pick b__law_pick
  have e : dLen [.str z] = some (.int (z.length : Int)) := if_pos h1
  simp [e]
  have hz := szl
  refine then_post (draw_post h (by omega) (by omega)) fun d S' ⟨⟨r, e, hr⟩, h'⟩ => ?_
  subst e
  have hl : z.length = z.cps.toList.length := by simp [Str.length]
  have hr' : r < z.cps.toList.length := by omega
  have e2 : dIx (.str z) (.int (r : Int)) = some (.str ⟨#[z.cps.toList[r]]⟩) := by
    show (if z.length ≤ sizeLine then (atI z.cps.toList (r : Int)).map (fun c => D.str ⟨#[c]⟩) else none) = _
    rw [if_pos h1, atI_nat (List.getElem?_eq_getElem hr')]
    rfl
  rw [e2]
  simp only [optR_some, Res.then_ok, outE_rt, Res.post_ok]
  exact ⟨⟨_, hP _ (List.getElem_mem hr'), rfl⟩, h'⟩
/-- the pen of a script -/
theorem pen_ok (ns : List Int) (h : ns.length ≤ 1000) : (m__law_pen [.scr ns] []).post fun d S => d = .mref 0 ∧ PenS [] S := by
  unfold m__law_pen b__law_pen
  simp
  refine then_post (P := fun o S => S = [] ∧ ∃ (i : Int) (c : Option D), o = .nx [some (.scr ns), some (.int i), c]) ?_ fun o S ⟨e1, i, c, e2⟩ => ?_
  · refine forL_map (P := fun j ρ S => S = [] ∧ ∃ (i : Int) (c : Option D), ρ = [some (.scr ns), some (.int i), c]) ns ⟨rfl, 0, none, rfl⟩ (fun j n _ ρ S ⟨e1, i, c, e2⟩ => ?_) (fun ρ S ⟨e1, i, c, e2⟩ => ⟨e1, i, c, by rw [e2]⟩)
    subst e1 e2
    simp [mul_lit, mod_int, stepP]
  · subst e1 e2
    simp
    exact ⟨⟨ns, 0, 0, 0, i⟩, rfl, Nat.zero_le _, Int.le_refl 0, h⟩

/-! ### names -/
def isLet (c : Nat) : Bool := decide (c ∈ (Str.ofString "abcdefghijklmnopqrstuvwxyz").cps.toList)
def isSgn (c : Nat) : Bool := decide (c ∈ (Str.ofString "abcdefghijklmnopqrstuvwxyz0123456789").cps.toList)
structure NameOk (z : Str) : Prop where
  len : 1 ≤ z.length
  le : z.length ≤ 12
  one : ∀ c, z.cps.toList[0]? = some c → isLet c = true
  all : ∀ c ∈ z.cps.toList, isSgn c = true
theorem len_cps (z : Str) : z.length = z.cps.toList.length := by simp [Str.length]
theorem cps_app (a b : Str) : (a ++ b).cps.toList = a.cps.toList ++ b.cps.toList := by
  show (a.cps ++ b.cps).toList = _
  simp
theorem in_str (c : Nat) (z : Str) (neg : Bool) : dIn neg (.str ⟨#[c]⟩) (.str z) = some (.bl (if neg then !decide (c ∈ z.cps.toList) else decide (c ∈ z.cps.toList))) := by
  have e : dInS ⟨#[c]⟩ z = decide (c ∈ z.cps.toList) := StrLaws.found_one z c
  show some (D.bl (if neg then !dInS ⟨#[c]⟩ z else dInS ⟨#[c]⟩ z)) = _
  rw [e]
theorem sgn_ok : ∀ c, isSgn c = true → c < 1114112 := by
  intro c h
  have h' : c ∈ (Str.ofString "abcdefghijklmnopqrstuvwxyz0123456789").cps.toList := of_decide_eq_true h
  have a : ∀ c ∈ (Str.ofString "abcdefghijklmnopqrstuvwxyz0123456789").cps.toList, c < 1114112 := by decide +kernel
  exact a c h'
theorem let_sgn : ∀ c, isLet c = true → isSgn c = true := by
  intro c h
  have h' : c ∈ (Str.ofString "abcdefghijklmnopqrstuvwxyz").cps.toList := of_decide_eq_true h
  have a : ∀ c ∈ (Str.ofString "abcdefghijklmnopqrstuvwxyz").cps.toList, isSgn c = true := by decide +kernel
  exact a c h'
theorem NameOk.str {z : Str} (h : NameOk z) : PyData.strOk z = true := by
  unfold PyData.strOk
  rw [Array.all_eq_true']
  intro c hc
  have := sgn_ok c (h.all c (by simpa using hc))
  simpa using this
theorem sz12 {n : Nat} (h : n ≤ 12) : n ≤ sizeLine := by rw [szl]; omega
theorem name_is {z : Str} (h : NameOk z) (S : Sto) : m_is_name [.str z] S = .ok (.bl true) S := by
  unfold m_is_name b_is_name
  have hl := h.len
  have h2 := h.le
  have e : dLen [.str z] = some (.int (z.length : Int)) := if_pos (sz12 h2)
  have hc0 : 0 < z.cps.toList.length := by rw [← len_cps]; omega
  have i1 := h.one _ (List.getElem?_eq_getElem hc0)
  have e0 : dIx (.str z) (.int 0) = some (.str ⟨#[z.cps.toList[0]]⟩) := by
    show (if z.length ≤ sizeLine then (atI z.cps.toList ((0 : Nat) : Int)).map (fun c => D.str ⟨#[c]⟩) else none) = _
    rw [if_pos (sz12 h2), atI_nat (List.getElem?_eq_getElem hc0)]
    rfl
  have i2 : z.cps.toList[0] ∈ (Str.ofString "abcdefghijklmnopqrstuvwxyz").cps.toList := of_decide_eq_true i1
  have h3 : (1 : Int) ≤ z.length := by omega
  have h4 : (z.length : Int) ≤ 12 := by omega
  simp [isTyS, e, h3, h4, e0, in_str]
  rw [if_pos (by simpa using i2)]
  simp [signsD]
  rw [compL_map (g := fun _ => D.bl true) _ (fun c hc => by
    have : c ∈ (Str.ofString "abcdefghijklmnopqrstuvwxyz0123456789").cps.toList := of_decide_eq_true (h.all c hc)
    simp at this
    simp [in_str, this])]
  have e5 : dAll [.lst (z.cps.toList.map fun _ => D.bl true)] = some (.bl true) := by
    show (blsD (z.cps.toList.map fun _ => D.bl true)).map (fun ns => D.bl (ns.all id)) = _
    rw [show (z.cps.toList.map fun _ => D.bl true) = (z.cps.toList.map fun _ => true).map D.bl by simp, blsD_map]
    simp
  have e6 : z.cps.size ≤ sizeLine := sz12 h2
  simp [e6, e5]

theorem join_one : ∀ cs : List Nat, (Str.join (Str.ofString "") (cs.map fun c => (⟨#[c]⟩ : Str))).cps.toList = cs
  | [] => rfl
  | [c] => rfl
  | c :: d :: cs => by
    have ih := join_one (d :: cs)
    show ((⟨#[c]⟩ : Str) ++ (Str.ofString "") ++ Str.join (Str.ofString "") ((d :: cs).map fun c => (⟨#[c]⟩ : Str))).cps.toList = _
    rw [cps_app, cps_app, ih]
    rfl
abbrev LETS : Str := Str.ofString "abcdefghijklmnopqrstuvwxyz"
abbrev SGNS : Str := Str.ofString "abcdefghijklmnopqrstuvwxyz0123456789"
theorem lets_len : LETS.cps.toList.length = 26 := by decide +kernel
theorem sgns_len : SGNS.cps.toList.length = 36 := by decide +kernel
theorem let_in : ∀ c ∈ LETS.cps.toList, isLet c = true := fun c h => by
  unfold isLet
  rw [decide_eq_true_eq]
  exact h
theorem sgn_in : ∀ c ∈ SGNS.cps.toList, isSgn c = true := fun c h => by
  unfold isSgn
  rw [decide_eq_true_eq]
  exact h

theorem sum_ones {α : Type} : ∀ cs : List α, (cs.map fun _ => 1).sum = cs.length
  | [] => rfl
  | c :: cs => by
    rw [List.map_cons, List.sum_cons, sum_ones cs, List.length_cons]
    omega
/-- a drawn name -/
theorem name_ok {R S : Sto} (h : PenS R S) : (m__law_name [.mref 0] S).post fun d S' => (∃ z, d = .str z ∧ NameOk z) ∧ PenS R S' := by
  unfold m__law_name b__law_name
  simp
  refine then_post (draw_post h (by decide) (by decide)) fun d S' ⟨⟨r, e, hr⟩, h⟩ => ?_
  subst e
  have hr' : r < 6 := by omega
  obtain ⟨k, ek, hk⟩ : ∃ k : Nat, dIx (.lst [.int 0, .int 0, .int 1, .int 2, .int 5, .int 11]) (.int (r : Int)) = some (.int (k : Int)) ∧ k ≤ 11 := by
    have cases6 : r = 0 ∨ r = 1 ∨ r = 2 ∨ r = 3 ∨ r = 4 ∨ r = 5 := by omega
    rcases cases6 with rfl | rfl | rfl | rfl | rfl | rfl
    · exact ⟨0, d_ixl rfl, by decide⟩
    · exact ⟨0, d_ixl rfl, by decide⟩
    · exact ⟨1, d_ixl rfl, by decide⟩
    · exact ⟨2, d_ixl rfl, by decide⟩
    · exact ⟨5, d_ixl rfl, by decide⟩
    · exact ⟨11, d_ixl rfl, by decide⟩
  simp [ek]
  refine then_post (pick_str h (z := LETS) (by rw [len_cps, lets_len]; decide) (szk (by rw [len_cps, lets_len]; decide)) let_in) fun d S1 hh => ?_
  have h := hh.2
  have h1 := hh.1
  cases h1 with
  | intro c h2 => 
  have hc := h2.1
  have e := h2.2
  clear h2 hh
  subst e
  rw [rg1 (by omega)]
  simp
  refine then_post (compL_post (I := PenS R) (R := fun _ y => ∃ c, isSgn c = true ∧ y = .str ⟨#[c]⟩) _ _ h fun d hd S h => ?_) fun ys S2 ⟨h, es⟩ => ?_
  · simp
    refine then_post (pick_str h (z := SGNS) (by rw [len_cps, sgns_len]; decide) (szk (by rw [len_cps, sgns_len]; decide)) sgn_in) fun d S1 ⟨⟨c, hc, e⟩, h⟩ => ?_
    subst e
    simp
    exact ⟨h, hc⟩
  · have hl := es.length
    simp at hl
    have : ∃ cs : List Nat, ys = cs.map (fun c => D.str ⟨#[c]⟩) ∧ ∀ c ∈ cs, isSgn c = true := by
      have := Each.pick (enc := fun c => D.str ⟨#[c]⟩) (W := fun _ c => isSgn c = true) es fun a b ⟨c, h1, h2⟩ => ⟨c, h2, h1⟩
      obtain ⟨cs, e1, e2⟩ := this
      exact ⟨cs, e1, fun c hc => (Each.mem e2 c hc).elim fun _ h => h.2⟩
    obtain ⟨cs, rfl, hcs⟩ := this
    simp at hl
    have hz : cs.length ≤ sizeLine := sz12 (by omega)
    simp [hz]
    have ej : dJoin (.str (Str.ofString "")) (.lst (cs.map fun c => D.str ⟨#[c]⟩)) = some (.str (Txt.join (Str.ofString "") (cs.map fun c => ⟨#[c]⟩))) := by
      show (strsD (cs.map fun c => D.str ⟨#[c]⟩)).bind (joinS (Str.ofString "")) = _
      rw [show (cs.map fun c => D.str ⟨#[c]⟩) = (cs.map fun c => (⟨#[c]⟩ : Str)).map D.str by simp, strsD_map]
      refine (if_pos ?_ : joinS _ _ = _)
      have e1 : ((cs.map fun c => (⟨#[c]⟩ : Str)).map (·.length)).sum = cs.length := by
        rw [List.map_map, show ((fun x => x.length) ∘ fun c => ({ cps := #[c] } : Str)) = fun _ => 1 from rfl]
        exact sum_ones cs
      rw [e1]
      have e0 : (Str.ofString "").length = 0 := by decide +kernel
      rw [e0]
      omega
    rw [ej]
    simp
    have ez : ((⟨#[c]⟩ : Str) ++ Txt.join (Str.ofString "") (cs.map fun c => (⟨#[c]⟩ : Str))).cps.toList = c :: cs := by
      rw [cps_app, TL.join_eq, join_one]
      rfl
    have el : (⟨#[c]⟩ : Str).length + (Txt.join (Str.ofString "") (cs.map fun c => (⟨#[c]⟩ : Str))).length ≤ sizeLine := by
      rw [len_cps, len_cps, TL.join_eq, join_one]
      exact sz12 (by simp; omega)
    have ea : dAdd (.str ⟨#[c]⟩) (.str (Txt.join (Str.ofString "") (cs.map fun c => (⟨#[c]⟩ : Str)))) = some (.str ((⟨#[c]⟩ : Str) ++ Txt.join (Str.ofString "") (cs.map fun c => (⟨#[c]⟩ : Str)))) := if_pos el
    rw [ea]
    simp
    refine ⟨⟨?_, ?_, fun x hx => ?_, fun x hx => ?_⟩, h⟩
    · rw [len_cps, ez]; simp
    · rw [len_cps, ez]; simp; omega
    · rw [ez] at hx
      simp at hx
      subst hx
      exact hc
    · rw [ez] at hx
      rcases List.mem_cons.mp hx with rfl | hx
      · exact let_sgn _ hc
      · exact hcs x hx

theorem sub_len {α : Type} [BEq α] [LawfulBEq α] : ∀ {l m : List α}, l.Nodup → (∀ x ∈ l, x ∈ m) → l.length ≤ m.length
  | [], _, _, _ => Nat.zero_le _
  | x :: l, m, h, hs => by
    obtain ⟨h1, h2⟩ := List.nodup_cons.mp h
    have hx := hs x List.mem_cons_self
    have := sub_len (l := l) (m := m.erase x) h2 fun y hy => by
      have hne : y ≠ x := fun z => h1 (z ▸ hy)
      exact (List.mem_erase_of_ne hne).mpr (hs y (List.mem_cons_of_mem _ hy))
    rw [List.length_erase_of_mem hx] at this
    have hp : 0 < m.length := List.length_pos_of_mem hx
    rw [List.length_cons]
    omega
/-- z, a figure, q, zeros -/
def zn (lap k : Nat) : Str := ⟨([122, 48 + lap, 113] ++ List.replicate k 48).toArray⟩
theorem zn_cps (lap k : Nat) : (zn lap k).cps.toList = [122, 48 + lap, 113] ++ List.replicate k 48 := by
  unfold zn
  simp
theorem zn_len (lap k : Nat) : (zn lap k).length = 3 + k := by
  rw [len_cps, zn_cps]
  simp
  omega
theorem zn_inj {lap k j : Nat} (h : zn lap k = zn lap j) : k = j := by
  have := congrArg Str.length h
  rw [zn_len, zn_len] at this
  omega
theorem str_ext {a b : Str} (h : a.cps.toList = b.cps.toList) : a = b := PySem.W.str_of_cps h
theorem zn_zero : ∀ lap : Nat, lap < 10 → ((Str.ofString "z" ++ ((toString (lap : Int) : String) : Str)) ++ Str.ofString "q") = zn lap 0 := by
  intro lap h
  have : ∀ lap ∈ List.range 10, ((Str.ofString "z" ++ ((toString (lap : Int) : String) : Str)) ++ Str.ofString "q") = zn lap 0 := by decide +kernel
  exact this lap (List.mem_range.mpr h)
theorem zn_more (lap k : Nat) : zn lap k ++ Str.ofString "0" = zn lap (k + 1) := by
  apply str_ext
  rw [cps_app, zn_cps, zn_cps]
  rw [show (Str.ofString "0").cps.toList = [48] from by decide +kernel, List.append_assoc, ← List.replicate_succ']
theorem zn_ok {lap k : Nat} (h : lap < 10) (hk : k ≤ 9) : NameOk (zn lap k) := by
  have a : ∀ lap ∈ List.range 10, isSgn (48 + lap) = true := by decide +kernel
  have b : isLet 122 = true ∧ isSgn 122 = true ∧ isSgn 113 = true ∧ isSgn 48 = true := by decide +kernel
  refine ⟨by rw [zn_len]; omega, by rw [zn_len]; omega, fun c hc => ?_, fun c hc => ?_⟩
  · rw [zn_cps] at hc
    simp at hc
    subst hc
    exact b.1
  · rw [zn_cps] at hc
    rcases List.mem_append.mp hc with hc | hc
    · simp at hc
      rcases hc with rfl | rfl | rfl
      · exact b.2.1
      · exact a lap (List.mem_range.mpr h)
      · exact b.2.2.1
    · obtain ⟨_, rfl⟩ := List.mem_replicate.mp hc
      exact b.2.2.2
theorem zn_bound {lap k : Nat} {ns : List Str} (h : ∀ i, i ≤ k → zn lap i ∈ ns) : k + 1 ≤ ns.length := by
  have := sub_len (l := (List.range (k + 1)).map (zn lap)) (m := ns) (by
    rw [List.nodup_iff_pairwise_ne, List.pairwise_map]
    refine List.Pairwise.imp ?_ List.nodup_range
    intro a b h e
    exact h (zn_inj e)) (fun x hx => by
      obtain ⟨i, hi, rfl⟩ := List.mem_map.mp hx
      exact h i (by have := List.mem_range.mp hi; omega))
  simpa using this
structure NamesOk (ns : List Str) : Prop where
  nd : ns.Nodup
  ok : ∀ z ∈ ns, NameOk z
theorem names_ok {R S : Sto} (h : PenS R S) {many : Nat} (hm : many ≤ 9) : (m__law_names [.mref 0, .int (many : Int)] S).post fun d S' => (∃ ns : List Str, d = .tup (ns.map .str) ∧ ns.length = many ∧ NamesOk ns) ∧ PenS R S' := by
  unfold m__law_names b__law_names
  simp
  rw [rg1 (by omega)]
  simp
  refine then_post (P := fun o S => PenS R S ∧ ∃ (ns : List Str) (a b : Option D), o = .nx [some (.mref 0), some (.int (many : Int)), some (.lst (ns.map .str)), a, b] ∧ ns.length = many ∧ NamesOk ns) ?_ fun o S ⟨h, ns, a, b, e, hl, ok⟩ => ?_
  · refine forL_map (P := fun j ρ S => PenS R S ∧ ∃ (ns : List Str) (a b : Option D), ρ = [some (.mref 0), some (.int (many : Int)), some (.lst (ns.map .str)), a, b] ∧ ns.length = j ∧ NamesOk ns) (List.range many)
      ⟨h, [], none, none, rfl, rfl, ⟨List.nodup_nil, fun z hz => by cases hz⟩⟩ (fun j lap hj ρ S ⟨h, ns, a, b, e, hl, ok⟩ => ?_) (fun ρ S ⟨h, ns, a, b, e, hl, ok⟩ => ⟨h, ns, a, b, by rw [e], by simpa using hl, ok⟩)
    have hlap : lap = j := by
      obtain ⟨h1, h2⟩ := List.getElem?_eq_some_iff.mp hj
      rw [List.getElem_range] at h2
      exact h2.symm
    have hj' : j < many := by
      have := (List.getElem?_eq_some_iff.mp hj).1
      simpa using this
    subst hlap e
    have hst : ∀ z ∈ ns, PyData.strOk z = true := fun z hz => (ok.ok z hz).str
    simp
    refine then_post (name_ok h) fun d S1 ⟨⟨z, e, oz⟩, h⟩ => ?_
    subst e
    simp [encStr.mem oz.str hst]
    refine then_post (P := fun o S => PenS R S ∧ ∃ y, o = .nx [some (.mref 0), some (.int (many : Int)), some (.lst (ns.map .str)), some (.int (lap : Int)), some (.str y)] ∧ NameOk y ∧ (y ∉ ns ∨ y = zn lap 0)) ?_ fun o S ⟨h, y, e, oy, hy⟩ => ?_
    · by_cases hz : z ∈ ns
      · have hlog : (lap : Int).natAbs.log2 < 1920 := lt_lg (by decide) (by
          have : (lap : Int).natAbs < 10 := by omega
          have e : (10 : Nat) ≤ 2 ^ 1920 := by decide +kernel
          omega)
        have e1 : dStrOf [.int (lap : Int)] = some (.str ((toString (lap : Int) : String) : Str)) := if_pos hlog
        have lz : (Str.ofString "z").length + (((toString (lap : Int) : String) : Str)).length = 2 ∧ (Str.ofString "z" ++ ((toString (lap : Int) : String) : Str)).length + (Str.ofString "q").length = 3 := by
          have : ∀ lap ∈ List.range 10, (Str.ofString "z").length + (((toString (lap : Int) : String) : Str)).length = 2 ∧ (Str.ofString "z" ++ ((toString (lap : Int) : String) : Str)).length + (Str.ofString "q").length = 3 := by decide +kernel
          exact this lap (List.mem_range.mpr (by omega))
        have e2 : dAdd (.str (Str.ofString "z")) (.str ((toString (lap : Int) : String) : Str)) = some (.str (Str.ofString "z" ++ ((toString (lap : Int) : String) : Str))) := if_pos (by rw [lz.1]; exact szk (by decide))
        have e3 : dAdd (.str (Str.ofString "z" ++ ((toString (lap : Int) : String) : Str))) (.str (Str.ofString "q")) = some (.str (zn lap 0)) := by
          rw [← zn_zero lap (by omega)]
          exact if_pos (by rw [lz.2]; exact szk (by decide))
        obtain ⟨ts, u, f1, f2, f3⟩ : ∃ ts u : Str, dStrOf [.int (lap : Int)] = some (.str ts) ∧ dAdd (.str (Str.ofString "z")) (.str ts) = some (.str u) ∧ dAdd (.str u) (.str (Str.ofString "q")) = some (.str (zn lap 0)) := ⟨_, _, e1, e2, e3⟩
        simp [hz, f1, f2, f3, h]
        exact zn_ok (lap := lap) (k := 0) (by omega) (by omega)
      · simp [hz, h, oz]
    · subst e
      simp
      refine then_post (P := fun o S => PenS R S ∧ ∃ y, o = .nx [some (.mref 0), some (.int (many : Int)), some (.lst (ns.map .str)), some (.int (lap : Int)), some (.str y)] ∧ NameOk y ∧ y ∉ ns) ?_ fun o S ⟨h, y, e, oy, hy⟩ => ?_
      · refine whL_run (P := fun m ρ S => PenS R S ∧ ∃ y, ρ = [some (.mref 0), some (.int (many : Int)), some (.lst (ns.map .str)), some (.int (lap : Int)), some (.str y)] ∧ NameOk y ∧ (y ∉ ns ∨ ∃ k, y = zn lap k ∧ m + k = ns.length + 1 ∧ ∀ i, i < k → zn lap i ∈ ns)) (fun m ρ S ⟨h, y, e, oy, hy⟩ => ?_) FUEL (ns.length + 1) _ _ (by unfold FUEL; omega) ⟨h, y, rfl, oy, hy.imp id fun e => ⟨0, e, rfl, fun i hi => absurd hi (Nat.not_lt_zero _)⟩⟩
        subst e
        simp [encStr.mem oy.str hst]
        by_cases hin : y ∈ ns
        · rcases hy with hy | ⟨k, rfl, hk, hb⟩
          · exact absurd hin hy
          · have hb' : ∀ i, i ≤ k → zn lap i ∈ ns := fun i hi => by
              by_cases z : i = k
              · subst z; exact hin
              · exact hb i (by omega)
            have hkk := zn_bound hb'
            have e0 : (Str.ofString "0").length = 1 := by decide +kernel
            have ea : dAdd (.str (zn lap k)) (.str (Str.ofString "0")) = some (.str (zn lap (k + 1))) := by
              rw [← zn_more]
              exact if_pos (by rw [zn_len, e0]; exact szk (by omega))
            simp [hin, ea, stepP]
            exact ⟨m - 1, by omega, h, zn_ok (by omega) (by omega), .inr ⟨k + 1, rfl, by omega, fun i hi => hb' i (by omega)⟩⟩
        · simp [hin, h, oy]
      · subst e
        have hz : ns.length < sizeLine := by rw [szl]; omega
        have em : mAppend (ns.map D.str) [.str y] = some ((ns ++ [y]).map D.str, .non) := by
          show (if _ then _ else _) = _
          rw [if_pos (by simpa using hz)]
          simp
        simp [em, stepP, h, hl]
        refine ⟨ns ++ [y], by simp, by simp [hl], ?_, fun z hz => ?_⟩
        · rw [List.nodup_append]
          exact ⟨ok.nd, by simp, fun a ha b hb => by
            have : b = y := by simpa using hb
            subst this
            exact fun e => hy (e ▸ ha)⟩
        · rcases List.mem_append.mp hz with hz | hz
          · exact ok.ok z hz
          · have : z = y := by simpa using hz
            subst this
            exact oy
  · subst e
    simp
    exact ⟨⟨ns, rfl, hl, ok⟩, h⟩

/-! ### shops -/
structure ShopT where
  stocks : List (Str × Nat × Option Nat × Nat)
  pieces : List (Str × Nat × Nat)
  kerf : Nat
def optD : Option Nat → D
  | none => .non
  | some n => .int (n : Int)
def stockD (s : Str × Nat × Option Nat × Nat) : D := .tup [.str s.1, .int (s.2.1 : Int), optD s.2.2.1, .int (s.2.2.2 : Int)]
def pieceD (p : Str × Nat × Nat) : D := .tup [.str p.1, .int (p.2.1 : Int), .int (p.2.2 : Int)]
def shopD (a b c : D) : D := .obj "Shop" [("stocks", a), ("pieces", b), ("kerf", c)]
def ShopT.o (s : ShopT) : D := shopD (.tup (s.stocks.map stockD)) (.tup (s.pieces.map pieceD)) (.int (s.kerf : Int))
def ShopT.t (s : ShopT) : D := .tup [.tup (s.stocks.map stockD), .tup (s.pieces.map pieceD), .int (s.kerf : Int)]
structure StocksOk (ss : List (Str × Nat × Option Nat × Nat)) : Prop where
  len : 1 ≤ ss.length ∧ ss.length ≤ 4
  nm : NamesOk (ss.map (·.1))
  pos : ∀ s ∈ ss, 1 ≤ s.2.1
structure PiecesOk (ps : List (Str × Nat × Nat)) : Prop where
  len : 1 ≤ ps.length ∧ ps.length ≤ 6
  nm : NamesOk (ps.map (·.1))
  pos : ∀ s ∈ ps, 1 ≤ s.2.1
section
variable (a b c : D) (S : Sto)
@[simp] theorem sh_stocks : attrD at_stocks "stocks" (shopD a b c) S = .ok a S := by
  unfold attrD shopD
  simp only
  rw [if_pos (by decide +kernel)]
  rfl
@[simp] theorem sh_pieces : attrD at_pieces "pieces" (shopD a b c) S = .ok b S := by
  unfold attrD shopD
  simp only
  rw [if_pos (by decide +kernel)]
  rfl
@[simp] theorem sh_kerf : attrD at_kerf "kerf" (shopD a b c) S = .ok c S := by
  unfold attrD shopD
  simp only
  rw [if_pos (by decide +kernel)]
  rfl
end
@[simp] theorem isTyS_tup : isTyS "tuple" "tuple" = true := by decide +kernel
@[simp] theorem isTyS_lst : isTyS "list" "list" = true := by decide +kernel
@[simp] theorem isTyS_int : isTyS "int" "int" = true := by decide +kernel
@[simp] theorem isTyS_str : isTyS "str" "str" = true := by decide +kernel
@[simp] theorem isTyS_il : isTyS "int" "list" = false := by decide +kernel
@[simp] theorem isTyS_it : isTyS "int" "tuple" = false := by decide +kernel
@[simp] theorem isTyS_is : isTyS "int" "str" = false := by decide +kernel
@[simp] theorem isTyS_ib : isTyS "int" "bool" = false := by decide +kernel
@[simp] theorem isTyS_tl : isTyS "tuple" "list" = false := by decide +kernel
@[simp] theorem isTyS_ti : isTyS "tuple" "int" = false := by decide +kernel
@[simp] theorem isTyS_ts : isTyS "tuple" "str" = false := by decide +kernel
@[simp] theorem isTyS_lt : isTyS "list" "tuple" = false := by decide +kernel
@[simp] theorem isTyS_bt : isTyS "bool" "tuple" = false := by decide +kernel
@[simp] theorem isTyS_bs : isTyS "bool" "str" = false := by decide +kernel
@[simp] theorem isTyS_bi : isTyS "bool" "int" = true := by decide +kernel
@[simp] theorem isTyS_bb : isTyS "bool" "bool" = true := by decide +kernel
@[simp] theorem isTyS_nt : isTyS "NoneType" "tuple" = false := by decide +kernel
@[simp] theorem isTyS_ns : isTyS "NoneType" "str" = false := by decide +kernel
@[simp] theorem isTyS_ni : isTyS "NoneType" "int" = false := by decide +kernel
@[simp] theorem isTyS_st : isTyS "str" "tuple" = false := by decide +kernel
@[simp] theorem isTyS_si : isTyS "str" "int" = false := by decide +kernel
@[simp] theorem whole_int (i : Int) (S : Sto) : m_is_whole [.int i] S = .ok (.bl true) S := by
  unfold m_is_whole b_is_whole
  simp
@[simp] theorem number_int (i : Int) (S : Sto) : m_is_number [.int i] S = .ok (.bl (decide (0 ≤ i))) S := by
  unfold m_is_number b_is_number
  simp
theorem number_nat (n : Nat) (S : Sto) : m_is_number [.int (n : Int)] S = .ok (.bl true) S := by simp
@[simp] theorem need_length_nat {n : Nat} (h : 1 ≤ n) (S : Sto) : m_need_length [.int (n : Int)] S = .ok .non S := by
  unfold m_need_length b_need_length m_is_length b_is_length
  have h' : (1 : Int) ≤ n := by omega
  simp [h']
theorem need_new {z : Str} {ns : List Str} (oz : NameOk z) (on : ∀ y ∈ ns, NameOk y) (h : z ∉ ns) (S : Sto) : m_need_new_name [.str z, .lst (ns.map .str)] S = .ok .non S := by
  unfold m_need_new_name b_need_new_name
  simp [name_is oz, encStr.mem oz.str (fun y hy => (on y hy).str), h]
theorem noMs_strs (ns : List Str) : noMs (ns.map .str) = true := by
  induction ns with
  | nil => rfl
  | cons n r ih =>
    show (noM (.str n) && noMs (r.map .str)) = true
    rw [ih]
    rfl
theorem app_str {ns : List Str} {z : Str} (h : ns.length ≤ 1000) : mAppend (ns.map D.str) [.str z] = some ((ns ++ [z]).map D.str, .non) := by
  show (if _ then _ else _) = _
  rw [if_pos (by rw [List.length_map, szl]; omega)]
  simp
theorem take_next {α : Type} {xs : List α} {j : Nat} {x : α} (h : xs[j]? = some x) : xs.take (j + 1) = xs.take j ++ [x] := by
  rw [List.take_add_one, h]
  rfl
theorem not_before {xs : List Str} (nd : xs.Nodup) {j : Nat} {x : Str} (h : xs[j]? = some x) : x ∉ xs.take j := by
  intro hx
  obtain ⟨i, hi, e⟩ := List.mem_iff_getElem.mp hx
  rw [List.length_take] at hi
  rw [List.getElem_take] at e
  obtain ⟨hj, e2⟩ := List.getElem?_eq_some_iff.mp h
  exact List.pairwise_iff_getElem.mp nd i j (by omega) hj (by omega) (e.trans e2.symm)
theorem need_stocks_ok {ss : List (Str × Nat × Option Nat × Nat)} (ok : StocksOk ss) (S : Sto) : m_need_stocks [.tup (ss.map stockD)] S = .ok .non S := by
  unfold m_need_stocks b_need_stocks
  obtain ⟨l1, l2⟩ := ok.len
  have h1 : (1 : Int) ≤ ss.length := by omega
  have h2 : (ss.length : Int) ≤ 4 := by omega
  simp [h1, h2]
  apply post_ok
  refine then_post (P := fun o S' => S' = S ∧ ∃ ρ, o = .nx ρ) ?_ fun o S' ⟨e, ρ, e2⟩ => ?_
  · refine forL_map (P := fun j ρ S' => S' = S ∧ ∃ a b c d e, ρ = [some (.tup (ss.map stockD)), some (.lst (((ss.take j).map (·.1)).map .str)), a, b, c, d, e]) ss ⟨rfl, none, none, none, none, none, rfl⟩ (fun j x hj ρ S' ⟨e1, a, b, c, d, e, e2⟩ => ?_) fun ρ S' ⟨e1, _⟩ => ⟨e1, ρ, rfl⟩
    subst e1 e2
    obtain ⟨z, n, m, p⟩ := x
    have hx := List.mem_of_getElem? hj
    have hz : (ss.map (·.1))[j]? = some z := by rw [List.getElem?_map, hj]; rfl
    have oz := ok.nm.ok z (List.mem_of_getElem? hz)
    have hp := ok.pos _ hx
    have hn : z ∉ (ss.take j).map (·.1) := by
      rw [List.map_take]
      exact not_before ok.nm.nd hz
    have hon : ∀ y ∈ (ss.take j).map (·.1), NameOk y := fun y hy => ok.nm.ok y (by
      rw [List.map_take] at hy
      exact List.mem_of_mem_take hy)
    have hap : ((ss.take j).map (·.1)).length ≤ 1000 := by rw [List.length_map, List.length_take]; omega
    have hno : noMs [.str z, .lst (((ss.take j).map (·.1)).map .str)] = true := by
      show (noM (.str z) && (noMs (((ss.take j).map (·.1)).map .str) && true)) = true
      rw [noMs_strs]
      rfl
    have hap2 := app_str (z := z) hap
    have hnn := need_new oz hon hn []
    have etk : (ss.take (j + 1)).map (·.1) = (ss.take j).map (·.1) ++ [z] := by rw [take_next hj, List.map_append]; rfl
    rw [etk]
    generalize (ss.take j).map (·.1) = ns at *
    cases m with
    | none => simp [stockD, optD, hno, hnn, flatD, need_length_nat hp, hap2, stepP]
    | some m => simp [stockD, optD, hno, hnn, flatD, need_length_nat hp, hap2, stepP]
  · subst e e2
    simp
theorem need_pieces_ok {ss : List (Str × Nat × Nat)} (ok : PiecesOk ss) (S : Sto) : m_need_pieces [.tup (ss.map pieceD)] S = .ok .non S := by
  unfold m_need_pieces b_need_pieces
  obtain ⟨l1, l2⟩ := ok.len
  have h1 : (1 : Int) ≤ ss.length := by omega
  have h2 : (ss.length : Int) ≤ 6 := by omega
  simp [h1, h2]
  apply post_ok
  refine then_post (P := fun o S' => S' = S ∧ ∃ ρ, o = .nx ρ) ?_ fun o S' ⟨e, ρ, e2⟩ => ?_
  · refine forL_map (P := fun j ρ S' => S' = S ∧ ∃ a b c d, ρ = [some (.tup (ss.map pieceD)), some (.lst (((ss.take j).map (·.1)).map .str)), a, b, c, d]) ss ⟨rfl, none, none, none, none, rfl⟩ (fun j x hj ρ S' ⟨e1, a, b, c, d, e2⟩ => ?_) fun ρ S' ⟨e1, _⟩ => ⟨e1, ρ, rfl⟩
    subst e1 e2
    obtain ⟨z, n, p⟩ := x
    have hx := List.mem_of_getElem? hj
    have hz : (ss.map (·.1))[j]? = some z := by rw [List.getElem?_map, hj]; rfl
    have oz := ok.nm.ok z (List.mem_of_getElem? hz)
    have hp := ok.pos _ hx
    have hn : z ∉ (ss.take j).map (·.1) := by
      rw [List.map_take]
      exact not_before ok.nm.nd hz
    have hon : ∀ y ∈ (ss.take j).map (·.1), NameOk y := fun y hy => ok.nm.ok y (by
      rw [List.map_take] at hy
      exact List.mem_of_mem_take hy)
    have hap : ((ss.take j).map (·.1)).length ≤ 1000 := by rw [List.length_map, List.length_take]; omega
    have hno : noMs [.str z, .lst (((ss.take j).map (·.1)).map .str)] = true := by
      show (noM (.str z) && (noMs (((ss.take j).map (·.1)).map .str) && true)) = true
      rw [noMs_strs]
      rfl
    have hap2 := app_str (z := z) hap
    have hnn := need_new oz hon hn []
    have etk : (ss.take (j + 1)).map (·.1) = (ss.take j).map (·.1) ++ [z] := by rw [take_next hj, List.map_append]; rfl
    rw [etk]
    generalize (ss.take j).map (·.1) = ns at *
    simp [pieceD, hno, hnn, flatD, need_length_nat hp, hap2, stepP]
  · subst e e2
    simp
theorem put1 (a : D) : putD (Str.ofString "stocks") a [] = [(Str.ofString "stocks", a)] := rfl
theorem put2 (a b : D) : putD (Str.ofString "pieces") b [(Str.ofString "stocks", a)] = [(Str.ofString "stocks", a), (Str.ofString "pieces", b)] := by
  unfold putD
  rw [if_neg (by decide +kernel)]
  rfl
theorem put3 (a b c : D) : putD (Str.ofString "kerf") c [(Str.ofString "stocks", a), (Str.ofString "pieces", b)] = [(Str.ofString "stocks", a), (Str.ofString "pieces", b), (Str.ofString "kerf", c)] := by
  unfold putD
  rw [if_neg (by decide +kernel)]
  unfold putD
  rw [if_neg (by decide +kernel)]
  rfl
/-- Shop(stocks, pieces, kerf) -/
theorem init_ok (s : ShopT) (h1 : StocksOk s.stocks) (h2 : PiecesOk s.pieces) (S : Sto) : m_Shop_init [.tup (s.stocks.map stockD), .tup (s.pieces.map pieceD), .int (s.kerf : Int)] S = .ok s.o S := by
  unfold m_Shop_init b_Shop_init
  have c1 : (Str.ofString "Shop" : Str) ∈ at_stocks := by decide +kernel
  have c2 : (Str.ofString "Shop" : Str) ∈ at_pieces := by decide +kernel
  have c3 : (Str.ofString "Shop" : Str) ∈ at_kerf := by decide +kernel
  simp [need_stocks_ok h1, need_pieces_ok h2, c1, c2, c3, put1, put2, put3]
  rfl

/-! ### drawn shops of few pieces -/
structure ShopT.Few (s : ShopT) (bars most : Nat) : Prop where
  st : StocksOk s.stocks
  pc : PiecesOk s.pieces
  s3 : s.stocks.length ≤ bars
  pm : s.pieces.length ≤ most
  kf : s.kerf ≤ 2
  sl : ∀ x ∈ s.stocks, 5 ≤ x.2.1 ∧ x.2.1 ≤ 14 ∧ x.2.2.2 ≤ 5 ∧ ∀ m, x.2.2.1 = some m → m ≤ 4
  pl : ∀ x ∈ s.pieces, 2 ≤ x.2.1 ∧ x.2.1 ≤ 7 ∧ x.2.2 ≤ 3
theorem NamesOk.part {ns : List Str} (h : NamesOk ns) (o k : Nat) : NamesOk ((ns.drop o).take k) where
  nd := (h.nd.sublist (List.drop_sublist o ns)).sublist (List.take_sublist k _)
  ok := fun z hz => h.ok z (List.mem_of_mem_drop (List.mem_of_mem_take hz))
theorem names_part {α : Type} {f : α → Str} {ns : List Str} {ss : List α} {o k : Nat} (hl : ss.length = k) (hk : o + k ≤ ns.length) (h : ∀ (i : Nat) (s : α), ss[i]? = some s → ns[o + i]? = some (f s)) : ss.map f = (ns.drop o).take k := by
  apply List.ext_getElem?
  intro i
  rw [List.getElem?_map, List.getElem?_take, List.getElem?_drop]
  by_cases hi : i < k
  · rw [if_pos hi]
    have : i < ss.length := by omega
    rw [List.getElem?_eq_getElem this]
    exact (h i _ (List.getElem?_eq_getElem this)).symm
  · rw [if_neg hi, List.getElem?_eq_none (by omega)]
    rfl
theorem few_ok {R S : Sto} (h : PenS R S) {bars most : Nat} (hm : 1 ≤ most ∧ most ≤ 5) (hb : 1 ≤ bars ∧ bars ≤ 4) : (m__law_few_shop [.mref 0, .int (bars : Int), .int (most : Int)] S).post fun d S' => (∃ s : ShopT, d = s.t ∧ s.Few bars most) ∧ PenS R S' := by
  unfold m__law_few_shop b__law_few_shop
  simp
  rw [show (bars : Int) + (most : Int) = ((bars + most : Nat) : Int) by omega]
  refine then_post (names_ok h (many := bars + most) (by omega)) fun d S1 ⟨⟨ns, e, hl, on⟩, h⟩ => ?_
  subst e
  refine then_post (pick_lst h (by simp) (by decide)) fun d S2 ⟨hd, h⟩ => ?_
  obtain ⟨kf, rfl, hkf'⟩ : ∃ k : Nat, d = .int (k : Int) ∧ k ≤ 2 := by
    simp at hd
    rcases hd with rfl | rfl | rfl
    · exact ⟨0, rfl, by decide⟩
    · exact ⟨1, rfl, by decide⟩
    · exact ⟨2, rfl, by decide⟩
  clear hd
  refine then_post (draw_post h (by omega) (by omega)) fun d S4 ⟨⟨ks, e, hks⟩, h⟩ => ?_
  subst e
  simp
  rw [show (1 : Int) + (ks : Int) = ((1 + ks : Nat) : Int) by omega, rg1 (by omega)]
  simp
  refine then_post (compL_post (I := PenS R) (R := fun d y => ∃ (i : Nat) (s : Str × Nat × Option Nat × Nat), d = .int (i : Int) ∧ y = stockD s ∧ ns[0 + i]? = some s.1 ∧ 5 ≤ s.2.1 ∧ s.2.1 ≤ 14 ∧ s.2.2.2 ≤ 5 ∧ ∀ m, s.2.2.1 = some m → m ≤ 4) _ _ h fun d hd S h => ?_) fun ys S5 ⟨h, es⟩ => ?_
  · obtain ⟨i, hi, rfl⟩ := List.mem_map.mp hd
    have hi' : i < ns.length := by have := List.mem_range.mp hi; omega
    have hn : (ns.map D.str)[i]? = some (.str ns[i]) := by rw [List.getElem?_map, List.getElem?_eq_getElem hi']; rfl
    simp [d_ixt hn]
    refine then_post (draw_post h (by omega) (by omega)) fun d S4 ⟨⟨a, e, ha⟩, h⟩ => ?_
    subst e
    simp
    refine then_post (draw_post h (by omega) (by omega)) fun d S4 ⟨⟨b, e, hb⟩, h⟩ => ?_
    subst e
    refine then_post (pick_lst h (by simp) (by simp)) fun d S4 ⟨hd, h⟩ => ?_
    have hm : ∃ m : Option Nat, d = optD m ∧ ∀ x, m = some x → x ≤ 4 := by
      simp at hd
      rcases hd with rfl | rfl
      · exact ⟨none, rfl, fun x e => nomatch e⟩
      · exact ⟨some b, rfl, fun x e => by cases e; omega⟩
    obtain ⟨m, rfl, hm⟩ := hm
    refine then_post (draw_post h (by omega) (by omega)) fun d S4 ⟨⟨c, e, hc⟩, h⟩ => ?_
    subst e
    simp
    refine ⟨h, i, rfl, ns[i], 5 + a, m, c, ?_, ?_, by omega, by omega, by omega, hm⟩
    · simp [stockD]
    · exact List.getElem?_eq_getElem hi'
  · obtain ⟨ss, rfl, ess⟩ := Each.pick (enc := stockD) (W := fun d s => ∃ i : Nat, d = .int (i : Int) ∧ ns[0 + i]? = some s.1 ∧ 5 ≤ s.2.1 ∧ s.2.1 ≤ 14 ∧ s.2.2.2 ≤ 5 ∧ ∀ m, s.2.2.1 = some m → m ≤ 4) es fun a b ⟨i, s, h1, h2, h3⟩ => ⟨s, h2, i, h1, h3⟩
    have hsl : ss.length = 1 + ks := by
      have := ess.length
      simpa using this.symm
    have hsz : ss.length ≤ sizeLine := szk (by omega)
    simp [hsz]
    refine then_post (draw_post h (by omega) (by omega)) fun d S4 ⟨⟨kp, e, hkp⟩, h⟩ => ?_
    subst e
    simp
    rw [show (1 : Int) + (kp : Int) = ((1 + kp : Nat) : Int) by omega, rg1 (by omega)]
    simp
    refine then_post (compL_post (I := PenS R) (R := fun d y => ∃ (i : Nat) (s : Str × Nat × Nat), d = .int (i : Int) ∧ y = pieceD s ∧ ns[bars + i]? = some s.1 ∧ 2 ≤ s.2.1 ∧ s.2.1 ≤ 7 ∧ s.2.2 ≤ 3) _ _ h fun d hd S h => ?_) fun ys S5 ⟨h, es⟩ => ?_
    · obtain ⟨i, hi, rfl⟩ := List.mem_map.mp hd
      have hi' : bars + i < ns.length := by have := List.mem_range.mp hi; omega
      have hn : (ns.map D.str)[bars + i]? = some (.str ns[bars + i]) := by rw [List.getElem?_map, List.getElem?_eq_getElem hi']; rfl
      have hn' : dIx (.tup (ns.map D.str)) (.int ((bars : Int) + (i : Int))) = some (.str ns[bars + i]) := by
        rw [show (bars : Int) + (i : Int) = ((bars + i : Nat) : Int) by omega]
        exact d_ixt hn
      simp [hn']
      refine then_post (draw_post h (by omega) (by omega)) fun d S4 ⟨⟨a, e, ha⟩, h⟩ => ?_
      subst e
      simp
      refine then_post (draw_post h (by omega) (by omega)) fun d S4 ⟨⟨b, e, hb⟩, h⟩ => ?_
      subst e
      simp
      refine ⟨h, i, rfl, ns[bars + i], 2 + a, b, ?_, ?_, by omega, by omega, by omega⟩
      · simp [pieceD]
      · exact List.getElem?_eq_getElem hi'
    · obtain ⟨ps, rfl, eps⟩ := Each.pick (enc := pieceD) (W := fun d s => ∃ i : Nat, d = .int (i : Int) ∧ ns[bars + i]? = some s.1 ∧ 2 ≤ s.2.1 ∧ s.2.1 ≤ 7 ∧ s.2.2 ≤ 3) es fun a b ⟨i, s, h1, h2, h3⟩ => ⟨s, h2, i, h1, h3⟩
      have hpl : ps.length = 1 + kp := by
        have := eps.length
        simpa using this.symm
      have hpz : ps.length ≤ sizeLine := szk (by omega)
      simp [hpz]
      have ixof : ∀ {n i j : Nat}, ((List.range n).map fun (k : Nat) => D.int (k : Int))[i]? = some (.int (j : Int)) → j = i := fun {n i j} hh => by
        rw [List.getElem?_map] at hh
        cases q : (List.range n)[i]? with
        | none => rw [q] at hh; cases hh
        | some k =>
          rw [q] at hh
          obtain ⟨_, h2⟩ := List.getElem?_eq_some_iff.mp q
          rw [List.getElem_range] at h2
          have h3 : (D.int (k : Int)) = .int (j : Int) := by simpa using hh
          injection h3 with h4
          omega
      have ns1 : ss.map (·.1) = (ns.drop 0).take (1 + ks) := names_part hsl (by omega) fun i s hs => by
        obtain ⟨a, ha, j, e, hj, _⟩ := ess.getR i s hs
        subst e
        rw [ixof ha] at hj
        exact hj
      have ns2 : ps.map (·.1) = (ns.drop bars).take (1 + kp) := names_part hpl (by omega) fun i s hs => by
        obtain ⟨a, ha, j, e, hj, _⟩ := eps.getR i s hs
        subst e
        rw [ixof ha] at hj
        exact hj
      have sb : ∀ x ∈ ss, 5 ≤ x.2.1 ∧ x.2.1 ≤ 14 ∧ x.2.2.2 ≤ 5 ∧ ∀ m, x.2.2.1 = some m → m ≤ 4 := fun x hx => by
        obtain ⟨a, _, j, _, _, hh⟩ := ess.mem x hx
        exact hh
      have pb : ∀ x ∈ ps, 2 ≤ x.2.1 ∧ x.2.1 ≤ 7 ∧ x.2.2 ≤ 3 := fun x hx => by
        obtain ⟨a, _, j, _, _, hh⟩ := eps.mem x hx
        exact hh
      refine ⟨⟨⟨ss, ps, kf⟩, rfl, ⟨⟨⟨by show 1 ≤ ss.length; omega, by show ss.length ≤ 4; omega⟩, ?_, fun x hx => by have := sb x hx; omega⟩, ⟨⟨by show 1 ≤ ps.length; omega, by show ps.length ≤ 6; omega⟩, ?_, fun x hx => by have := pb x hx; omega⟩, by show ss.length ≤ bars; omega, by show ps.length ≤ most; omega, hkf', sb, pb⟩⟩, h⟩
      · show NamesOk (ss.map (·.1))
        rw [ns1]
        exact on.part 0 _
      · show NamesOk (ps.map (·.1))
        rw [ns2]
        exact on.part bars _
/-- the program's shop of it -/
theorem madeO_ok {s : ShopT} (h1 : StocksOk s.stocks) (h2 : PiecesOk s.pieces) (S : Sto) : m__law_made [s.t] S = .ok s.o S := by
  unfold m__law_made b__law_made
  simp [ShopT.t, init_ok s h1 h2]

/-! ### patterns, plainly -/
/-- how many rows of numbers have sizes up to s -/
def Rw : List Nat → Nat → Nat
  | [], _ => 1
  | w :: ws, s => if 0 < w ∧ w ≤ s then Rw ws s + Rw (w :: ws) (s - w) else Rw ws s
termination_by ws s => (ws.length, s)
theorem Rw_nil (s : Nat) : Rw [] s = 1 := by rw [Rw]
theorem Rw_ge {w : Nat} {ws : List Nat} {s : Nat} (h0 : 0 < w) (h : w ≤ s) : Rw (w :: ws) s = Rw ws s + Rw (w :: ws) (s - w) := by rw [Rw, if_pos ⟨h0, h⟩]
theorem Rw_lt {w : Nat} {ws : List Nat} {s : Nat} (h : s < w) : Rw (w :: ws) s = Rw ws s := by rw [Rw, if_neg (by omega)]
theorem Rw_snoc {w : Nat} (hw : 0 < w) : ∀ (ws : List Nat) (s : Nat), (∀ x ∈ ws, 0 < x) → Rw (ws ++ [w]) s = Rw ws s + (if w ≤ s then Rw (ws ++ [w]) (s - w) else 0)
  | [], s, _ => by
    show Rw [w] s = _
    by_cases h : w ≤ s
    · rw [Rw_ge hw h, if_pos h]
      rfl
    · rw [Rw_lt (by omega), if_neg h]
      rfl
  | a :: ws, s, ha => by
    have ha0 : 0 < a := ha a List.mem_cons_self
    have hws : ∀ x ∈ ws, 0 < x := fun x hx => ha x (List.mem_cons_of_mem _ hx)
    have i1 := Rw_snoc hw ws s hws
    show Rw (a :: (ws ++ [w])) s = Rw (a :: ws) s + (if w ≤ s then Rw (a :: (ws ++ [w])) (s - w) else 0)
    by_cases h : a ≤ s
    · rw [Rw_ge ha0 h, Rw_ge ha0 h, i1]
      have i2 := Rw_snoc hw (a :: ws) (s - a) ha
      have i2' : Rw (a :: (ws ++ [w])) (s - a) = Rw (a :: ws) (s - a) + (if w ≤ s - a then Rw (a :: (ws ++ [w])) (s - a - w) else 0) := i2
      rw [i2']
      by_cases hw2 : w ≤ s
      · rw [if_pos hw2, if_pos hw2]
        by_cases h3 : a ≤ s - w
        · rw [Rw_ge (s := s - w) ha0 h3, if_pos (show w ≤ s - a by omega), show s - a - w = s - w - a by omega]
          omega
        · rw [Rw_lt (s := s - w) (by omega), if_neg (show ¬ w ≤ s - a by omega)]
          omega
      · rw [if_neg hw2, if_neg hw2, if_neg (show ¬ w ≤ s - a by omega)]
        omega
    · rw [Rw_lt (ws := ws ++ [w]) (s := s) (by omega), Rw_lt (ws := ws) (s := s) (by omega), i1]
      by_cases hw2 : w ≤ s
      · rw [if_pos hw2, if_pos hw2, Rw_lt (s := s - w) (by omega)]
      · rw [if_neg hw2, if_neg hw2]
termination_by ws s => (ws.length, s)
theorem Rw_mono : ∀ (ws : List Nat) (s t : Nat), s ≤ t → Rw ws s ≤ Rw ws t
  | [], s, t, _ => by rw [Rw_nil, Rw_nil]; exact Nat.le_refl _
  | w :: ws, s, t, h => by
    have i1 := Rw_mono ws s t h
    by_cases h1 : 0 < w ∧ w ≤ s
    · rw [Rw_ge (s := s) h1.1 h1.2, Rw_ge (s := t) h1.1 (by omega)]
      have := Rw_mono (w :: ws) (s - w) (t - w) (by omega)
      omega
    · have e1 : Rw (w :: ws) s = Rw ws s := by rw [Rw, if_neg h1]
      rw [e1]
      by_cases h2 : 0 < w ∧ w ≤ t
      · rw [Rw_ge h2.1 h2.2]
        omega
      · have e2 : Rw (w :: ws) t = Rw ws t := by rw [Rw, if_neg h2]
        rw [e2]
        exact i1
termination_by ws s => (ws.length, s)
/-- narrower pieces, more of them, a longer bar: no fewer -/
theorem Rw_narrow {v : Nat} (hv : 0 < v) : ∀ (ws : List Nat) (n s t : Nat), (∀ w ∈ ws, v ≤ w) → ws.length ≤ n → s ≤ t → Rw ws s ≤ Rw (List.replicate n v) t
  | [], n, s, t, _, _, _ => by
    rw [Rw_nil]
    have : ∀ (n t : Nat), 1 ≤ Rw (List.replicate n v) t := fun n => by
      induction n with
      | zero => intro t; rw [List.replicate_zero, Rw_nil]; exact Nat.le_refl _
      | succ n ih =>
        intro t
        rw [List.replicate_succ]
        by_cases h : v ≤ t
        · rw [Rw_ge hv h]
          have := ih t
          omega
        · rw [Rw_lt (by omega)]
          exact ih t
    exact this n t
  | w :: ws, n, s, t, hw, hn, h => by
    cases n with
    | zero => simp at hn
    | succ n =>
      have hvw := hw w List.mem_cons_self
      have i1 := Rw_narrow hv ws n s t (fun x hx => hw x (List.mem_cons_of_mem _ hx)) (by simpa using hn) h
      rw [List.replicate_succ]
      by_cases h1 : w ≤ s
      · rw [Rw_ge (w := w) (s := s) (by omega) h1, Rw_ge (s := t) hv (by omega)]
        have i2 := Rw_narrow hv (w :: ws) (n + 1) (s - w) (t - v) hw hn (by omega)
        rw [List.replicate_succ] at i2
        omega
      · rw [Rw_lt (w := w) (by omega)]
        by_cases h2 : v ≤ t
        · rw [Rw_ge hv h2]
          omega
        · rw [Rw_lt (w := v) (by omega)]
          exact i1
termination_by ws _ s _ => (ws.length, s)
theorem Rw_take : ∀ (ws : List Nat) (i s : Nat), (∀ x ∈ ws, 0 < x) → Rw (ws.take i) s ≤ Rw ws s
  | [], i, s, _ => by rw [List.take_nil]; exact Nat.le_refl _
  | w :: ws, 0, s, h => by
    rw [List.take_zero, Rw_nil]
    have := Rw_take ws 0 s fun x hx => h x (List.mem_cons_of_mem _ hx)
    rw [List.take_zero, Rw_nil] at this
    rw [Rw]
    split
    · omega
    · exact this
  | w :: ws, i + 1, s, h => by
    have hw := h w List.mem_cons_self
    have i1 := Rw_take ws i s fun x hx => h x (List.mem_cons_of_mem _ hx)
    rw [List.take_succ_cons]
    by_cases h1 : w ≤ s
    · rw [Rw_ge (ws := ws.take i) (s := s) hw h1, Rw_ge (ws := ws) (s := s) hw h1]
      have i2 := Rw_take (w :: ws) (i + 1) (s - w) h
      rw [List.take_succ_cons] at i2
      omega
    · rw [Rw_lt (ws := ws.take i) (s := s) (by omega), Rw_lt (ws := ws) (s := s) (by omega)]
      exact i1
termination_by ws _ s => (ws.length, s)
/-- all rows of numbers within s, with what they leave -/
def rowsL : List Nat → Nat → List (List Nat × Nat)
  | [], s => [([], s)]
  | w :: ws, s => (List.range (s / w + 1)).flatMap fun k => (rowsL ws (s - k * w)).map fun q => (k :: q.1, q.2)
def rowsW (ws : List Nat) (s : Nat) : List (List Nat) := (rowsL ws s).map (·.1)
def extW (rs : List (List Nat × Nat)) (w : Nat) : List (List Nat × Nat) := rs.flatMap fun p => (List.range (p.2 / w + 1)).map fun k => (p.1 ++ [k], p.2 - k * w)
theorem ext_all : ∀ (ws : List Nat) (rs : List (List Nat × Nat)), ws.foldl extW rs = rs.flatMap fun p => (rowsL ws p.2).map fun q => (p.1 ++ q.1, q.2)
  | [], rs => by
    show rs = rs.flatMap fun p => [(p.1 ++ [], p.2)]
    induction rs with
    | nil => rfl
    | cons p rs ih => rw [List.flatMap_cons, ← ih, List.append_nil]; rfl
  | w :: ws, rs => by
    show ws.foldl extW (extW rs w) = _
    rw [ext_all ws (extW rs w)]
    unfold extW
    rw [List.flatMap_assoc]
    congr 1
    funext p
    show ((List.range (p.2 / w + 1)).map fun k => (p.1 ++ [k], p.2 - k * w)).flatMap _ = ((List.range (p.2 / w + 1)).flatMap fun k => (rowsL ws (p.2 - k * w)).map fun q => (k :: q.1, q.2)).map _
    rw [List.flatMap_map, List.map_flatMap]
    congr 1
    funext k
    simp
theorem ext_rows (ws : List Nat) (s : Nat) : ws.foldl extW [([], s)] = rowsL ws s := by
  rw [ext_all]
  simp
theorem rows_split (w : Nat) (hw : 0 < w) (ws : List Nat) (s : Nat) (h : w ≤ s) : (rowsL (w :: ws) s).length = (rowsL ws s).length + (rowsL (w :: ws) (s - w)).length := by
  have e : s / w + 1 = (s - w) / w + 1 + 1 := by
    rw [Nat.div_eq_sub_div hw h]
  show ((List.range (s / w + 1)).flatMap fun k => (rowsL ws (s - k * w)).map fun q => (k :: q.1, q.2)).length = _
  rw [e, List.range_succ_eq_map, List.flatMap_cons, List.length_append, List.length_map, Nat.zero_mul, Nat.sub_zero, List.flatMap_map]
  congr 1
  show _ = ((List.range ((s - w) / w + 1)).flatMap fun k => (rowsL ws (s - w - k * w)).map fun q => (k :: q.1, q.2)).length
  rw [List.length_flatMap, List.length_flatMap]
  congr 1
  apply List.map_congr_left
  intro k _
  rw [List.length_map, List.length_map, show s - w - k * w = s - (k + 1) * w by rw [Nat.add_mul]; omega]
theorem rows_small (w : Nat) (ws : List Nat) (s : Nat) (h : s < w) : (rowsL (w :: ws) s).length = (rowsL ws s).length := by
  show ((List.range (s / w + 1)).flatMap fun k => (rowsL ws (s - k * w)).map fun q => (k :: q.1, q.2)).length = _
  rw [Nat.div_eq_of_lt h]
  simp
theorem rows_len : ∀ (ws : List Nat) (s : Nat), (∀ x ∈ ws, 0 < x) → (rowsL ws s).length = Rw ws s
  | [], s, _ => by rw [Rw_nil]; rfl
  | w :: ws, s, h => by
    have hw := h w List.mem_cons_self
    have i1 := rows_len ws s fun x hx => h x (List.mem_cons_of_mem _ hx)
    by_cases h1 : w ≤ s
    · rw [Rw_ge hw h1, rows_split w hw ws s h1, i1, rows_len (w :: ws) (s - w) h]
    · rw [Rw_lt (by omega), rows_small w ws s (by omega), i1]
termination_by ws s => (ws.length, s)
/-- sizes -/
def sizeW : List Nat → List Nat → Nat
  | w :: ws, k :: r => k * w + sizeW ws r
  | _, _ => 0
theorem rows_mem : ∀ (ws : List Nat) (s : Nat) (r : List Nat) (l : Nat), (∀ x ∈ ws, 0 < x) → ((r, l) ∈ rowsL ws s ↔ r.length = ws.length ∧ sizeW ws r ≤ s ∧ l = s - sizeW ws r)
  | [], s, r, l, _ => by
    show (r, l) ∈ [(([] : List Nat), s)] ↔ _
    cases r with
    | nil => simp [sizeW]
    | cons a r => simp
  | w :: ws, s, r, l, h => by
    have hw := h w List.mem_cons_self
    show (r, l) ∈ (List.range (s / w + 1)).flatMap (fun k => (rowsL ws (s - k * w)).map fun q => (k :: q.1, q.2)) ↔ _
    rw [List.mem_flatMap]
    constructor
    · rintro ⟨k, hk, hm⟩
      obtain ⟨⟨r', l'⟩, hq, e⟩ := List.mem_map.mp hm
      obtain ⟨h1, h2, h3⟩ := (rows_mem ws (s - k * w) r' l' fun x hx => h x (List.mem_cons_of_mem _ hx)).mp hq
      have e1 : k :: r' = r := congrArg Prod.fst e
      have e2 : l' = l := congrArg Prod.snd e
      subst e1 e2
      have hk' : k * w ≤ s := by
        have := List.mem_range.mp hk
        exact (Nat.le_div_iff_mul_le hw).mp (by omega)
      refine ⟨by simp [h1], ?_, ?_⟩
      · show k * w + sizeW ws r' ≤ s
        omega
      · show l' = s - (k * w + sizeW ws r')
        omega
    · rintro ⟨h1, h2, h3⟩
      cases r with
      | nil => simp at h1
      | cons k r =>
        have h2' : k * w + sizeW ws r ≤ s := h2
        refine ⟨k, List.mem_range.mpr (Nat.lt_succ_of_le ((Nat.le_div_iff_mul_le hw).mpr (by omega))), List.mem_map.mpr ⟨(r, l), (rows_mem ws (s - k * w) r l fun x hx => h x (List.mem_cons_of_mem _ hx)).mpr ⟨by simpa using h1, by omega, ?_⟩, rfl⟩⟩
        have h3' : l = s - (k * w + sizeW ws r) := h3
        omega
theorem rowsW_mem {ws : List Nat} {s : Nat} {r : List Nat} (h : ∀ x ∈ ws, 0 < x) : r ∈ rowsW ws s ↔ r.length = ws.length ∧ sizeW ws r ≤ s := by
  unfold rowsW
  rw [List.mem_map]
  constructor
  · rintro ⟨⟨r', l⟩, hm, e⟩
    obtain ⟨h1, h2, _⟩ := (rows_mem ws s r' l h).mp hm
    have e1 : r' = r := e
    subst e1
    exact ⟨h1, h2⟩
  · rintro ⟨h1, h2⟩
    exact ⟨(r, s - sizeW ws r), (rows_mem ws s r _ h).mpr ⟨h1, h2, rfl⟩, rfl⟩
/-- they stand in order, each once -/
theorem rowsW_sorted : ∀ (ws : List Nat) (s : Nat), (rowsW ws s).Pairwise (· < ·)
  | [], s => by
    show [([] : List Nat)].Pairwise (· < ·)
    simp
  | w :: ws, s => by
    have e : rowsW (w :: ws) s = (List.range (s / w + 1)).flatMap fun k => (rowsW ws (s - k * w)).map fun q => k :: q := by
      show ((List.range (s / w + 1)).flatMap fun k => (rowsL ws (s - k * w)).map fun q => (k :: q.1, q.2)).map (·.1) = _
      rw [List.map_flatMap]
      congr 1
      funext k
      unfold rowsW
      rw [List.map_map, List.map_map]
      rfl
    rw [e, List.pairwise_flatMap]
    refine ⟨fun k _ => ?_, ?_⟩
    · rw [List.pairwise_map]
      refine List.Pairwise.imp ?_ (rowsW_sorted ws (s - k * w))
      intro a b h
      exact List.Lex.cons h
    · refine List.Pairwise.imp ?_ List.pairwise_lt_range
      intro a b h x hx y hy
      obtain ⟨p, _, rfl⟩ := List.mem_map.mp hx
      obtain ⟨q, _, rfl⟩ := List.mem_map.mp hy
      exact List.Lex.rel h
/-- the same with fuel: it runs -/
def Rf : Nat → List Nat → Nat → Nat
  | 0, _, _ => 0
  | _ + 1, [], _ => 1
  | f + 1, w :: ws, s => if 0 < w ∧ w ≤ s then Rf f ws s + Rf f (w :: ws) (s - w) else Rf f ws s
theorem Rf_eq : ∀ (f : Nat) (ws : List Nat) (s : Nat), ws.length + s < f → Rf f ws s = Rw ws s
  | 0, _, _, h => absurd h (Nat.not_lt_zero _)
  | f + 1, [], s, _ => by rw [Rw_nil]; rfl
  | f + 1, w :: ws, s, h => by
    rw [List.length_cons] at h
    show (if 0 < w ∧ w ≤ s then Rf f ws s + Rf f (w :: ws) (s - w) else Rf f ws s) = _
    rw [Rw, Rf_eq f ws s (by omega)]
    by_cases c : 0 < w ∧ w ≤ s
    · rw [if_pos c, if_pos c, Rf_eq f (w :: ws) (s - w) (by rw [List.length_cons]; omega)]
    · rw [if_neg c, if_neg c]
theorem Rw3 : Rw (List.replicate 3 3) 31 ≤ 3000 := by
  rw [← Rf_eq 40 _ _ (by decide)]
  decide +kernel
theorem Rw4 : Rw (List.replicate 4 3) 40 ≤ 3000 := by
  rw [← Rf_eq 50 _ _ (by decide)]
  decide +kernel

def ShopT.ws (s : ShopT) : List Nat := s.pieces.map fun p => p.2.1 + s.kerf
theorem ws_len (s : ShopT) : s.ws.length = s.pieces.length := by simp [ShopT.ws]
theorem ws_pos {s : ShopT} (h : PiecesOk s.pieces) : ∀ w ∈ s.ws, 0 < w := fun w hw => by
  obtain ⟨p, hp, rfl⟩ := List.mem_map.mp hw
  have := h.pos p hp
  omega
theorem piece_at {s : ShopT} {i : Nat} {p : Str × Nat × Nat} (h : s.pieces[i]? = some p) : dIx (.tup (s.pieces.map pieceD)) (.int (i : Int)) = some (pieceD p) := d_ixt (by rw [List.getElem?_map, h]; rfl)
theorem stock_at {s : ShopT} {i : Nat} {p : Str × Nat × Option Nat × Nat} (h : s.stocks[i]? = some p) : dIx (.tup (s.stocks.map stockD)) (.int (i : Int)) = some (stockD p) := d_ixt (by rw [List.getElem?_map, h]; rfl)
theorem width_ok (s : ShopT) {i w : Nat} (h : s.ws[i]? = some w) (S : Sto) : m_width_by [s.o, .int (i : Int)] S = .ok (.int (w : Int)) S := by
  unfold ShopT.ws at h
  rw [List.getElem?_map] at h
  cases q : s.pieces[i]? with
  | none => rw [q] at h; cases h
  | some p =>
    rw [q] at h
    cases h
    unfold m_width_by b_width_by
    simp [ShopT.o, piece_at q, pieceD]
theorem room_ok (s : ShopT) {i : Nat} {p : Str × Nat × Option Nat × Nat} (h : s.stocks[i]? = some p) (S : Sto) : m_room_by [s.o, .int (i : Int)] S = .ok (.int ((p.2.1 + s.kerf : Nat) : Int)) S := by
  unfold m_room_by b_room_by
  simp [ShopT.o, stock_at h, stockD]
def rowD (p : List Nat × Nat) : D := .tup [natT p.1, .int (p.2 : Int)]
theorem rw_fold (f : List (List Nat × Nat) → Nat → List (List Nat × Nat)) (ws : List Nat) (b : List (List Nat × Nat)) (i w : Nat) (h : ws[i]? = some w) : (ws.take (i + 1)).foldl f b = f ((ws.take i).foldl f b) w := by
  rw [take_next h, List.foldl_append]
  rfl
theorem fdiv_nat {l w : Nat} (h0 : 0 < w) (h : w ≤ 1000000) : dFdiv (.int (l : Int)) (.int (w : Int)) = some (.int ((l / w : Nat) : Int)) := by
  rw [fdiv_int _ _ (by omega) (by omega), Int.fdiv_eq_ediv_of_nonneg _ (by omega)]
  rfl
theorem mul_nat {k w : Nat} (h : w ≤ 1000000) : dMulA (.int (k : Int)) (.int (w : Int)) = some (.int ((k : Int) * (w : Int))) := mul_lit _ _ (by omega)
theorem ext_all1 (xs ys : List D) (h : xs.length + ys.length ≤ sizeLine) : mExtend xs [.lst ys] = some (xs ++ ys, .non) := if_pos h
theorem extW_take {rs : List (List Nat × Nat)} {w i : Nat} {p : List Nat × Nat} (h : rs[i]? = some p) : extW (rs.take (i + 1)) w = extW (rs.take i) w ++ (List.range (p.2 / w + 1)).map fun k => (p.1 ++ [k], p.2 - k * w) := by
  rw [take_next h]
  unfold extW
  rw [List.flatMap_append]
  simp
theorem extW_le {rs : List (List Nat × Nat)} {w i : Nat} : (extW (rs.take i) w).length ≤ (extW rs w).length := by
  have : extW rs w = extW (rs.take i) w ++ extW (rs.drop i) w := by
    unfold extW
    rw [← List.flatMap_append, List.take_append_drop]
  rw [this, List.length_append]
  omega
theorem rows_within_ok (s : ShopT) (hp : PiecesOk s.pieces) (hw6 : ∀ w ∈ s.ws, w ≤ 1000000) {room : Nat} (hm : Rw s.ws room ≤ 3000) (S : Sto) : m_rows_within [s.o, .int (room : Int)] S = .ok (.lst ((rowsW s.ws room).map natT)) S := by
  have hpos := ws_pos hp
  have hbf : ∀ i, ((s.ws.take i).foldl extW [([], room)]).length ≤ 3000 := fun i => by
    rw [ext_rows, rows_len _ _ fun x hx => hpos x (List.mem_of_mem_take hx)]
    exact Nat.le_trans (Rw_take _ _ _ hpos) hm
  have hbr : ∀ i, ∀ p ∈ (s.ws.take i).foldl extW [([], room)], p.1.length ≤ 6 := fun i p hpp => by
    rw [ext_rows] at hpp
    obtain ⟨r, l⟩ := p
    obtain ⟨h1, _, _⟩ := (rows_mem _ _ _ _ fun x hx => hpos x (List.mem_of_mem_take hx)).mp hpp
    show r.length ≤ 6
    have := hp.len
    rw [h1, List.length_take, ws_len]
    omega
  unfold m_rows_within b_rows_within
  have hl6 := hp.len
  simp [ShopT.o]
  rw [rg1 (by omega)]
  simp
  apply post_ok
  refine then_post (P := fun o S' => S' = S ∧ ∃ a b c d e f, o = .nx [some s.o, some (.int (room : Int)), some (.lst ((rowsL s.ws room).map rowD)), a, b, c, d, e, f]) ?_ fun o S' ⟨e1, a, b, c, d, e, f, e2⟩ => ?_
  · refine forL_map (P := fun j ρ S' => S' = S ∧ ∃ a b c d e f, ρ = [some s.o, some (.int (room : Int)), some (.lst (((s.ws.take j).foldl extW [([], room)]).map rowD)), a, b, c, d, e, f]) (List.range s.pieces.length)
      ⟨rfl, none, none, none, none, none, none, rfl⟩ (fun j x hj ρ S' ⟨e1, a, b, c, d, e, f, e2⟩ => ?_) fun ρ S' ⟨e1, a, b, c, d, e, f, e2⟩ => ⟨e1, a, b, c, d, e, f, ?_⟩
    · obtain ⟨h1, h2⟩ := List.getElem?_eq_some_iff.mp hj
      rw [List.getElem_range] at h2
      subst h2 e1 e2
      rw [List.length_range] at h1
      obtain ⟨w, hw⟩ : ∃ w, s.ws[j]? = some w := ⟨_, List.getElem?_eq_getElem (by rw [ws_len]; exact h1)⟩
      rw [rw_fold extW s.ws _ j _ hw]
      have hb1 := hbf (j + 1)
      rw [rw_fold extW s.ws _ j _ hw] at hb1
      have hb3 := hbr j
      have hwp := hpos _ (List.mem_of_getElem? hw)
      have hw6 := hw6 _ (List.mem_of_getElem? hw)
      generalize (s.ws.take j).foldl extW [([], room)] = rs at *
      simp [width_ok s hw]
      refine then_post (P := fun o S'' => S'' = S' ∧ ∃ d e f, o = .nx [some s.o, some (.int (room : Int)), some (.lst (rs.map rowD)), some (.int (j : Int)), some (.lst ((extW rs w).map rowD)), some (.int (w : Int)), d, e, f]) ?_ fun o S'' ⟨e1, d, e, f, e2⟩ => ?_
      · refine forL_map (P := fun i ρ S'' => S'' = S' ∧ ∃ d e f, ρ = [some s.o, some (.int (room : Int)), some (.lst (rs.map rowD)), some (.int (j : Int)), some (.lst ((extW (rs.take i) w).map rowD)), some (.int (w : Int)), d, e, f]) rs
          ⟨rfl, d, e, f, rfl⟩ (fun i x hi ρ S'' ⟨e1, d, e, f, e2⟩ => ?_) fun ρ S'' ⟨e1, d, e, f, e2⟩ => ⟨e1, d, e, f, ?_⟩
        · subst e1 e2
          obtain ⟨r, l⟩ := x
          have hrl := hb3 _ (List.mem_of_getElem? hi)
          have hle := extW_le (rs := rs) (w := w) (i := i + 1)
          rw [extW_take hi] at hle ⊢
          have hrl' : r.length ≤ 6 := hrl
          have hex : (extW (rs.take i) w).length + (l / w + 1) ≤ sizeLine := szl ▸ (by
            rw [List.length_append, List.length_map, List.length_range] at hle
            show _ + ((r, l).2 / w + 1) ≤ _
            omega)
          generalize extW (rs.take i) w = ps at *
          simp [rowD, fdiv_nat hwp hw6]
          rw [show ((l : Int) / (w : Int)) + 1 = ((l / w + 1 : Nat) : Int) by simp, rg1 (by
            have := szl
            omega)]
          simp
          rw [compL_map (g := fun k => rowD (r ++ [k], l - k * w)) _ (fun k hk => by
            have hk' : k * w ≤ l := (Nat.le_div_iff_mul_le hwp).mp (by have := List.mem_range.mp hk; omega)
            have hrz : r.length + 1 ≤ sizeLine := szk (by omega)
            simp [hrz, mul_nat (k := k) (w := w) hw6, rowD]
            rw [show (l : Int) - (k : Int) * (w : Int) = ((l - k * w : Nat) : Int) by
              rw [Int.ofNat_sub hk', Int.natCast_mul]])]
          have hlen : l / w + 1 ≤ sizeLine := by omega
          simp [hlen, ext_all1 _ _ (show (ps.map rowD).length + ((List.range (l / w + 1)).map fun k => rowD (r ++ [k], l - k * w)).length ≤ sizeLine by simpa using hex), stepP]
        · rw [e2, List.take_length]
      · subst e1 e2
        simp [stepP]
    · rw [e2, List.length_range, ← ws_len, List.take_length, ext_rows]
  · subst e1 e2
    simp
    rw [compL_map (enc := rowD) (g := fun p => natT p.1) _ (fun p hp => by simp [rowD])]
    have hlen : (rowsL s.ws room).length ≤ sizeLine := by
      rw [rows_len _ _ hpos, szl]
      omega
    simp [hlen, rowsW]

/-! ### counted -/
def tabD (n : Nat) (f : Nat → Nat) : D := .lst ((List.range n).map fun k => .int (f k : Int))
theorem tab_get {n j : Nat} (f : Nat → Nat) (h : j < n) : dIx (tabD n f) (.int (j : Int)) = some (.int (f j : Int)) := d_ixl (by rw [List.getElem?_map, List.getElem?_range h]; rfl)
theorem tab_set {n j v : Nat} (f : Nat → Nat) : ((List.range n).map fun k => D.int (f k : Int)).set j (.int (v : Int)) = (List.range n).map fun k => D.int ((if k = j then v else f k : Nat) : Int) := by
  apply List.ext_getElem?
  intro i
  rw [List.getElem?_set, List.getElem?_map, List.getElem?_map]
  by_cases hi : i < n
  · rw [List.getElem?_range hi]
    by_cases h : j = i
    · subst h
      simp [hi]
    · have h2 : ¬ i = j := fun e => h e.symm
      simp [h, h2]
  · rw [List.getElem?_eq_none (show (List.range n).length ≤ i by simp; omega)]
    simp
    omega
theorem tab_one (n : Nat) (v : Nat) (h : n ≤ 10000000) : dRepF (.lst [.int (v : Int)]) (.int (n : Int)) = some (tabD n fun _ => v) := by
  show (if rpOk 1 (n : Int) then some (D.lst (List.replicate (n : Int).toNat [D.int (v : Int)]).flatten) else none) = _
  rw [if_pos (rpOk_of (by omega) (by rw [szl]; omega))]
  congr 2
  rw [Int.toNat_natCast, show (fun k => D.int (((fun _ => v) k : Nat) : Int)) = Function.const Nat (D.int (v : Int)) from rfl, List.map_const, List.length_range]
  induction n with
  | zero => rfl
  | succ n ih => rw [List.replicate_succ, List.flatten_cons, ih (by omega), List.replicate_succ]; rfl
theorem ixN_nat {n j : Nat} (h : j < n) : ixN n (j : Int) = some j := by
  unfold ixN
  rw [if_pos (by omega), if_pos (by omega)]
  simp
theorem tab_put {n j v : Nat} {f : Nat → Nat} (h : j < n) {i : Nat} {ρ : DEnv} {S : Sto} : setIxD i ρ (.int (v : Int)) (.int (j : Int)) S (some (some (tabD n f))) = .ok (.nx (ρ.set i (some (tabD n fun k => if k = j then v else f k)))) S := by
  unfold tabD
  rw [setIxD_lst, List.length_map, List.length_range, ixN_nat h]
  simp only [optR_some, Res.then_ok]
  rw [tab_set]
theorem tab_tup {n : Nat} {f g : Nat → Nat} (h : ∀ k, k < n → f k = g k) : tabD n f = tabD n g := by
  unfold tabD
  congr 1
  apply List.map_congr_left
  intro k hk
  rw [h k (List.mem_range.mp hk)]
@[simp] theorem vElR_tab (n : Nat) (f : Nat → Nat) (S : Sto) : vElR (some (some (tabD n f))) S = .ok (tabD n f) S := rfl
theorem many_ok (s : ShopT) (hp : PiecesOk s.pieces) (hw6 : ∀ w ∈ s.ws, w ≤ 1000000) {room : Nat} (hr : room ≤ 1000000) (S : Sto) : m_many_by [s.o, .int (room : Int)] S = .ok (.int (Rw s.ws room : Int)) S := by
  have hpos := ws_pos hp
  have hl6 := hp.len
  unfold m_many_by b_many_by
  have e1 : (room : Int) + 1 = ((room + 1 : Nat) : Int) := by omega
  have e0 : dRepF (.lst [.int 1]) (.int ((room + 1 : Nat) : Int)) = some (tabD (room + 1) fun _ => 1) := tab_one (room + 1) 1 (by omega)
  simp [ShopT.o, e1, e0, -Int.natCast_add]
  rw [rg1 (by omega)]
  simp [-Int.natCast_add]
  apply post_ok
  refine then_post (P := fun o S' => S' = S ∧ ∃ a b c, o = .nx [some s.o, some (.int (room : Int)), some (tabD (room + 1) (Rw s.ws)), a, b, c]) ?_ fun o S' ⟨e1, a, b, c, e2⟩ => ?_
  · refine forL_map (P := fun j ρ S' => S' = S ∧ ∃ a b c, ρ = [some s.o, some (.int (room : Int)), some (tabD (room + 1) (Rw (s.ws.take j))), a, b, c]) (List.range s.pieces.length)
      ⟨rfl, none, none, none, ?_⟩ (fun j x hj ρ S' ⟨e1, a, b, c, e2⟩ => ?_) fun ρ S' ⟨e1, a, b, c, e2⟩ => ⟨e1, a, b, c, ?_⟩
    · rw [List.take_zero, show Rw [] = fun _ => 1 from funext Rw_nil]
      rfl
    · obtain ⟨h1, h2⟩ := List.getElem?_eq_some_iff.mp hj
      rw [List.getElem_range] at h2
      subst h2 e1 e2
      rw [List.length_range] at h1
      obtain ⟨w, hw⟩ : ∃ w, s.ws[j]? = some w := ⟨_, List.getElem?_eq_getElem (by rw [ws_len]; exact h1)⟩
      have hwp := hpos _ (List.mem_of_getElem? hw)
      have htk := take_next hw
      have hsn := fun t => Rw_snoc hwp (s.ws.take j) t fun x hx => hpos x (List.mem_of_mem_take hx)
      rw [htk]
      generalize s.ws.take j = vs at *
      have hw6 := hw6 _ (List.mem_of_getElem? hw)
      simp [width_ok s hw, e1, -Int.natCast_add]
      rw [rg2 (by omega) (by omega) (by omega) (by omega)]
      simp only [optR_some, Res.then_ok]
      refine forL_map (P := fun i ρ S'' => S'' = S' ∧ ∃ c, ρ = [some s.o, some (.int (room : Int)), some (tabD (room + 1) fun t => if t < w + i then Rw (vs ++ [w]) t else Rw vs t), some (.int (j : Int)), some (.int (w : Int)), c]) (List.range (((room + 1 : Nat) : Int) - (w : Int)).toNat)
        ⟨rfl, c, ?_⟩ (fun i x hi ρ S'' ⟨e1, c, e2⟩ => ?_) fun ρ S'' ⟨e1, c, e2⟩ => ?_
      · congr 4
        apply tab_tup
        intro t _
        by_cases h : t < w + 0
        · rw [if_pos h, hsn t, if_neg (by omega)]
          rfl
        · rw [if_neg h]
      · obtain ⟨h1, h2⟩ := List.getElem?_eq_some_iff.mp hi
        rw [List.getElem_range] at h2
        subst h2 e1 e2
        rw [List.length_range] at h1
        have hlt : w + i < room + 1 := by omega
        have e3 : (w : Int) + (i : Int) = ((w + i : Nat) : Int) := by omega
        have e4 : ((w + i : Nat) : Int) - (w : Int) = (i : Int) := by omega
        simp [e3, e4, -Int.natCast_add, tab_get _ hlt, tab_get _ (show i < room + 1 by omega)]
        rw [if_pos hwp, show ((Rw vs (w + i) : Nat) : Int) + ((Rw (vs ++ [w]) i : Nat) : Int) = ((Rw vs (w + i) + Rw (vs ++ [w]) i : Nat) : Int) by omega, tab_put hlt]
        simp [stepP]
        apply tab_tup
        intro t _
        by_cases h : t = w + i
        · subst h
          rw [if_pos rfl, if_pos (by omega), hsn (w + i), if_pos (by omega), show w + i - w = i by omega]
        · rw [if_neg h]
          by_cases h2 : t < w + i
          · rw [if_pos h2, if_pos (by omega)]
          · rw [if_neg h2, if_neg (by omega)]
      · subst e1 e2
        refine ⟨rfl, some (.int (j : Int)), some (.int (w : Int)), c, ?_⟩
        congr 4
        apply tab_tup
        intro t ht
        by_cases h : t < w + (List.range (((room + 1 : Nat) : Int) - (w : Int)).toNat).length
        · rw [if_pos h]
        · rw [List.length_range] at h
          omega
    · rw [e2, List.length_range, ← ws_len, List.take_length]
  · subst e1 e2
    simp [tab_get]

theorem patterns_by_ok (s : ShopT) (hp : PiecesOk s.pieces) (hw6 : ∀ w ∈ s.ws, w ≤ 1000000) {i : Nat} {p : Str × Nat × Option Nat × Nat} (h : s.stocks[i]? = some p) (hr : p.2.1 + s.kerf ≤ 1000000) (hm : Rw s.ws (p.2.1 + s.kerf) ≤ 3000) (S : Sto) :
    m_patterns_by [s.o, .int (i : Int)] S = .ok (.lst ((rowsW s.ws (p.2.1 + s.kerf)).map natT)) S := by
  unfold m_patterns_by b_patterns_by
  have h3 : ¬ (3000 : Int) < (Rw s.ws (p.2.1 + s.kerf) : Nat) := by omega
  simp [room_ok s h, many_ok s hp hw6 hr, rows_within_ok s hp hw6 hm, h3, -Int.natCast_add]
/-! ### rows of numbers -/
theorem intsD_nat (r : List Nat) : intsD (r.map fun (n : Nat) => D.int (n : Int)) = some (r.map fun (n : Nat) => (n : Int)) := by
  rw [show (r.map fun (n : Nat) => D.int (n : Int)) = (r.map fun (n : Nat) => (n : Int)).map D.int by simp, intsD_map]
theorem sum_nat : ∀ r : List Nat, (r.map fun (n : Nat) => (n : Int)).sum = ((r.sum : Nat) : Int)
  | [] => rfl
  | n :: r => by
    rw [List.map_cons, List.sum_cons, sum_nat r, List.sum_cons]
    omega
theorem blsD_true {α : Type} (r : List α) : dAll [.lst (r.map fun _ => D.bl true)] = some (.bl true) := by
  show (blsD (r.map fun _ => D.bl true)).map (fun ns => D.bl (ns.all id)) = _
  rw [show (r.map fun _ => D.bl true) = (r.map fun _ => true).map D.bl by simp, blsD_map]
  simp
theorem numbers_row_ok (s : ShopT) {r : List Nat} (hl : r.length = s.pieces.length) (hz : r.length ≤ 1000) (S : Sto) : m_is_numbers_row [s.o, natT r] S = .ok (.bl true) S := by
  unfold m_is_numbers_row b_is_numbers_row
  have hl' : (r.length : Int) = s.pieces.length := by omega
  simp [ShopT.o, hl']
  rw [compL_map (g := fun _ => D.bl true) _ (fun n _ => by simp)]
  simp [szk hz, blsD_true]
theorem sizeW_sum : ∀ (ws r : List Nat), r.length = ws.length → ((List.range r.length).map fun k => r.getD k 0 * ws.getD k 0).sum = sizeW ws r
  | [], [], _ => rfl
  | w :: ws, k :: r, h => by
    rw [List.length_cons, List.range_succ_eq_map, List.map_cons, List.sum_cons, List.map_map]
    show k * w + ((List.range r.length).map fun i => r.getD i 0 * ws.getD i 0).sum = k * w + sizeW ws r
    rw [sizeW_sum ws r (by simpa using h)]
theorem size_ok (s : ShopT) (hw6 : ∀ w ∈ s.ws, w ≤ 1000000) {r : List Nat} (hl : r.length = s.pieces.length) (hz : r.length ≤ 1000) (S : Sto) : m_size_by [s.o, natT r] S = .ok (.int (sizeW s.ws r : Int)) S := by
  unfold m_size_by b_size_by
  simp
  rw [enumD_map, compL_map (g := fun k => D.int ((r.getD k 0 * s.ws.getD k 0 : Nat) : Int)) _ (fun k hk => by
    have hk1 := List.mem_range.mp hk
    have hkw : k < s.ws.length := by rw [ws_len]; omega
    obtain ⟨w, hw⟩ : ∃ w, s.ws[k]? = some w := ⟨_, List.getElem?_eq_getElem hkw⟩
    have hw2 := hw6 _ (List.mem_of_getElem? hw)
    have hwd : s.ws.getD k 0 = w := by rw [List.getD_eq_getElem?_getD, hw]; rfl
    rw [hwd]
    simp [hk1, width_ok s hw, mul_nat hw2])]
  have hsz := szk hz
  simp [hsz]
  show (optR ((intsD ((List.range r.length).map fun k => D.int ((r.getD k 0 * s.ws.getD k 0 : Nat) : Int))).map fun ns => D.int ns.sum) S).then _ = _
  have e : ((List.range r.length).map fun k => D.int ((r.getD k 0 * s.ws.getD k 0 : Nat) : Int)) = ((List.range r.length).map fun k => r.getD k 0 * s.ws.getD k 0).map fun (n : Nat) => D.int (n : Int) := by simp
  rw [e, intsD_nat]
  simp only [Option.map_some, optR_some, Res.then_ok, outE_rt]
  rw [sum_nat, sizeW_sum s.ws r (by rw [ws_len]; exact hl)]

/-! ### the best worth, plainly -/
def Bw : List Nat → List Nat → Nat → Nat
  | w :: ws, p :: ps, s => if 0 < w ∧ w ≤ s then max (Bw ws ps s) (Bw (w :: ws) (p :: ps) (s - w) + p) else Bw ws ps s
  | [], _, _ => 0
  | _ :: _, [], _ => 0
termination_by ws _ s => (ws.length, s)
def worthW : List Nat → List Nat → Nat
  | p :: ps, k :: r => p * k + worthW ps r
  | _, _ => 0
theorem Bw_nil (ps : List Nat) (s : Nat) : Bw [] ps s = 0 := by
  cases ps <;> rw [Bw]
theorem Bw_ge {w p : Nat} {ws ps : List Nat} {s : Nat} (h0 : 0 < w) (h : w ≤ s) : Bw (w :: ws) (p :: ps) s = max (Bw ws ps s) (Bw (w :: ws) (p :: ps) (s - w) + p) := by rw [Bw, if_pos ⟨h0, h⟩]
theorem Bw_lt {w p : Nat} {ws ps : List Nat} {s : Nat} (h : s < w) : Bw (w :: ws) (p :: ps) s = Bw ws ps s := by rw [Bw, if_neg (by omega)]
theorem Bw_ex {w p : Nat} (hw : 0 < w) (ws ps : List Nat) : ∀ s : Nat, ∃ n, n * w ≤ s ∧ Bw (w :: ws) (p :: ps) s = Bw ws ps (s - n * w) + n * p := by
  intro s
  induction s using Nat.strongRecOn with
  | ind s ih =>
    by_cases h : w ≤ s
    · rw [Bw_ge hw h]
      by_cases h2 : Bw (w :: ws) (p :: ps) (s - w) + p ≤ Bw ws ps s
      · exact ⟨0, by omega, by rw [Nat.max_eq_left h2]; simp⟩
      · obtain ⟨n, h3, h4⟩ := ih (s - w) (by omega)
        refine ⟨n + 1, by rw [Nat.add_mul]; omega, ?_⟩
        rw [Nat.max_eq_right (by omega), h4, Nat.add_mul, Nat.add_mul, show s - w - n * w = s - (n * w + 1 * w) by omega]
        omega
    · exact ⟨0, by omega, by rw [Bw_lt (by omega)]; simp⟩
theorem Bw_use {w p : Nat} (hw : 0 < w) (ws ps : List Nat) : ∀ (n s : Nat), n * w ≤ s → Bw ws ps (s - n * w) + n * p ≤ Bw (w :: ws) (p :: ps) s
  | 0, s, _ => by
    simp
    by_cases h : w ≤ s
    · rw [Bw_ge hw h]
      exact Nat.le_max_left _ _
    · rw [Bw_lt (by omega)]
      exact Nat.le_refl _
  | n + 1, s, h => by
    rw [Nat.add_mul] at h
    have i := Bw_use hw ws ps n (s - w) (p := p) (by omega)
    rw [Bw_ge hw (by omega), Nat.add_mul, Nat.add_mul, show s - (n * w + 1 * w) = s - w - n * w by omega]
    have := Nat.le_max_right (Bw ws ps s) (Bw (w :: ws) (p :: ps) (s - w) + p)
    omega
theorem Bw_ub : ∀ (ws ps r : List Nat) (s : Nat), (∀ x ∈ ws, 0 < x) → r.length = ws.length → ps.length = ws.length → sizeW ws r ≤ s → worthW ps r ≤ Bw ws ps s
  | [], [], [], s, _, _, _, _ => Nat.zero_le _
  | w :: ws, p :: ps, k :: r, s, hw, hr, hp, h => by
    have h' : k * w + sizeW ws r ≤ s := h
    have i := Bw_ub ws ps r (s - k * w) (fun x hx => hw x (List.mem_cons_of_mem _ hx)) (by simpa using hr) (by simpa using hp) (by omega)
    have j := Bw_use (hw w List.mem_cons_self) ws ps k s (p := p) (by omega)
    show p * k + worthW ps r ≤ _
    rw [Nat.mul_comm p k]
    omega
theorem Bw_at : ∀ (ws ps : List Nat) (s : Nat), (∀ x ∈ ws, 0 < x) → ps.length = ws.length → ∃ r : List Nat, r.length = ws.length ∧ sizeW ws r ≤ s ∧ worthW ps r = Bw ws ps s
  | [], ps, s, _, _ => ⟨[], rfl, Nat.zero_le _, by rw [Bw_nil]; cases ps <;> rfl⟩
  | w :: ws, [], s, _, h => by simp at h
  | w :: ws, p :: ps, s, hw, hp => by
    obtain ⟨n, h1, h2⟩ := Bw_ex (p := p) (hw w List.mem_cons_self) ws ps s
    obtain ⟨r, h3, h4, h5⟩ := Bw_at ws ps (s - n * w) (fun x hx => hw x (List.mem_cons_of_mem _ hx)) (by simpa using hp)
    refine ⟨n :: r, by simp [h3], ?_, ?_⟩
    · show n * w + sizeW ws r ≤ s
      omega
    · show p * n + worthW ps r = _
      rw [h2, h5, Nat.mul_comm p n]
      omega
theorem Bw_mono (ws ps : List Nat) {s t : Nat} (hw : ∀ x ∈ ws, 0 < x) (hp : ps.length = ws.length) (h : s ≤ t) : Bw ws ps s ≤ Bw ws ps t := by
  obtain ⟨r, h1, h2, h3⟩ := Bw_at ws ps s hw hp
  rw [← h3]
  exact Bw_ub ws ps r t hw h1 hp (by omega)
/-- a bound: all widths at least 1 -/
theorem Bw_le {m : Nat} : ∀ (ws ps : List Nat) (s : Nat), (∀ x ∈ ws, 0 < x) → (∀ p ∈ ps, p ≤ m) → ps.length = ws.length → Bw ws ps s ≤ s * m
  | [], ps, s, _, _, _ => by rw [Bw_nil]; exact Nat.zero_le _
  | w :: ws, [], s, _, _, h => by simp at h
  | w :: ws, p :: ps, s, hw, hp, hl => by
    have hw0 := hw w List.mem_cons_self
    have i := Bw_le ws ps s (fun x hx => hw x (List.mem_cons_of_mem _ hx)) (fun x hx => hp x (List.mem_cons_of_mem _ hx)) (by simpa using hl)
    by_cases h : w ≤ s
    · rw [Bw_ge hw0 h]
      have j := Bw_le (w :: ws) (p :: ps) (s - w) hw hp hl
      have hpm := hp p List.mem_cons_self
      have e : (s - w) * m + m ≤ s * m := by
        have : (s - w + 1) * m ≤ s * m := Nat.mul_le_mul_right m (by omega)
        rw [Nat.add_mul] at this
        omega
      exact Nat.max_le.mpr ⟨i, by omega⟩
    · rw [Bw_lt (by omega)]
      exact i
termination_by ws _ s => (ws.length, s)

/-! ### tables, the first of the best -/
theorem fits_ok (s : ShopT) (hw6 : ∀ w ∈ s.ws, w ≤ 1000000) {r : List Nat} (hl : r.length = s.pieces.length) (hz : r.length ≤ 1000) {i : Nat} {p : Str × Nat × Option Nat × Nat} (h : s.stocks[i]? = some p) (S : Sto) :
    m_fits_by [s.o, .int (i : Int), natT r] S = .ok (.bl (decide (sizeW s.ws r ≤ p.2.1 + s.kerf) || !r.any (· != 0))) S := by
  unfold m_fits_by b_fits_by
  have ea : dAnyA [natT r] = some (.bl (r.any (· != 0))) := by
    show (intsD (r.map fun (n : Nat) => D.int (n : Int))).map (fun ns => D.bl (ns.any (· != 0))) = _
    rw [intsD_nat]
    show some (D.bl _) = _
    rw [List.any_map, show ((fun x : Int => x != 0) ∘ fun (n : Nat) => (n : Int)) = fun n => n != 0 from funext fun n => by
      by_cases h : n = 0
      · simp [h]
      · have : (n : Int) ≠ 0 := by omega
        exact (bne_iff_ne.mpr this).trans (bne_iff_ne.mpr h).symm]
  have h2 : ((sizeW s.ws r : Nat) : Int) ≤ ((p.2.1 + s.kerf : Nat) : Int) ↔ sizeW s.ws r ≤ p.2.1 + s.kerf := by omega
  by_cases h3 : sizeW s.ws r ≤ p.2.1 + s.kerf
  · simp [size_ok s hw6 hl hz, room_ok s h, h2, h3, -Int.natCast_add]
  · simp [size_ok s hw6 hl hz, room_ok s h, h2, h3, -Int.natCast_add]
    rw [ea]
    simp
abbrev tabs (room : Nat) (ws ps : List Nat) (i n : Nat) : List D := (List.range n).map fun k => tabD (room + 1) (Bw (ws.drop (i + k)) (ps.drop (i + k)))
theorem tabs_cons (room : Nat) (ws ps : List Nat) (i n : Nat) : tabs room ws ps i (n + 1) = tabD (room + 1) (Bw (ws.drop i) (ps.drop i)) :: tabs room ws ps (i + 1) n := by
  unfold tabs
  rw [List.range_succ_eq_map, List.map_cons, List.map_map]
  congr 1
  apply List.map_congr_left
  intro k _
  show tabD (room + 1) (Bw (ws.drop (i + (k + 1))) (ps.drop (i + (k + 1)))) = _
  rw [show i + (k + 1) = i + 1 + k by omega]
theorem tabs_get {room : Nat} {ws ps : List Nat} {i n k : Nat} (h : k < n) : dIx (.lst (tabs room ws ps i n)) (.int (k : Int)) = some (tabD (room + 1) (Bw (ws.drop (i + k)) (ps.drop (i + k)))) := d_ixl (by
  unfold tabs
  rw [List.getElem?_map, List.getElem?_range h]
  rfl)
theorem drop_at {α : Type} {xs : List α} {i : Nat} {x : α} (h : xs[i]? = some x) : xs.drop i = x :: xs.drop (i + 1) := by
  obtain ⟨h1, h2⟩ := List.getElem?_eq_some_iff.mp h
  rw [List.drop_eq_getElem_cons h1, h2]
@[simp] theorem lst_tab (n : Nat) (f : Nat → Nat) : dLstOf [tabD n f] = some (tabD n f) := rfl
theorem down_range {n : Nat} (h : 1 ≤ n) (h2 : n ≤ 1000) : dRange [.int ((n : Int) - 1), .int (-1), .int (-1)] = some ((List.range n).map fun (k : Nat) => .int ((n : Int) - 1 - (k : Int))) := by
  show (if rgOk ((n : Int) - 1) && rgOk (-1) then some (rangeC ((n : Int) - 1) (-1) ((n : Int) - 1 - -1).toNat) else none) = _
  rw [rgOk_of (by omega), rgOk_of (by decide)]
  unfold rangeC
  rw [show ((n : Int) - 1 - -1).toNat = n by omega]
  simp only [Bool.and_self, if_true]
  congr 1
  apply List.map_congr_left
  intro k _
  congr 1
  omega
theorem sizeW_snoc : ∀ (vs r : List Nat) (w n : Nat), r.length = vs.length → sizeW (vs ++ [w]) (r ++ [n]) = sizeW vs r + n * w
  | [], [], w, n, _ => by
    show n * w + sizeW [] [] = _
    exact Nat.add_comm _ _
  | v :: vs, k :: r, w, n, h => by
    show k * v + sizeW (vs ++ [w]) (r ++ [n]) = k * v + sizeW vs r + n * w
    rw [sizeW_snoc vs r w n (by simpa using h)]
    omega
theorem worthW_snoc : ∀ (vs r : List Nat) (w n : Nat), r.length = vs.length → worthW (vs ++ [w]) (r ++ [n]) = worthW vs r + w * n
  | [], [], w, n, _ => by
    show w * n + worthW [] [] = _
    exact Nat.add_comm _ _
  | v :: vs, k :: r, w, n, h => by
    show v * k + worthW (vs ++ [w]) (r ++ [n]) = v * k + worthW vs r + w * n
    rw [worthW_snoc vs r w n (by simpa using h)]
    omega
/-! ### a piece more -/
theorem sizeW_set : ∀ (ws r : List Nat) (i k w m : Nat), r[i]? = some k → ws[i]? = some w → sizeW ws (r.set i m) + k * w = sizeW ws r + m * w
  | w0 :: ws, k0 :: r, 0, k, w, m, h1, h2 => by
    simp at h1 h2
    subst h1 h2
    show m * w0 + sizeW ws r + k0 * w0 = k0 * w0 + sizeW ws r + m * w0
    omega
  | w0 :: ws, k0 :: r, i + 1, k, w, m, h1, h2 => by
    have := sizeW_set ws r i k w m (by simpa using h1) (by simpa using h2)
    show k0 * w0 + sizeW ws (r.set i m) + k * w = k0 * w0 + sizeW ws r + m * w
    omega
  | [], _, i, k, w, m, _, h2 => by simp at h2
  | _ :: _, [], i, k, w, m, h1, _ => by simp at h1
theorem worthW_set : ∀ (ws r : List Nat) (i k w m : Nat), r[i]? = some k → ws[i]? = some w → worthW ws (r.set i m) + w * k = worthW ws r + w * m
  | w0 :: ws, k0 :: r, 0, k, w, m, h1, h2 => by
    simp at h1 h2
    subst h1 h2
    show w0 * m + worthW ws r + w0 * k0 = w0 * k0 + worthW ws r + w0 * m
    omega
  | w0 :: ws, k0 :: r, i + 1, k, w, m, h1, h2 => by
    have := worthW_set ws r i k w m (by simpa using h1) (by simpa using h2)
    show w0 * k0 + worthW ws (r.set i m) + w * k = w0 * k0 + worthW ws r + w * m
    omega
  | [], _, i, k, w, m, _, h2 => by simp at h2
  | _ :: _, [], i, k, w, m, h1, _ => by simp at h1
theorem sizeW_zero : ∀ (ws : List Nat) (n : Nat), sizeW ws (List.replicate n 0) = 0
  | [], n => by cases n <;> rfl
  | w :: ws, 0 => rfl
  | w :: ws, n + 1 => by
    rw [List.replicate_succ]
    show 0 * w + sizeW ws (List.replicate n 0) = 0
    rw [sizeW_zero ws n]
    omega
theorem worthW_zero : ∀ (ws : List Nat) (n : Nat), worthW ws (List.replicate n 0) = 0
  | [], n => by cases n <;> rfl
  | w :: ws, 0 => rfl
  | w :: ws, n + 1 => by
    rw [List.replicate_succ]
    show w * 0 + worthW ws (List.replicate n 0) = 0
    rw [worthW_zero ws n]
    omega
theorem sizeW_ge {ws r : List Nat} {i k w : Nat} (h1 : r[i]? = some k) (h2 : ws[i]? = some w) (h3 : 0 < k) : w ≤ sizeW ws r := by
  have := sizeW_set ws r i k w 0 h1 h2
  have h4 : w ≤ k * w := Nat.le_mul_of_pos_left w h3
  omega
theorem row_zero {r : List Nat} (h : ∀ (i k : Nat), r[i]? = some k → k = 0) : r = List.replicate r.length 0 := by
  apply List.ext_getElem?
  intro i
  rw [List.getElem?_replicate]
  by_cases hi : i < r.length
  · rw [if_pos hi, List.getElem?_eq_getElem hi]
    rw [h i _ (List.getElem?_eq_getElem hi)]
  · rw [if_neg hi, List.getElem?_eq_none (by omega)]
theorem set_back {r : List Nat} {i k m : Nat} (h : r[i]? = some k) : (r.set i m).set i k = r := by
  rw [List.set_set]
  apply List.ext_getElem?
  intro j
  by_cases hj : i = j
  · subst hj
    rw [List.getElem?_set_self (List.getElem?_eq_some_iff.mp h).1, h]
  · rw [List.getElem?_set_ne hj]
/-- (0,) * n -/
theorem zero_row {n : Nat} (h : 1 ≤ n) (h2 : n ≤ 1000) : dMulA (.tup [.int 0]) (.int (n : Int)) = some (natT (List.replicate n 0)) := by
  have e : ∀ n : Nat, (List.replicate n [D.int 0]).flatten = (List.replicate n 0).map fun (n : Nat) => D.int (n : Int) := fun n => by
    induction n with
    | zero => rfl
    | succ n ih => rw [List.replicate_succ, List.flatten_cons, ih, List.replicate_succ]; rfl
  by_cases h1 : n = 1
  · subst h1
    simp [dMulA]
  · show (if (n : Int) = 1 then some (D.tup [.int 0]) else if ([D.int 0] ≠ [] ∧ 2 ≤ (n : Int) ∧ (n : Int) ≤ 1000 ∧ [D.int 0].length ≤ 1000) then some (D.tup (List.replicate (n : Int).toNat [D.int 0]).flatten) else none) = _
    rw [if_neg (by omega), if_pos ⟨by simp, by omega, by omega, by simp⟩, Int.toNat_natCast, e]

theorem cut_ok (s : ShopT) {i : Nat} {p : Str × Nat × Nat} (h : s.pieces[i]? = some p) (l : Nat) (S : Sto) : m__law_cut [s.t, .int (l : Int), .int (i : Int)] S = .ok (if l < p.2.1 then .non else .int ((l - p.2.1 - s.kerf : Nat) : Int)) S := by
  unfold m__law_cut b__law_cut
  by_cases hl : l < p.2.1
  · have h1 : (l : Int) < p.2.1 := by omega
    have h2 : (l : Int) - p.2.1 < 0 := by omega
    simp [ShopT.t, piece_at h, pieceD, hl, h2]
  · have h2 : ¬ (l : Int) - p.2.1 < 0 := by omega
    simp [ShopT.t, piece_at h, pieceD, hl, h2, dMin]
    split <;> omega
def lrowD (kf : Nat) (p : List Nat × Nat) : D := .tup [natT p.1, .int ((p.2 - kf : Nat) : Int)]
theorem lpat_ok (s : ShopT) (hp : PiecesOk s.pieces) {len : Nat} (hr : len + s.kerf ≤ 90000) (hm : Rw s.ws (len + s.kerf) ≤ 3000) (S : Sto) : m__law_patterns [s.t, .int (len : Int)] S = .ok (.lst ((rowsW s.ws (len + s.kerf)).map natT)) S := by
  have hpos := ws_pos hp
  have hbf : ∀ i, ((s.ws.take i).foldl extW [([], len + s.kerf)]).length ≤ 3000 := fun i => by
    rw [ext_rows, rows_len _ _ fun x hx => hpos x (List.mem_of_mem_take hx)]
    exact Nat.le_trans (Rw_take _ _ _ hpos) hm
  have hbr : ∀ i, ∀ p ∈ (s.ws.take i).foldl extW [([], len + s.kerf)], p.1.length ≤ 6 ∧ p.2 ≤ len + s.kerf := fun i p hpp => by
    rw [ext_rows] at hpp
    obtain ⟨r, l⟩ := p
    obtain ⟨h1, _, h3⟩ := (rows_mem _ _ _ _ fun x hx => hpos x (List.mem_of_mem_take hx)).mp hpp
    show r.length ≤ 6 ∧ l ≤ _
    have := hp.len
    rw [h1, List.length_take, ws_len]
    omega
  unfold m__law_patterns b__law_patterns
  have hl6 := hp.len
  simp [ShopT.t]
  rw [rg1 (by omega)]
  simp
  apply post_ok
  refine then_post (P := fun o S' => S' = S ∧ ∃ a b c d e, o = .nx [some s.t, some (.int (len : Int)), some (.lst ((rowsL s.ws (len + s.kerf)).map (lrowD s.kerf))), a, b, c, d, e]) ?_ fun o S' ⟨e1, a, b, c, d, e, e2⟩ => ?_
  · refine forL_map (P := fun j ρ S' => S' = S ∧ ∃ a b c d e, ρ = [some s.t, some (.int (len : Int)), some (.lst (((s.ws.take j).foldl extW [([], len + s.kerf)]).map (lrowD s.kerf))), a, b, c, d, e]) (List.range s.pieces.length)
      ⟨rfl, none, none, none, none, none, ?_⟩ (fun j x hj ρ S' ⟨e1, a, b, c, d, e, e2⟩ => ?_) fun ρ S' ⟨e1, a, b, c, d, e, e2⟩ => ⟨e1, a, b, c, d, e, ?_⟩
    · rw [List.take_zero]
      simp [lrowD, ShopT.t]
    · obtain ⟨h1, h2⟩ := List.getElem?_eq_some_iff.mp hj
      rw [List.getElem_range] at h2
      subst h2 e1 e2
      rw [List.length_range] at h1
      obtain ⟨pc, hpc⟩ : ∃ pc, s.pieces[j]? = some pc := ⟨_, List.getElem?_eq_getElem h1⟩
      have hw : s.ws[j]? = some (pc.2.1 + s.kerf) := by
        unfold ShopT.ws
        rw [List.getElem?_map, hpc]
        rfl
      have hlp := hp.pos _ (List.mem_of_getElem? hpc)
      rw [rw_fold extW s.ws _ j _ hw]
      have hb1 := hbf (j + 1)
      rw [rw_fold extW s.ws _ j _ hw] at hb1
      have hb3 := hbr j
      generalize (s.ws.take j).foldl extW [([], len + s.kerf)] = rs at *
      have hcut := cut_ok s hpc
      generalize hw' : pc.2.1 + s.kerf = w at *
      have hwp : 0 < w := by omega
      simp
      refine then_post (P := fun o S'' => S'' = S' ∧ ∃ c d e, o = .nx [some s.t, some (.int (len : Int)), some (.lst (rs.map (lrowD s.kerf))), some (.int (j : Int)), some (.lst ((extW rs w).map (lrowD s.kerf))), c, d, e]) ?_ fun o S'' ⟨e1, c, d, e, e2⟩ => ?_
      · refine forL_map (P := fun i ρ S'' => S'' = S' ∧ ∃ c d e, ρ = [some s.t, some (.int (len : Int)), some (.lst (rs.map (lrowD s.kerf))), some (.int (j : Int)), some (.lst ((extW (rs.take i) w).map (lrowD s.kerf))), c, d, e]) rs
          ⟨rfl, c, d, e, rfl⟩ (fun i x hi ρ S'' ⟨e1, c, d, e, e2⟩ => ?_) fun ρ S'' ⟨e1, c, d, e, e2⟩ => ⟨e1, c, d, e, ?_⟩
        · subst e1 e2
          obtain ⟨r, l⟩ := x
          obtain ⟨hrl, hll⟩ := hb3 _ (List.mem_of_getElem? hi)
          have hle := extW_le (rs := rs) (w := w) (i := i + 1)
          rw [extW_take hi] at hle ⊢
          have hrl' : r.length ≤ 6 := hrl
          have hll' : l ≤ len + s.kerf := hll
          have hex : (extW (rs.take i) w).length + (l / w + 1) ≤ 3000 := by
            rw [List.length_append, List.length_map, List.length_range] at hle
            show _ + ((r, l).2 / w + 1) ≤ _
            omega
          generalize extW (rs.take i) w = ps at *
          simp [lrowD]
          refine Res.post_mono (whL_run (P := fun m ρ S2 => S2 = S'' ∧ ∃ k : Nat, m + k = l / w + 1 ∧ ρ = [some s.t, some (.int (len : Int)), some (.lst (rs.map (lrowD s.kerf))), some (.int (j : Int)), some (.lst ((ps ++ (List.range k).map fun k => (r ++ [k], l - k * w)).map (lrowD s.kerf))), some (natT r), some (if k ≤ l / w then .int ((l - k * w - s.kerf : Nat) : Int) else .non), some (.int (k : Int))])
            (Q := fun o S2 => S2 = S'' ∧ ∃ c d e, o = .nx [some s.t, some (.int (len : Int)), some (.lst (rs.map (lrowD s.kerf))), some (.int (j : Int)), some (.lst ((ps ++ (List.range (l / w + 1)).map fun k => (r ++ [k], l - k * w)).map (lrowD s.kerf))), c, d, e]) (fun m ρ S2 ⟨e1, k, hm, e2⟩ => ?_) FUEL (l / w + 1) _ _ ?_ ⟨rfl, 0, by omega, ?_⟩) fun o S2 ⟨e1, c, d, e, e2⟩ => ?_
          · subst e1 e2
            by_cases hk : k ≤ l / w
            · have hkl : k * w ≤ l := (Nat.le_div_iff_mul_le hwp).mp hk
              simp only [hk, if_true]
              have hap : mAppend ((ps ++ (List.range k).map fun k => (r ++ [k], l - k * w)).map (lrowD s.kerf)) [.tup [.tup ((r.map fun (n : Nat) => D.int (n : Int)) ++ [.int (k : Int)]), .int ((l - k * w - s.kerf : Nat) : Int)]] = some ((ps ++ (List.range (k + 1)).map fun k => (r ++ [k], l - k * w)).map (lrowD s.kerf), .non) := by
                show (if _ then _ else _) = _
                rw [if_pos (by rw [List.length_map, List.length_append, List.length_map, List.length_range, szl]; omega)]
                rw [List.range_succ]
                simp [lrowD]
              have hrz : (r.map fun (n : Nat) => D.int (n : Int)).length + 1 ≤ sizeLine := szk (by rw [List.length_map]; omega)
              generalize hX : (ps ++ (List.range k).map fun k => (r ++ [k], l - k * w)).map (lrowD s.kerf) = X at *
              generalize hY : (ps ++ (List.range (k + 1)).map fun k => (r ++ [k], l - k * w)).map (lrowD s.kerf) = Y at *
              simp [d_add_tup _ _ (show (r.map fun (n : Nat) => D.int (n : Int)).length + [D.int (k : Int)].length ≤ sizeLine from hrz), hcut]
              refine ⟨m - 1, by omega, ?_⟩
              rw [hap]
              simp [stepP]
              refine ⟨k + 1, by omega, ?_, ?_, by omega⟩
              · rw [← hY]
                simp
              · by_cases h2 : k + 1 ≤ l / w
                · have h3 := (Nat.le_div_iff_mul_le hwp).mp h2
                  rw [Nat.add_mul] at h3
                  rw [if_pos h2, if_neg (by omega), Nat.add_mul]
                  congr 2
                  omega
                · have h3 : ¬ (k + 1) * w ≤ l := fun q => h2 ((Nat.le_div_iff_mul_le hwp).mpr q)
                  rw [Nat.add_mul] at h3
                  rw [if_neg h2, if_pos (by omega)]
            · have hk2 : k = l / w + 1 := by omega
              subst hk2
              simp [hk]
          · have h2 : l / w ≤ l := Nat.div_le_self l w
            unfold FUEL
            omega
          · simp
          · subst e1 e2
            simp [stepP]
        · rw [e2, List.take_length]
      · subst e1 e2
        simp [stepP]
    · rw [e2, List.length_range, ← ws_len, List.take_length, ext_rows]
  · subst e1 e2
    simp
    rw [compL_map (enc := lrowD s.kerf) (g := fun p => natT p.1) _ (fun p hp => by simp [lrowD])]
    have hlen : (rowsL s.ws (len + s.kerf)).length ≤ sizeLine := by
      rw [rows_len _ _ hpos, szl]
      omega
    simp [hlen, rowsW]

/-! ### sorted rows of numbers, each once -/
theorem cast_lt : ∀ a b : List Nat, ((a.map fun (n : Nat) => (n : Int)) < (b.map fun (n : Nat) => (n : Int))) ↔ a < b
  | [], [] => by simp
  | [], y :: ys => by simp
  | x :: xs, [] => by simp
  | x :: xs, y :: ys => by
    rw [List.map_cons, List.map_cons, List.cons_lt_cons_iff, List.cons_lt_cons_iff, cast_lt xs ys, Int.ofNat_lt, Int.ofNat_inj]
theorem natP_lt (a b : List Nat) : PySem.W.dataLt (natP a) (natP b) = decide (a < b) := by
  have e : ∀ r : List Nat, (r.map fun (n : Nat) => PyData.int (n : Int)) = (r.map fun (n : Nat) => (n : Int)).map PyData.int := fun r => by simp
  show PySem.W.rowLt (a.map fun (n : Nat) => PyData.int (n : Int)) (b.map fun (n : Nat) => PyData.int (n : Int)) = _
  rw [e, e, PySem.W.dataLt_ints]
  simp [cast_lt]
def leW (a b : List Nat) : Bool := !decide (b < a)
theorem natP_le : PySem.W.dataLe false natP = leW := by
  rw [PySem.W.dataLe_eq]
  funext a b
  show (!PySem.W.dataLt (natP b) (natP a)) = _
  rw [natP_lt]
  rfl
theorem sortOk_rows {rs : List (List Nat)} (h : ∀ r ∈ rs, r ≠ []) : sortOk (rs.map natP) = true := by
  have e : ∀ r : List Nat, (r.map fun (n : Nat) => PyData.int (n : Int)) = (r.map fun (n : Nat) => (n : Int)).map PyData.int := fun r => by simp
  unfold sortOk
  rw [Bool.and_eq_true, Bool.and_eq_true]
  refine ⟨⟨?_, ?_⟩, ?_⟩
  · rw [List.all_eq_true]
    intro a ha
    rw [List.all_eq_true]
    intro b hb
    obtain ⟨x, _, rfl⟩ := List.mem_map.mp ha
    obtain ⟨y, _, rfl⟩ := List.mem_map.mp hb
    rw [PySem.W.alike, e, e]
    exact PySem.W.alike_ints _ _
  · rw [Bool.or_eq_true]
    refine .inl ?_
    rw [List.all_eq_true]
    intro a ha
    obtain ⟨x, hx, rfl⟩ := List.mem_map.mp ha
    cases x with
    | nil => exact absurd rfl (h _ hx)
    | cons n r => rfl
  · rw [List.all_eq_true]
    intro a ha
    obtain ⟨x, hx, rfl⟩ := List.mem_map.mp ha
    have := encRow.dep x
    simp only [decide_eq_true_eq]
    omega
theorem sorted_rows {rs : List (List Nat)} (h : ∀ r ∈ rs, r ≠ []) : dSorted [.lst (rs.map natT)] = some (.lst ((rs.mergeSort leW).map natT)) := by
  show (pyAll (rs.map natT)).bind (fun ps => if sortOk ps then some (D.lst (sortD (rs.map natT) ps)) else none) = _
  rw [pyAll_map (p := natP) encRow.py rs]
  show (if sortOk (rs.map natP) = true then some (D.lst (sortD (rs.map natT) (rs.map natP))) else none) = _
  rw [if_pos (sortOk_rows h)]
  congr 2
  unfold sortD
  rw [show (rs.map natT).zip (rs.map natP) = rs.map fun r => (natT r, natP r) by
    clear h
    induction rs with
    | nil => rfl
    | cons r rs ih => rw [List.map_cons, List.map_cons, List.zip_cons_cons, ih, List.map_cons]]
  rw [← List.map_mergeSort (r := leW) (f := fun r : List Nat => (natT r, natP r)) (s := PySem.W.dataLe false (·.2)) (fun a _ b _ => by
    show leW a b = PySem.W.dataLe false natP a b
    rw [natP_le]), List.map_map]
  rfl
theorem leW_iff (a b : List Nat) : leW a b = true ↔ a ≤ b := by
  unfold leW
  simp
theorem leW_trans (a b c : List Nat) (h : leW a b = true) (h2 : leW b c = true) : leW a c = true := by
  rw [leW_iff] at *
  exact List.le_trans h h2
theorem leW_total (a b : List Nat) : (leW a b || leW b a) = true := by
  rw [Bool.or_eq_true, leW_iff, leW_iff]
  exact List.le_total a b
/-- the neighbours that are alike, left out -/
def dedAt (L : List (List Nat)) : List Nat := (List.range L.length).filter fun i => decide (i = 0) || decide (L.getD i [] ≠ L.getD (i - 1) [])
def dedW (L : List (List Nat)) : List (List Nat) := (dedAt L).map fun i => L.getD i []
theorem getD_eq {α : Type} {L : List α} {i : Nat} {d : α} (h : i < L.length) : L.getD i d = L[i] := by
  rw [List.getD_eq_getElem?_getD, List.getElem?_eq_getElem h]
  rfl
theorem ded_sorted {L : List (List Nat)} (h : L.Pairwise fun a b => leW a b = true) : (dedW L).Pairwise (· < ·) := by
  unfold dedW dedAt
  rw [List.pairwise_map, List.pairwise_filter]
  refine List.Pairwise.imp_of_mem ?_ List.pairwise_lt_range
  intro i j hi hj hlt _ hpj
  have hi' := List.mem_range.mp hi
  have hj' := List.mem_range.mp hj
  rw [getD_eq hi', getD_eq hj']
  rw [getD_eq hj', getD_eq (show j - 1 < L.length by omega)] at hpj
  have hne : L[j] ≠ L[j - 1] := by
    simp at hpj
    rcases hpj with z | z
    · omega
    · exact z
  have h1 : L[i] ≤ L[j - 1] := by
    by_cases e : i = j - 1
    · subst e
      exact List.le_refl _
    · exact (leW_iff _ _).mp (List.pairwise_iff_getElem.mp h i (j - 1) hi' (by omega) (by omega))
  have h2 : L[j - 1] ≤ L[j] := (leW_iff _ _).mp (List.pairwise_iff_getElem.mp h (j - 1) j (by omega) hj' (by omega))
  by_cases z : L[i] < L[j]
  · exact z
  · have h3 : L[j] ≤ L[i] := List.not_lt.mp z
    exact absurd (List.le_antisymm (List.le_trans h3 h1) h2) hne
theorem ded_mem {L : List (List Nat)} {x : List Nat} : x ∈ dedW L ↔ x ∈ L := by
  unfold dedW dedAt
  rw [List.mem_map]
  constructor
  · rintro ⟨i, hi, rfl⟩
    have := List.mem_range.mp (List.mem_filter.mp hi).1
    rw [getD_eq this]
    exact List.getElem_mem _
  · intro hx
    obtain ⟨i, hi, e⟩ := List.mem_iff_getElem.mp hx
    have go : ∀ i (hi : i < L.length), L[i] = x → ∃ i, i ∈ (List.range L.length).filter (fun i => decide (i = 0) || decide (L.getD i [] ≠ L.getD (i - 1) [])) ∧ L.getD i [] = x := by
      intro i
      induction i with
      | zero => exact fun hi e => ⟨0, List.mem_filter.mpr ⟨List.mem_range.mpr hi, rfl⟩, by rw [getD_eq hi, e]⟩
      | succ i ih =>
        intro hi e
        by_cases z : L[i] = x
        · exact ih (by omega) z
        · refine ⟨i + 1, List.mem_filter.mpr ⟨List.mem_range.mpr hi, ?_⟩, by rw [getD_eq hi, e]⟩
          rw [getD_eq hi, e, Nat.add_sub_cancel, getD_eq (show i < L.length by omega)]
          simp
          exact fun q => z q.symm
    exact go i hi e
theorem sorted_same : ∀ {l m : List (List Nat)}, l.Pairwise (· < ·) → m.Pairwise (· < ·) → (∀ x, x ∈ l ↔ x ∈ m) → l = m
  | [], [], _, _, _ => rfl
  | [], y :: m, _, _, h => by have := (h y).mpr List.mem_cons_self; cases this
  | x :: l, [], _, _, h => by have := (h x).mp List.mem_cons_self; cases this
  | x :: l, y :: m, h1, h2, h => by
    obtain ⟨a1, a2⟩ := List.pairwise_cons.mp h1
    obtain ⟨b1, b2⟩ := List.pairwise_cons.mp h2
    have exy : x = y := by
      rcases List.mem_cons.mp ((h x).mp List.mem_cons_self) with e | e
      · exact e
      · rcases List.mem_cons.mp ((h y).mpr List.mem_cons_self) with f | f
        · exact f.symm
        · exact absurd (List.lt_trans (a1 y f) (b1 x e)) (List.lt_irrefl x)
    subst exy
    congr 1
    refine sorted_same a2 b2 fun z => ⟨fun hz => ?_, fun hz => ?_⟩
    · rcases List.mem_cons.mp ((h z).mp (List.mem_cons_of_mem _ hz)) with e | e
      · subst e
        exact absurd (a1 z hz) (List.lt_irrefl z)
      · exact e
    · rcases List.mem_cons.mp ((h z).mpr (List.mem_cons_of_mem _ hz)) with e | e
      · subst e
        exact absurd (b1 z hz) (List.lt_irrefl z)
      · exact e
/-- what is sorted, each once, is told by its members -/
theorem uniq_rows {some rows : List (List Nat)} (h : rows.Pairwise (· < ·)) (hm : ∀ x, x ∈ some ↔ x ∈ rows) : dedW (some.mergeSort leW) = rows :=
  sorted_same (ded_sorted (List.pairwise_mergeSort leW_trans leW_total some)) h fun x => by
    rw [ded_mem, List.mem_mergeSort]
    exact hm x

theorem worth_size : ∀ (ws r : List Nat), worthW ws r = sizeW ws r
  | [], [] => rfl
  | [], _ :: _ => rfl
  | _ :: _, [] => rfl
  | w :: ws, k :: r => by
    show w * k + worthW ws r = k * w + sizeW ws r
    rw [worth_size ws r, Nat.mul_comm]

theorem is_bool (i j : Bool) (S : Sto) : m__law_is [.bl i, .bl j] S = .ok (.bl (decide (i = j))) S := by
  unfold m__law_is r__law_is b__law_is
  cases j <;> cases i <;> simp -implicitDefEqProofs

/-! ### _law_is of what is the same -/
mutual
/-- plain: None, truth values, ints, texts, tuples of such; at most so deep -/
def pl : Nat → D → Bool
  | _, .non => true
  | _, .bl _ => true
  | _, .int _ => true
  | _, .str x => PyData.strOk x
  | n + 1, .tup xs => pls n xs && decide (xs.length ≤ 100000)
  | _, _ => false
def pls : Nat → List D → Bool
  | _, [] => true
  | n, d :: ds => pl n d && pls n ds
end
theorem pls_mem {n : Nat} : ∀ {ds : List D}, pls n ds = true → ∀ d ∈ ds, pl n d = true
  | d :: ds, h, e, he => by
    have h' : (pl n d && pls n ds) = true := h
    rw [Bool.and_eq_true] at h'
    rcases List.mem_cons.mp he with rfl | he
    · exact h'.1
    · exact pls_mem h'.2 e he
theorem law_is_self : ∀ (n : Nat) (d : D) (S : Sto), pl n d = true → r__law_is (n + 1) [d, d] S = .ok (.bl true) S := by
  intro n
  induction n with
  | zero =>
    intro d S h
    show runD 3 (b__law_is (r__law_is 0)) _ _ = _
    unfold b__law_is
    cases d with
    | non => simp -implicitDefEqProofs [-Int.natCast_add]
    | bl b => cases b <;> simp -implicitDefEqProofs [-Int.natCast_add]
    | int i => simp -implicitDefEqProofs [-Int.natCast_add]
    | str x =>
      have e := encStr.eq h h false
      simp -implicitDefEqProofs [-Int.natCast_add, e]
    | tup xs => cases h
    | _ => cases h
  | succ n ih =>
    intro d S h
    show runD 3 (b__law_is (r__law_is (n + 1))) _ _ = _
    unfold b__law_is
    cases d with
    | non => simp -implicitDefEqProofs [-Int.natCast_add]
    | bl b => cases b <;> simp -implicitDefEqProofs [-Int.natCast_add]
    | int i => simp -implicitDefEqProofs [-Int.natCast_add]
    | str x =>
      have e := encStr.eq h h false
      simp -implicitDefEqProofs [-Int.natCast_add, e]
    | tup xs =>
      have h' : (pls n xs && decide (xs.length ≤ 100000)) = true := h
      rw [Bool.and_eq_true, decide_eq_true_eq] at h'
      have hnil : dEq (.lst []) (.lst []) = some (.bl true) := encInt.lst.eq (a := []) (b := []) (fun _ _ => trivial) (fun _ _ => trivial) false
      simp -implicitDefEqProofs [-Int.natCast_add]
      rw [rg1 (by omega)]
      simp -implicitDefEqProofs [-Int.natCast_add]
      rw [compL_rangeF (g := fun (k : Nat) => .int (k : Int)) (p := fun _ => false) xs.length (fun k hk => by
        have hx : xs[k]? = some xs[k] := List.getElem?_eq_getElem hk
        have e := d_ixt hx
        have i := ih xs[k] S (pls_mem h'.1 _ (List.getElem_mem hk))
        simp -implicitDefEqProofs [-Int.natCast_add, e, i])]
      have hf : (List.range xs.length).filter (fun _ => false) = [] := by simp
      simp -implicitDefEqProofs [-Int.natCast_add, hf, hnil]
    | _ => cases h
theorem pl_nats (n : Nat) (r : List Nat) (h : r.length ≤ 100000) : pl (n + 1) (natT r) = true := by
  show (pls n (r.map fun (n : Nat) => D.int (n : Int)) && decide ((r.map fun (n : Nat) => D.int (n : Int)).length ≤ 100000)) = true
  rw [Bool.and_eq_true, decide_eq_true_eq, List.length_map]
  refine ⟨?_, h⟩
  clear h
  induction r with
  | nil => cases n <;> rfl
  | cons a r ih =>
    show (pl n (.int (a : Int)) && pls n (r.map fun (n : Nat) => D.int (n : Int))) = true
    rw [ih]
    cases n <;> rfl
theorem pl_rows (n : Nat) (L : List (List Nat)) (h : L.length ≤ 100000) (h2 : ∀ r ∈ L, r.length ≤ 100000) : pl (n + 2) (.tup (L.map natT)) = true := by
  show (pls (n + 1) (L.map natT) && decide ((L.map natT).length ≤ 100000)) = true
  rw [Bool.and_eq_true, decide_eq_true_eq, List.length_map]
  refine ⟨?_, h⟩
  clear h
  induction L with
  | nil => rfl
  | cons a r ih =>
    show (pl (n + 1) (natT a) && pls (n + 1) (r.map natT)) = true
    rw [ih fun x hx => h2 x (List.mem_cons_of_mem _ hx), pl_nats n a (h2 a List.mem_cons_self)]
    rfl
theorem is_rows (L : List (List Nat)) (h : L.length ≤ 100000) (h2 : ∀ r ∈ L, r.length ≤ 100000) (S : Sto) : m__law_is [.tup (L.map natT), .tup (L.map natT)] S = .ok (.bl true) S := law_is_self 11 _ S (pl_rows 9 L h h2)

/-! ### any plain values -/
theorem pl_py : ∀ (n : Nat) (d : D), pl n d = true → ∃ x, d.py = some x ∧ x.canLay0 = true ∧ x.depth ≤ n := by
  intro n
  induction n with
  | zero =>
    intro d h
    cases d with
    | non => exact ⟨.none, rfl, by simp [PyData.canLay0], by simp [PyData.depth]⟩
    | bl b => exact ⟨.bool b, rfl, by simp [PyData.canLay0], by simp [PyData.depth]⟩
    | int i => exact ⟨.int i, rfl, by simp [PyData.canLay0], by simp [PyData.depth]⟩
    | str x => exact ⟨.str x, rfl, by rw [PyData.canLay0]; exact h, by simp [PyData.depth]⟩
    | _ => cases h
  | succ n ih =>
    intro d h
    cases d with
    | non => exact ⟨.none, rfl, by simp [PyData.canLay0], by simp [PyData.depth]⟩
    | bl b => exact ⟨.bool b, rfl, by simp [PyData.canLay0], by simp [PyData.depth]⟩
    | int i => exact ⟨.int i, rfl, by simp [PyData.canLay0], by simp [PyData.depth]⟩
    | str x => exact ⟨.str x, rfl, by rw [PyData.canLay0]; exact h, by simp [PyData.depth]⟩
    | tup xs =>
      have h' : (pls n xs && decide (xs.length ≤ 100000)) = true := h
      rw [Bool.and_eq_true] at h'
      have go : ∀ xs : List D, pls n xs = true → ∃ ys, pyAll xs = some ys ∧ PyData.canLayAll0 ys = true ∧ PyData.depthAll ys ≤ n := by
        intro xs
        induction xs with
        | nil => exact fun _ => ⟨[], rfl, by simp [PyData.canLayAll0], by simp [PyData.depthAll]⟩
        | cons d r ihl =>
          intro h
          have h2 : (pl n d && pls n r) = true := h
          rw [Bool.and_eq_true] at h2
          obtain ⟨x, e1, e2, e3⟩ := ih d h2.1
          obtain ⟨ys, f1, f2, f3⟩ := ihl h2.2
          refine ⟨x :: ys, ?_, ?_, ?_⟩
          · show (match d.py, pyAll r with
              | some x, some xs => some (x :: xs)
              | _, _ => none) = _
            rw [e1, f1]
          · rw [PyData.canLayAll0, e2, f2]; rfl
          · rw [PyData.depthAll]; omega
      obtain ⟨ys, f1, f2, f3⟩ := go xs h'.1
      refine ⟨.tuple ys, ?_, ?_, ?_⟩
      · show (pyAll xs).map PyData.tuple = _
        rw [f1]; rfl
      · rw [PyData.canLay0]; exact f2
      · rw [PyData.depth]; omega
    | _ => cases h
theorem pls_py (n : Nat) : ∀ xs : List D, pls n xs = true → ∃ ys, pyAll xs = some ys ∧ PyData.canLayAll0 ys = true ∧ PyData.depthAll ys ≤ n
  | [], _ => ⟨[], rfl, by simp [PyData.canLayAll0], by simp [PyData.depthAll]⟩
  | d :: r, h => by
    have h2 : (pl n d && pls n r) = true := h
    rw [Bool.and_eq_true] at h2
    obtain ⟨x, e1, e2, e3⟩ := pl_py n d h2.1
    obtain ⟨ys, f1, f2, f3⟩ := pls_py n r h2.2
    refine ⟨x :: ys, ?_, ?_, ?_⟩
    · show (match d.py, pyAll r with
        | some x, some xs => some (x :: xs)
        | _, _ => none) = _
      rw [e1, f1]
    · rw [PyData.canLayAll0, e2, f2]; rfl
    · rw [PyData.depthAll]; omega
theorem pyAll_len : ∀ {xs : List D} {ys : List PyData}, pyAll xs = some ys → ys.length = xs.length
  | [], ys, h => by cases (show some ([] : List PyData) = some ys from h); rfl
  | d :: r, ys, h => by
    have h' : (match d.py, pyAll r with
        | some x, some xs => some (x :: xs)
        | _, _ => none) = some ys := h
    cases e1 : d.py with
    | none => rw [e1] at h'; cases h'
    | some x => cases e2 : pyAll r with
      | none => rw [e1, e2] at h'; cases h'
      | some zs =>
        rw [e1, e2] at h'
        cases h'
        simp [pyAll_len e2]
theorem eqvAll_nil : ∀ ys : List PyData, PyData.eqvAll ys [] = ys.isEmpty
  | [] => by simp [PyData.eqvAll]
  | _ :: _ => by simp [PyData.eqvAll]
theorem sh_nilL : SeqAt.shaped (.list []) = true := by simp [SeqAt.shaped, PyData.canLay0, PyData.canLayAll0, PyData.depth, PyData.depthAll]
theorem sh_nilT : SeqAt.shaped (.tuple []) = true := by simp [SeqAt.shaped, PyData.canLay0, PyData.canLayAll0, PyData.depth, PyData.depthAll]
theorem cmp_nilL {n : Nat} {ds : List D} (hn : n ≤ 60) (h : pls n ds = true) (neg : Bool) : dEqv neg (.lst ds) (.lst []) = some (.bl (if neg then !ds.isEmpty else ds.isEmpty)) := by
  obtain ⟨ys, f1, f2, f3⟩ := pls_py n ds h
  have sh : SeqAt.shaped (.list ys) = true := by
    unfold SeqAt.shaped
    rw [PyData.canLay0, f2, Bool.true_and, PyData.depth]
    exact decide_eq_true (by omega)
  have e1 : D.py (.lst ds) = some (.list ys) := by
    show (pyAll ds).map PyData.list = _
    rw [f1]; rfl
  have e2 : D.py (.lst []) = some (.list []) := rfl
  unfold dEqv
  rw [e1, e2]
  show (if (SeqAt.shaped (.list ys) && SeqAt.shaped (.list [])) = true then _ else _) = _
  rw [sh, sh_nilL]
  have e3 : PyData.eqv (.list ys) (.list []) = ds.isEmpty := by
    rw [PyData.eqv, eqvAll_nil]
    have := pyAll_len f1
    cases ys <;> cases ds <;> simp_all
  simp only [Bool.and_self, if_true, e3]
theorem cmp_nilT {n : Nat} {ds : List D} (hn : n ≤ 60) (h : pls n ds = true) (neg : Bool) : dEqv neg (.tup ds) (.tup []) = some (.bl (if neg then !ds.isEmpty else ds.isEmpty)) := by
  obtain ⟨ys, f1, f2, f3⟩ := pls_py n ds h
  have sh : SeqAt.shaped (.tuple ys) = true := by
    unfold SeqAt.shaped
    rw [PyData.canLay0, f2, Bool.true_and, PyData.depth]
    exact decide_eq_true (by omega)
  have e1 : D.py (.tup ds) = some (.tuple ys) := by
    show (pyAll ds).map PyData.tuple = _
    rw [f1]; rfl
  have e2 : D.py (.tup []) = some (.tuple []) := rfl
  unfold dEqv
  rw [e1, e2]
  show (if (SeqAt.shaped (.tuple ys) && SeqAt.shaped (.tuple [])) = true then _ else _) = _
  rw [sh, sh_nilT]
  have e3 : PyData.eqv (.tuple ys) (.tuple []) = ds.isEmpty := by
    rw [PyData.eqv, eqvAll_nil]
    have := pyAll_len f1
    cases ys <;> cases ds <;> simp_all
  simp only [Bool.and_self, if_true, e3]
theorem pls_of {n : Nat} : ∀ {ds : List D}, (∀ d ∈ ds, pl n d = true) → pls n ds = true
  | [], _ => rfl
  | d :: r, h => by
    show (pl n d && pls n r) = true
    rw [h d List.mem_cons_self, pls_of fun x hx => h x (List.mem_cons_of_mem _ hx)]
    rfl
theorem pls_filter {n : Nat} {ds : List D} (h : pls n ds = true) (p : D → Bool) : pls n (ds.filter p) = true := pls_of fun d hd => pls_mem h d (List.mem_filter.mp hd).1
theorem pl_mono {m : Nat} : ∀ {n : Nat} {d : D}, pl n d = true → n ≤ m → pl m d = true := by
  intro n
  induction n generalizing m with
  | zero =>
    intro d h _
    cases d with
    | non => cases m <;> rfl
    | bl b => cases m <;> rfl
    | int i => cases m <;> rfl
    | str x => cases m <;> exact h
    | _ => cases h
  | succ n ih =>
    intro d h hm
    cases m with
    | zero => omega
    | succ m =>
      cases d with
      | non => rfl
      | bl b => rfl
      | int i => rfl
      | str x => exact h
      | tup xs =>
        have h' : (pls n xs && decide (xs.length ≤ 100000)) = true := h
        rw [Bool.and_eq_true] at h'
        show (pls m xs && decide (xs.length ≤ 100000)) = true
        rw [Bool.and_eq_true]
        exact ⟨pls_of fun d hd => ih (pls_mem h'.1 d hd) (by omega), h'.2⟩
      | _ => cases h
theorem pl_tup {n : Nat} {xs : List D} (h : pl (n + 1) (.tup xs) = true) : pls n xs = true ∧ xs.length ≤ 100000 := by
  have h' : (pls n xs && decide (xs.length ≤ 100000)) = true := h
  rw [Bool.and_eq_true, decide_eq_true_eq] at h'
  exact h'
theorem pl_mk {n : Nat} {xs : List D} (h : pls n xs = true) (h2 : xs.length ≤ 100000) : pl (n + 1) (.tup xs) = true := by
  show (pls n xs && decide (xs.length ≤ 100000)) = true
  rw [Bool.and_eq_true, decide_eq_true_eq]
  exact ⟨h, h2⟩
/-- numbers -/
def isNat : D → Bool
  | .int i => decide (0 ≤ i)
  | _ => false
def isInt : D → Bool
  | .int _ => true
  | _ => false
def isIdx (n : Nat) : D → Bool
  | .int i => decide (0 ≤ i) && decide (i < (n : Int))
  | _ => false
def natOf : D → Nat
  | .int i => i.toNat
  | _ => 0
def natsOf : D → List Nat
  | .tup xs => xs.map natOf
  | _ => []
def isNums (n : Nat) : D → Bool
  | .tup xs => decide (xs.length = n) && xs.all isNat
  | _ => false
theorem isNat_ex {d : D} (h : isNat d = true) : d = .int (natOf d : Int) := by
  cases d with
  | int i =>
    have h' : decide (0 ≤ i) = true := h
    rw [decide_eq_true_eq] at h'
    show D.int i = .int (i.toNat : Int)
    rw [Int.toNat_of_nonneg h']
  | _ => cases h
theorem isNums_ex {n : Nat} {d : D} (h : isNums n d = true) : d = natT (natsOf d) ∧ (natsOf d).length = n := by
  cases d with
  | tup xs =>
    have h' : (decide (xs.length = n) && xs.all isNat) = true := h
    rw [Bool.and_eq_true, decide_eq_true_eq] at h'
    refine ⟨?_, by show (xs.map natOf).length = n; rw [List.length_map]; exact h'.1⟩
    show D.tup xs = .tup ((xs.map natOf).map fun (n : Nat) => .int (n : Int))
    rw [List.map_map]
    congr 1
    have := h'.2
    rw [List.all_eq_true] at this
    clear h' h
    induction xs with
    | nil => rfl
    | cons x r ih =>
      rw [List.map_cons, ← ih fun y hy => this y (List.mem_cons_of_mem _ hy)]
      show x :: r = .int (natOf x : Int) :: r
      rw [← isNat_ex (this x List.mem_cons_self)]
  | _ => cases h
theorem isNums_nat (r : List Nat) : isNums r.length (natT r) = true := by
  show (decide ((r.map fun (n : Nat) => D.int (n : Int)).length = r.length) && (r.map fun (n : Nat) => D.int (n : Int)).all isNat) = true
  rw [List.length_map, decide_eq_true rfl, Bool.true_and, List.all_eq_true]
  intro x hx
  obtain ⟨n, _, rfl⟩ := List.mem_map.mp hx
  show decide (0 ≤ (n : Int)) = true
  simp
theorem natsOf_nat (r : List Nat) : natsOf (natT r) = r := by
  show (r.map fun (n : Nat) => D.int (n : Int)).map natOf = r
  rw [List.map_map]
  exact (List.map_congr_left fun n _ => by show ((n : Int)).toNat = n; simp).trans (List.map_id r)
theorem whole_pl {n : Nat} {d : D} (h : pl n d = true) (S : Sto) : m_is_whole [d] S = .ok (.bl (isInt d)) S := by
  unfold m_is_whole b_is_whole
  cases d with
  | non => simp -implicitDefEqProofs [-Int.natCast_add, isInt, isTyS]
  | bl b => simp -implicitDefEqProofs [-Int.natCast_add, isInt]
  | int i => simp -implicitDefEqProofs [-Int.natCast_add, isInt]
  | str x => simp -implicitDefEqProofs [-Int.natCast_add, isInt, isTyS]
  | tup xs => simp -implicitDefEqProofs [-Int.natCast_add, isInt, isTyS]
  | _ => cases n <;> cases h
theorem lwhole_pl {n : Nat} {d : D} (h : pl n d = true) (S : Sto) : m__law_whole [d] S = .ok (.bl (isInt d)) S := by
  unfold m__law_whole b__law_whole
  cases d with
  | non => simp -implicitDefEqProofs [-Int.natCast_add, isInt, isTyS]
  | bl b => simp -implicitDefEqProofs [-Int.natCast_add, isInt]
  | int i => simp -implicitDefEqProofs [-Int.natCast_add, isInt]
  | str x => simp -implicitDefEqProofs [-Int.natCast_add, isInt, isTyS]
  | tup xs => simp -implicitDefEqProofs [-Int.natCast_add, isInt, isTyS]
  | _ => cases n <;> cases h
theorem number_pl {n : Nat} {d : D} (h : pl n d = true) (S : Sto) : m_is_number [d] S = .ok (.bl (isNat d)) S := by
  unfold m_is_number b_is_number
  have := whole_pl h S
  cases d with
  | int i => simp -implicitDefEqProofs [-Int.natCast_add, isNat]
  | _ => simp -implicitDefEqProofs [-Int.natCast_add, this, isNat, isInt]
theorem index_pl {n : Nat} {d : D} (h : pl n d = true) (many : Nat) (S : Sto) : m_is_index [d, .int (many : Int)] S = .ok (.bl (isIdx many d)) S := by
  unfold m_is_index b_is_index
  have := whole_pl h S
  cases d with
  | int i =>
    by_cases q : 0 ≤ i
    · simp -implicitDefEqProofs [-Int.natCast_add, isIdx, q]
    · simp -implicitDefEqProofs [-Int.natCast_add, isIdx, q]
  | _ => simp -implicitDefEqProofs [-Int.natCast_add, this, isIdx, isInt]
theorem nums_pl {n : Nat} (s : ShopT) {d : D} (h : pl n d = true) (S : Sto) : m_is_numbers_row [s.o, d] S = .ok (.bl (isNums s.pieces.length d)) S := by
  unfold m_is_numbers_row b_is_numbers_row
  cases d with
  | tup xs =>
    cases n with
    | zero => cases h
    | succ n =>
      obtain ⟨h1, h2⟩ := pl_tup h
      have hz : xs.length ≤ sizeLine := by rw [szl]; omega
      by_cases q : xs.length = s.pieces.length
      · have q' : (xs.length : Int) = s.pieces.length := by omega
        simp -implicitDefEqProofs [-Int.natCast_add, ShopT.o, q']
        rw [show compL (cBody (gN 2) sYes (sCall m_is_number [(false, sVar 2)]) [some (shopD (D.tup (List.map stockD s.stocks)) (D.tup (List.map pieceD s.pieces)) (D.int ↑s.kerf)), some (D.tup xs), none]) xs S = .ok (xs.map fun x => .bl (isNat x)) S from by
          have := compL_map (S := S) (f := cBody (gN 2) sYes (sCall m_is_number [(false, sVar 2)]) [some (shopD (D.tup (List.map stockD s.stocks)) (D.tup (List.map pieceD s.pieces)) (D.int ↑s.kerf)), some (D.tup xs), none]) (enc := fun x : D => x) (g := fun x => .bl (isNat x)) xs (fun x hx => by
            simp -implicitDefEqProofs [-Int.natCast_add, number_pl (pls_mem h1 x hx)])
          simpa using this]
        have hz2 : s.pieces.length ≤ sizeLine := by omega
        simp -implicitDefEqProofs [-Int.natCast_add, hz2, all_map isNat, isNums, q]
      · have q' : ¬ (xs.length : Int) = s.pieces.length := by omega
        simp -implicitDefEqProofs [-Int.natCast_add, ShopT.o, q', isNums, q]
  | non => simp -implicitDefEqProofs [-Int.natCast_add, isNums, isTyS]
  | bl b => simp -implicitDefEqProofs [-Int.natCast_add, isNums, isTyS]
  | int i => simp -implicitDefEqProofs [-Int.natCast_add, isNums, isTyS]
  | str x => simp -implicitDefEqProofs [-Int.natCast_add, isNums, isTyS]
  | _ => cases n <;> cases h
theorem compL_self {f : D → M (Option D)} {g : D → D} {S : Sto} (xs : List D) (h : ∀ x ∈ xs, f x S = .ok (some (g x)) S) : compL f xs S = .ok (xs.map g) S := by
  have := compL_map (S := S) (f := f) (enc := fun x : D => x) (g := g) xs h
  simpa using this
theorem compL_selfF {f : D → M (Option D)} {g : D → D} {p : D → Bool} {S : Sto} (xs : List D) (h : ∀ x ∈ xs, f x S = .ok (if p x then some (g x) else none) S) : compL f xs S = .ok ((xs.filter p).map g) S := by
  have := compL_filter (S := S) (f := f) (enc := fun x : D => x) (g := g) (p := p) xs h
  simpa using this
theorem filter_emp {α : Type} (p : α → Bool) (xs : List α) : (xs.filter p).isEmpty = xs.all fun x => !p x := by
  induction xs with
  | nil => rfl
  | cons x r ih =>
    rw [List.filter_cons, List.all_cons]
    cases p x <;> simp [ih]
theorem lnums_pl {n : Nat} {d : D} (hn : n ≤ 60) (h : pl n d = true) (many : Nat) (S : Sto) : m__law_is_numbers [d, .int (many : Int)] S = .ok (.bl (isNums many d)) S := by
  unfold m__law_is_numbers b__law_is_numbers
  cases d with
  | tup xs =>
    cases n with
    | zero => cases h
    | succ n =>
      obtain ⟨h1, h2⟩ := pl_tup h
      have hz : (xs.filter fun x => !isNat x).length ≤ sizeLine := by
        have := List.length_filter_le (fun x => !isNat x) xs
        rw [szl]; omega
      by_cases q : xs.length = many
      · have q' : (xs.length : Int) = many := by omega
        simp -implicitDefEqProofs [-Int.natCast_add, q']
        rw [compL_selfF (g := fun x => x) (p := fun x => !isNat x) xs (fun x hx => by
          have hp := pls_mem h1 x hx
          have hw := lwhole_pl hp S
          cases x with
          | int i =>
            by_cases z : 0 ≤ i
            · have z' : ¬ i < 0 := by omega
              simp -implicitDefEqProofs [-Int.natCast_add, hw, isInt, isNat, z, z']
            · have z' : i < 0 := by omega
              simp -implicitDefEqProofs [-Int.natCast_add, hw, isInt, isNat, z, z']
          | _ => simp -implicitDefEqProofs [-Int.natCast_add, hw, isInt, isNat])]
        have hc := cmp_nilL (n := n) (ds := xs.filter fun x => !isNat x) (by omega) (pls_filter h1 _) false
        rw [filter_emp] at hc
        simp -implicitDefEqProofs [-Int.natCast_add, hz, hc, isNums, q]
      · have q' : ¬ (xs.length : Int) = many := by omega
        simp -implicitDefEqProofs [-Int.natCast_add, q', isNums, q]
  | non => simp -implicitDefEqProofs [-Int.natCast_add, isNums, isTyS]
  | bl b => simp -implicitDefEqProofs [-Int.natCast_add, isNums, isTyS]
  | int i => simp -implicitDefEqProofs [-Int.natCast_add, isNums, isTyS]
  | str x => simp -implicitDefEqProofs [-Int.natCast_add, isNums, isTyS]
  | _ => cases n <;> cases h

/-! ### gives -/
def sto (s : ShopT) (t : Nat) : Str × Nat × Option Nat × Nat := s.stocks.getD t ("", 0, none, 0)
theorem sto_at {s : ShopT} {t : Nat} (h : t < s.stocks.length) : s.stocks[t]? = some (sto s t) := by
  unfold sto
  rw [List.getD_eq_getElem?_getD, List.getElem?_eq_getElem h]
  rfl
/-- what all shops here have -/
structure Sh (s : ShopT) : Prop where
  st : StocksOk s.stocks
  pc : PiecesOk s.pieces
  p3 : s.pieces.length ≤ 3
  kf : s.kerf ≤ 2
  sl : ∀ x ∈ s.stocks, x.2.1 ≤ 15
  pl : ∀ x ∈ s.pieces, x.2.1 ≤ 8
theorem Sh.pos {s : ShopT} (h : Sh s) : ∀ w ∈ s.ws, 0 < w := ws_pos h.pc
theorem Sh.w6 {s : ShopT} (h : Sh s) : ∀ w ∈ s.ws, w ≤ 1000000 := fun w hw => by
  obtain ⟨p, hp, rfl⟩ := List.mem_map.mp hw
  have := h.pl p hp
  have := h.kf
  omega
theorem Rw3a : Rw (List.replicate 3 1) 17 ≤ 3000 := by
  rw [← Rf_eq 30 _ _ (by decide)]
  decide +kernel
theorem Sh.rw {s : ShopT} (h : Sh s) {t : Nat} (ht : t ≤ 17) : Rw s.ws t ≤ 3000 :=
  Nat.le_trans (Rw_narrow (v := 1) (by decide) s.ws 3 t 17 (fun w hw => h.pos w hw) (by rw [ws_len]; exact h.p3) ht) Rw3a
theorem Sh.rm {s : ShopT} (h : Sh s) {t : Nat} (ht : t < s.stocks.length) : (sto s t).2.1 + s.kerf ≤ 17 := by
  have := h.sl _ (List.mem_of_getElem? (sto_at ht))
  have := h.kf
  omega
abbrev Gv := Nat × List Nat
abbrev giveD (g : Gv) : D := .tup [.int (g.1 : Int), natT g.2]
abbrev giveP (g : Gv) : PyData := .tuple [.int (g.1 : Int), natP g.2]
structure GvOk (s : ShopT) (g : Gv) : Prop where
  st : g.1 < s.stocks.length
  ln : g.2.length = s.pieces.length
  nz : g.2.any (· != 0) = true
  fit : sizeW s.ws g.2 ≤ (sto s g.1).2.1 + s.kerf
def isGive (s : ShopT) : D → Bool
  | .tup [a, b] => isIdx s.stocks.length a && (isNums s.pieces.length b && ((natsOf b).any (· != 0) && decide (sizeW s.ws (natsOf b) ≤ (sto s (natOf a)).2.1 + s.kerf)))
  | _ => false
theorem isIdx_ex {n : Nat} {d : D} (h : isIdx n d = true) : d = .int (natOf d : Int) ∧ natOf d < n := by
  cases d with
  | int i =>
    have h' : (decide (0 ≤ i) && decide (i < (n : Int))) = true := h
    rw [Bool.and_eq_true, decide_eq_true_eq, decide_eq_true_eq] at h'
    refine ⟨?_, ?_⟩
    · show D.int i = .int (i.toNat : Int)
      rw [Int.toNat_of_nonneg h'.1]
    · show i.toNat < n
      omega
  | _ => cases h
theorem isGive_ex {s : ShopT} {d : D} (h : isGive s d = true) : ∃ g : Gv, d = giveD g ∧ GvOk s g := by
  unfold isGive at h
  split at h
  · rename_i a b
    rw [Bool.and_eq_true, Bool.and_eq_true, Bool.and_eq_true, decide_eq_true_eq] at h
    obtain ⟨e1, h1⟩ := isIdx_ex h.1
    obtain ⟨e2, h2⟩ := isNums_ex h.2.1
    refine ⟨(natOf a, natsOf b), ?_, h1, h2, h.2.2.1, h.2.2.2⟩
    rw [e1, e2]
    show _ = D.tup [.int ((natOf (.int (natOf a : Int)) : Nat) : Int), natT (natsOf (natT (natsOf b)))]
    rw [natsOf_nat]
    rfl
  · cases h
theorem isGive_of {s : ShopT} {g : Gv} (h : GvOk s g) : isGive s (giveD g) = true := by
  show (isIdx s.stocks.length (.int (g.1 : Int)) && (isNums s.pieces.length (natT g.2) && ((natsOf (natT g.2)).any (· != 0) && decide (sizeW s.ws (natsOf (natT g.2)) ≤ (sto s g.1).2.1 + s.kerf)))) = true
  rw [natsOf_nat, ← h.ln, isNums_nat, h.nz, decide_eq_true h.fit]
  show (decide (0 ≤ (g.1 : Int)) && decide ((g.1 : Int) < (s.stocks.length : Int)) && true) = true
  rw [decide_eq_true (by omega), decide_eq_true (by have := h.st; omega)]
  rfl
theorem anyA_nat (r : List Nat) : dAnyA [natT r] = some (.bl (r.any (· != 0))) := by
  show (intsD (r.map fun (n : Nat) => D.int (n : Int))).map (fun ns => D.bl (ns.any (· != 0))) = _
  rw [intsD_nat]
  show some (D.bl _) = _
  rw [List.any_map, show ((fun x : Int => x != 0) ∘ fun (n : Nat) => (n : Int)) = fun n => n != 0 from funext fun n => by
    by_cases h : n = 0
    · simp [h]
    · have : (n : Int) ≠ 0 := by omega
      exact (bne_iff_ne.mpr this).trans (bne_iff_ne.mpr h).symm]
theorem sum_natT (r : List Nat) : dSumA [natT r] = some (.int (r.sum : Int)) := by
  show (intsD (r.map fun (n : Nat) => D.int (n : Int))).map (fun ns => D.int ns.sum) = _
  rw [intsD_nat]
  show some (D.int _) = _
  rw [sum_nat]
theorem any_sum (r : List Nat) : r.any (· != 0) = decide (0 < r.sum) := by
  induction r with
  | nil => rfl
  | cons a r ih =>
    rw [List.any_cons, ih, List.sum_cons, Bool.eq_iff_iff, Bool.or_eq_true, decide_eq_true_eq, decide_eq_true_eq, bne_iff_ne]
    omega
theorem give_pl {n : Nat} {s : ShopT} (hs : Sh s) {d : D} (h : pl n d = true) (S : Sto) : m_is_give [s.o, d] S = .ok (.bl (isGive s d)) S := by
  unfold m_is_give b_is_give
  cases d with
  | non => simp -implicitDefEqProofs [-Int.natCast_add, isGive, isTyS]
  | bl b => simp -implicitDefEqProofs [-Int.natCast_add, isGive, isTyS]
  | int i => simp -implicitDefEqProofs [-Int.natCast_add, isGive, isTyS]
  | str x => simp -implicitDefEqProofs [-Int.natCast_add, isGive, isTyS]
  | tup xs =>
    cases n with
    | zero => cases h
    | succ n =>
    obtain ⟨h1, _⟩ := pl_tup h
    match xs, h1 with
    | [], _ => simp -implicitDefEqProofs [-Int.natCast_add, isGive]
    | [a], _ => simp -implicitDefEqProofs [-Int.natCast_add, isGive]
    | [a, b], h1 =>
      have ha := pls_mem h1 a (by simp)
      have hb := pls_mem h1 b (by simp)
      have e1 := index_pl ha s.stocks.length S
      have e2 := nums_pl s hb S
      have eo : attrD at_stocks "stocks" s.o = attrD at_stocks "stocks" (shopD (.tup (s.stocks.map stockD)) (.tup (s.pieces.map pieceD)) (.int (s.kerf : Int))) := rfl
      by_cases q1 : isIdx s.stocks.length a = true
      · by_cases q2 : isNums s.pieces.length b = true
        · obtain ⟨ea, hi⟩ := isIdx_ex q1
          obtain ⟨eb, h2⟩ := isNums_ex q2
          generalize natOf a = i at *
          generalize hr : natsOf b = r at *
          subst ea eb
          have hf := fits_ok s hs.w6 (r := r) h2 (by have := hs.p3; omega) (sto_at hi) S
          by_cases q3 : r.any (· != 0) = true
          · rw [q3, Bool.not_true, Bool.or_false] at hf
            have ean := anyA_nat r
            rw [q3] at ean
            have hgive : isGive s (giveD (i, r)) = decide (sizeW s.ws r ≤ (sto s i).2.1 + s.kerf) := by
              show (isIdx s.stocks.length (.int (i : Int)) && (isNums s.pieces.length (natT r) && ((natsOf (natT r)).any (· != 0) && decide (sizeW s.ws (natsOf (natT r)) ≤ (sto s i).2.1 + s.kerf)))) = _
              rw [q1, q2, natsOf_nat, q3]
              rfl
            have hgive' : isGive s (.tup [.int (i : Int), natT r]) = decide (sizeW s.ws r ≤ (sto s i).2.1 + s.kerf) := hgive
            rw [hgive']
            simp -implicitDefEqProofs [-Int.natCast_add, eo, e1, e2, q1, q2, ean, hf]
          · have q3' : r.any (· != 0) = false := by simpa using q3
            have ean := anyA_nat r
            rw [q3'] at ean
            have hgive' : isGive s (.tup [.int (i : Int), natT r]) = false := by
              show (isIdx s.stocks.length (.int (i : Int)) && (isNums s.pieces.length (natT r) && ((natsOf (natT r)).any (· != 0) && decide (sizeW s.ws (natsOf (natT r)) ≤ (sto s i).2.1 + s.kerf)))) = _
              rw [q1, q2, natsOf_nat, q3']
              rfl
            rw [hgive']
            simp -implicitDefEqProofs [-Int.natCast_add, eo, e1, e2, q1, q2, ean]
        · have q2' : isNums s.pieces.length b = false := by simpa using q2
          have hgive' : isGive s (.tup [a, b]) = false := by
            show (isIdx s.stocks.length a && (isNums s.pieces.length b && _)) = _
            rw [q1, q2']
            rfl
          rw [hgive']
          simp -implicitDefEqProofs [-Int.natCast_add, eo, e1, e2, q1, q2']
      · have q1' : isIdx s.stocks.length a = false := by simpa using q1
        have hgive' : isGive s (.tup [a, b]) = false := by
          show (isIdx s.stocks.length a && _) = _
          rw [q1']
          rfl
        rw [hgive']
        simp -implicitDefEqProofs [-Int.natCast_add, eo, e1, q1']
    | a :: b :: c :: r, _ =>
      have q : ¬ ((r.length + 1 + 1 + 1 : Nat) : Int) = 2 := by omega
      simp -implicitDefEqProofs [-Int.natCast_add, isGive, q]
  | _ => cases n <;> cases h

theorem zip_nat {α : Type} (e : α → D) (r : List Nat) (xs : List α) : zipD (r.map fun (n : Nat) => D.int (n : Int)) (xs.map e) = (r.zip xs).map fun q => .tup [.int (q.1 : Int), e q.2] := by
  unfold zipD
  rw [List.zip_map, List.map_map]
  rfl
theorem sizeW_zip (s : ShopT) : ∀ (r : List Nat), ((r.zip s.pieces).map fun q => q.1 * (q.2.2.1 + s.kerf)).sum = sizeW s.ws r := by
  unfold ShopT.ws
  generalize s.pieces = ps
  induction ps with
  | nil => intro r; cases r <;> rfl
  | cons p ps ih =>
    intro r
    cases r with
    | nil => rfl
    | cons k r =>
      show k * (p.2.1 + s.kerf) + ((r.zip ps).map fun q => q.1 * (q.2.2.1 + s.kerf)).sum = k * (p.2.1 + s.kerf) + sizeW _ r
      rw [ih r]
theorem lsize_ok {s : ShopT} (hs : Sh s) (r : List Nat) (S : Sto) : m__law_size [s.t, natT r] S = .ok (.int (sizeW s.ws r : Int)) S := by
  have hp3 := hs.p3
  unfold m__law_size b__law_size
  have ht1 : dIx s.t (.int 1) = some (.tup (s.pieces.map pieceD)) := d_ix1 _ _ _
  have ht2 : dIx s.t (.int 2) = some (.int (s.kerf : Int)) := d_ix2 _ _ _ _
  simp -implicitDefEqProofs [-Int.natCast_add, ht1]
  rw [zip_nat, compL_map (g := fun q => D.int ((q.1 * (q.2.2.1 + s.kerf) : Nat) : Int)) _ (fun q hq => by
    have hm := (List.of_mem_zip hq).2
    have := hs.pl _ hm
    have hk := hs.kf
    have e1 : (q.2.2.1 : Int) + (s.kerf : Int) = ((q.2.2.1 + s.kerf : Nat) : Int) := by omega
    have e2 : dMulA (.int (q.1 : Int)) (.int ((q.2.2.1 + s.kerf : Nat) : Int)) = some (.int ((q.1 * (q.2.2.1 + s.kerf) : Nat) : Int)) := by
      rw [mul_nat (by omega), Int.natCast_mul]
    simp -implicitDefEqProofs [-Int.natCast_add, ht2, pieceD, e1, e2])]
  have hz : (r.zip s.pieces).length ≤ sizeLine := szk (by rw [List.length_zip]; omega)
  have e : ((r.zip s.pieces).map fun q => D.int ((q.1 * (q.2.2.1 + s.kerf) : Nat) : Int)) = ((r.zip s.pieces).map fun q => q.1 * (q.2.2.1 + s.kerf)).map fun (n : Nat) => .int (n : Int) := by simp
  have e3 := sum_natT ((r.zip s.pieces).map fun q => q.1 * (q.2.2.1 + s.kerf))
  rw [d_sumA_tup, ← e, sizeW_zip] at e3
  simp only [Res.then_ok, List.length_map, hz, if_true, d_sumA_lst, e3, optR_some, outE_rt]
theorem size_zero {s : ShopT} {r : List Nat} (h : r.sum = 0) : sizeW s.ws r = 0 := by
  have : r = List.replicate r.length 0 := by
    refine row_zero fun i k hk => ?_
    have hm := List.mem_of_getElem? hk
    clear hk
    induction r with
    | nil => cases hm
    | cons a r ih =>
      rw [List.sum_cons] at h
      rcases List.mem_cons.mp hm with e | hm
      · omega
      · exact ih (by omega) hm
  rw [this, sizeW_zero]
theorem lgives_ok {s : ShopT} (hs : Sh s) (len : Nat) (r : List Nat) (S : Sto) : m__law_gives [s.t, .int (len : Int), natT r] S = .ok (.bl (decide (sizeW s.ws r ≤ len + s.kerf))) S := by
  unfold m__law_gives b__law_gives
  have ht2 : dIx s.t (.int 2) = some (.int (s.kerf : Int)) := d_ix2 _ _ _ _
  have e1 := sum_natT r
  rw [d_sumA_tup] at e1
  have e2 : (len : Int) + (s.kerf : Int) = ((len + s.kerf : Nat) : Int) := by omega
  by_cases q : r.sum = 0
  · have hz := size_zero (s := s) q
    have : sizeW s.ws r ≤ len + s.kerf := by omega
    simp -implicitDefEqProofs [-Int.natCast_add, e1, q, this]
  · have q' : ¬ ((r.sum : Nat) : Int) = 0 := by omega
    simp -implicitDefEqProofs [-Int.natCast_add, e1, q', q, ht2, lsize_ok hs, e2]
theorem lgive_pl {n : Nat} (hn : n ≤ 60) {s : ShopT} (hs : Sh s) {d : D} (h : pl n d = true) (S : Sto) : m__law_is_give [s.t, d] S = .ok (.bl (isGive s d)) S := by
  unfold m__law_is_give b__law_is_give
  have ht0 : dIx s.t (.int 0) = some (.tup (s.stocks.map stockD)) := rfl
  have ht1 : dIx s.t (.int 1) = some (.tup (s.pieces.map pieceD)) := d_ix1 _ _ _
  cases d with
  | non => simp -implicitDefEqProofs [-Int.natCast_add, isGive, isTyS]
  | bl b => simp -implicitDefEqProofs [-Int.natCast_add, isGive, isTyS]
  | int i => simp -implicitDefEqProofs [-Int.natCast_add, isGive, isTyS]
  | str x => simp -implicitDefEqProofs [-Int.natCast_add, isGive, isTyS]
  | tup xs =>
    cases n with
    | zero => cases h
    | succ n =>
    obtain ⟨h1, _⟩ := pl_tup h
    match xs, h1 with
    | [], _ => simp -implicitDefEqProofs [-Int.natCast_add, isGive]
    | [a], _ => simp -implicitDefEqProofs [-Int.natCast_add, isGive]
    | [a, b], h1 =>
      have ha := pls_mem h1 a (by simp)
      have hb := pls_mem h1 b (by simp)
      have e1 := lwhole_pl ha S
      have e2 := lnums_pl (by omega) hb s.pieces.length S
      by_cases q1 : isIdx s.stocks.length a = true
      · obtain ⟨ea, hi⟩ := isIdx_ex q1
        generalize natOf a = i at *
        subst ea
        have hi' : (i : Int) < (s.stocks.length : Int) := by omega
        by_cases q2 : isNums s.pieces.length b = true
        · obtain ⟨eb, h2⟩ := isNums_ex q2
          generalize hr : natsOf b = r at *
          subst eb
          have hs0 := stock_at (sto_at hi)
          have hs1 : dIx (stockD (sto s i)) (.int 1) = some (.int ((sto s i).2.1 : Int)) := d_ix1 _ _ _
          have hgive' : isGive s (.tup [.int (i : Int), natT r]) = (decide (0 < r.sum) && decide (sizeW s.ws r ≤ (sto s i).2.1 + s.kerf)) := by
            show (isIdx s.stocks.length (.int (i : Int)) && (isNums s.pieces.length (natT r) && ((natsOf (natT r)).any (· != 0) && decide (sizeW s.ws (natsOf (natT r)) ≤ (sto s i).2.1 + s.kerf)))) = _
            rw [q1, q2, natsOf_nat, any_sum]
            rfl
          rw [hgive']
          have e3 := sum_natT r
          rw [d_sumA_tup] at e3
          by_cases q3 : 0 < r.sum
          · have q3' : (0 : Int) < ((r.sum : Nat) : Int) := by omega
            simp -implicitDefEqProofs [-Int.natCast_add, isInt, e1, e2, q2, hi', ht0, ht1, e3, q3, q3', hs0, hs1, lgives_ok hs]
          · have q3' : ¬ (0 : Int) < ((r.sum : Nat) : Int) := by omega
            simp -implicitDefEqProofs [-Int.natCast_add, isInt, e1, e2, q2, hi', ht0, ht1, e3, q3, q3']
        · have q2' : isNums s.pieces.length b = false := by simpa using q2
          have hgive' : isGive s (.tup [.int (i : Int), b]) = false := by
            show (isIdx s.stocks.length _ && (isNums s.pieces.length b && _)) = _
            rw [q1, q2']
            rfl
          rw [hgive']
          simp -implicitDefEqProofs [-Int.natCast_add, isInt, e1, e2, q2', hi', ht0, ht1]
      · have q1' : isIdx s.stocks.length a = false := by simpa using q1
        have hgive' : isGive s (.tup [a, b]) = false := by
          show (isIdx s.stocks.length a && _) = _
          rw [q1']
          rfl
        rw [hgive']
        cases a with
        | int i =>
          have q4 : (decide (0 ≤ i) && decide (i < (s.stocks.length : Int))) = false := q1'
          by_cases q5 : 0 ≤ i
          · have q6 : ¬ i < (s.stocks.length : Int) := by
              rw [decide_eq_true q5, Bool.true_and, decide_eq_false_iff_not] at q4
              exact q4
            simp -implicitDefEqProofs [-Int.natCast_add, e1, isInt, q5, q6, ht0]
          · simp -implicitDefEqProofs [-Int.natCast_add, e1, isInt, q5, ht0]
        | _ => simp -implicitDefEqProofs [-Int.natCast_add, e1, isInt]
    | a :: b :: c :: r, _ =>
      have q : ¬ ((r.length + 1 + 1 + 1 : Nat) : Int) = 2 := by omega
      simp -implicitDefEqProofs [-Int.natCast_add, isGive, q]
  | _ => cases n <;> cases h
/-! ### what beats what -/
def geAll (a b : List Nat) : Bool := (a.zip b).all fun q => decide (q.2 ≤ q.1)
def mayUse (s : ShopT) (a b : Nat) : Bool := (decide (a = b) || (sto s a).2.2.1.isNone) && decide ((sto s a).2.2.2 ≤ (sto s b).2.2.2)
def Bt (s : ShopT) (a b : Gv) : Bool := mayUse s a.1 b.1 && (geAll a.2 b.2 && (decide (a.2 ≠ b.2) || (decide ((sto s a.1).2.2.2 < (sto s b.1).2.2.2) || decide (a.1 < b.1))))
theorem optD_non (o : Option Nat) : dIsN true (optD o) .non = some (.bl (!o.isNone)) := by cases o <;> rfl
theorem beats_ok {s : ShopT} (hs : Sh s) {a b : Gv} (ha : GvOk s a) (hb : GvOk s b) (S : Sto) : m_beats_by [s.o, giveD a, giveD b] S = .ok (.bl (Bt s a b)) S := by
  have hp3 := hs.p3
  have hla := ha.ln
  have hlb := hb.ln
  have hsa := stock_at (sto_at ha.st)
  have hsb := stock_at (sto_at hb.st)
  have qa2 : dIx (stockD (sto s a.1)) (.int 2) = some (optD (sto s a.1).2.2.1) := d_ix2 _ _ _ _
  have qa3 : dIx (stockD (sto s a.1)) (.int 3) = some (.int ((sto s a.1).2.2.2 : Int)) := d_ix3 _ _ _ _ _
  have qb3 : dIx (stockD (sto s b.1)) (.int 3) = some (.int ((sto s b.1).2.2.2 : Int)) := d_ix3 _ _ _ _ _
  have eo : attrD at_stocks "stocks" s.o = attrD at_stocks "stocks" (shopD (.tup (s.stocks.map stockD)) (.tup (s.pieces.map pieceD)) (.int (s.kerf : Int))) := rfl
  have hne : dNe (natT a.2) (natT b.2) = some (.bl (!decide (a.2 = b.2))) := encRow.eq trivial trivial true
  unfold m_beats_by b_beats_by
  unfold Bt mayUse
  simp -implicitDefEqProofs [-Int.natCast_add, eo, hsa, hsb, qa2, qa3, qb3, optD_non]
  have c1 : (if (a.1 : Int) = (b.1 : Int) then (Res.ok false S : Res Bool) else .ok (sto s a.1).2.2.1.isSome S) = .ok (!(decide (a.1 = b.1) || (sto s a.1).2.2.1.isNone)) S := by
    by_cases q : a.1 = b.1
    · rw [if_pos (by omega), decide_eq_true q]; rfl
    · rw [if_neg (by omega), decide_eq_false q]
      cases (sto s a.1).2.2.1 <;> rfl
  rw [c1]
  generalize (decide (a.1 = b.1) || (sto s a.1).2.2.1.isNone) = m1
  cases m1 with
  | false => simp -implicitDefEqProofs [-Int.natCast_add]
  | true =>
    by_cases q2 : (sto s a.1).2.2.2 ≤ (sto s b.1).2.2.2
    · have q2' : ¬ (sto s b.1).2.2.2 < (sto s a.1).2.2.2 := by omega
      simp -implicitDefEqProofs [-Int.natCast_add, q2, q2']
      rw [show zipD (a.2.map fun (n : Nat) => D.int (n : Int)) (b.2.map fun (n : Nat) => D.int (n : Int)) = (a.2.zip b.2).map fun q => .tup [.int (q.1 : Int), .int (q.2 : Int)] from zip_nat _ _ _]
      rw [compL_map (g := fun q => D.bl (decide (q.2 ≤ q.1))) _ (fun q hq => by simp -implicitDefEqProofs [-Int.natCast_add])]
      have hz : (a.2.zip b.2).length ≤ sizeLine := szk (by rw [List.length_zip]; omega)
      have hall := all_map (fun q : Nat × Nat => decide (q.2 ≤ q.1)) (a.2.zip b.2)
      rw [show (a.2.zip b.2).all (fun q => decide (q.2 ≤ q.1)) = geAll a.2 b.2 from rfl] at hall
      generalize hLL : (a.2.zip b.2).map (fun q => D.bl (decide (q.2 ≤ q.1))) = LL at *
      have hz' : LL.length ≤ sizeLine := by rw [← hLL, List.length_map]; exact hz
      simp -implicitDefEqProofs [-Int.natCast_add, hz', hall]
      cases geAll a.2 b.2 with
      | false => simp -implicitDefEqProofs [-Int.natCast_add]
      | true =>
        simp -implicitDefEqProofs [-Int.natCast_add, hne, qa3, qb3]
        by_cases q3 : a.2 = b.2
        · simp -implicitDefEqProofs [-Int.natCast_add, q3]
          by_cases q4 : (sto s a.1).2.2.2 < (sto s b.1).2.2.2
          · simp -implicitDefEqProofs [-Int.natCast_add, q4]
          · simp -implicitDefEqProofs [-Int.natCast_add, q4]
        · simp -implicitDefEqProofs [-Int.natCast_add, q3]
    · have q2' : (sto s b.1).2.2.2 < (sto s a.1).2.2.2 := by omega
      simp -implicitDefEqProofs [-Int.natCast_add, q2, q2']

theorem geAll_iff : ∀ {a b : List Nat}, a.length = b.length → (geAll a b = true ↔ ∀ k, k < a.length → b.getD k 0 ≤ a.getD k 0)
  | [], [], _ => by simp [geAll]
  | x :: a, y :: b, h => by
    have ih := geAll_iff (a := a) (b := b) (by simpa using h)
    show (decide (y ≤ x) && geAll a b) = true ↔ _
    rw [Bool.and_eq_true, decide_eq_true_eq, ih]
    constructor
    · rintro ⟨h1, h2⟩ k hk
      cases k with
      | zero => exact h1
      | succ k => exact h2 k (by simpa using hk)
    · intro h2
      exact ⟨h2 0 (by simp), fun k hk => h2 (k + 1) (by simpa using hk)⟩
theorem geAll_sum : ∀ {a b : List Nat}, a.length = b.length → geAll a b = true → b.sum ≤ a.sum ∧ (a.sum ≤ b.sum → a = b)
  | [], [], _, _ => by simp
  | x :: a, y :: b, h, hg => by
    have hg' : (decide (y ≤ x) && geAll a b) = true := hg
    rw [Bool.and_eq_true, decide_eq_true_eq] at hg'
    obtain ⟨i1, i2⟩ := geAll_sum (a := a) (b := b) (by simpa using h) hg'.2
    rw [List.sum_cons, List.sum_cons]
    refine ⟨by omega, fun hle => ?_⟩
    have e1 : x = y := by omega
    have e2 := i2 (by omega)
    rw [e1, e2]
theorem lbeats_ok {s : ShopT} (hs : Sh s) {a b : Gv} (ha : GvOk s a) (hb : GvOk s b) (S : Sto) : m__law_beats [s.t, giveD a, giveD b] S = .ok (.bl (Bt s a b)) S := by
  have hp3 := hs.p3
  have hla := ha.ln
  have hlb := hb.ln
  have ht0 : dIx s.t (.int 0) = some (.tup (s.stocks.map stockD)) := rfl
  have ht1 : dIx s.t (.int 1) = some (.tup (s.pieces.map pieceD)) := d_ix1 _ _ _
  have hsa := stock_at (sto_at ha.st)
  have hsb := stock_at (sto_at hb.st)
  have qa2 : dIx (stockD (sto s a.1)) (.int 2) = some (optD (sto s a.1).2.2.1) := d_ix2 _ _ _ _
  have qa3 : dIx (stockD (sto s a.1)) (.int 3) = some (.int ((sto s a.1).2.2.2 : Int)) := d_ix3 _ _ _ _ _
  have qb3 : dIx (stockD (sto s b.1)) (.int 3) = some (.int ((sto s b.1).2.2.2 : Int)) := d_ix3 _ _ _ _ _
  have sa := sum_natT a.2
  have sb := sum_natT b.2
  rw [d_sumA_tup] at sa sb
  unfold m__law_beats b__law_beats
  unfold Bt mayUse
  simp -implicitDefEqProofs [-Int.natCast_add, ht0, hsa, hsb, qa2, qa3, qb3, optD_non]
  have c1 : (if (a.1 : Int) = (b.1 : Int) then (Res.ok false S : Res Bool) else .ok (sto s a.1).2.2.1.isSome S) = .ok (!(decide (a.1 = b.1) || (sto s a.1).2.2.1.isNone)) S := by
    by_cases q : a.1 = b.1
    · rw [if_pos (by omega), decide_eq_true q]; rfl
    · rw [if_neg (by omega), decide_eq_false q]
      cases (sto s a.1).2.2.1 <;> rfl
  rw [c1]
  generalize (decide (a.1 = b.1) || (sto s a.1).2.2.1.isNone) = m1
  cases m1 with
  | false => simp -implicitDefEqProofs [-Int.natCast_add]
  | true =>
    by_cases q2 : (sto s a.1).2.2.2 ≤ (sto s b.1).2.2.2
    · have q2' : ¬ (sto s b.1).2.2.2 < (sto s a.1).2.2.2 := by omega
      simp -implicitDefEqProofs [-Int.natCast_add, q2, q2', ht1]
      rw [rg1 (by omega)]
      simp -implicitDefEqProofs [-Int.natCast_add]
      rw [compL_rangeF (g := fun (k : Nat) => .int (k : Int)) (p := fun k => decide (a.2.getD k 0 < b.2.getD k 0)) s.pieces.length (fun k hk => by
        have ea : dIx (natT a.2) (.int (k : Int)) = some (.int (a.2.getD k 0 : Int)) := d_ixt (by rw [List.getElem?_map, List.getElem?_eq_getElem (show k < a.2.length by omega), List.getD_eq_getElem?_getD, List.getElem?_eq_getElem (show k < a.2.length by omega)]; rfl)
        have eb : dIx (natT b.2) (.int (k : Int)) = some (.int (b.2.getD k 0 : Int)) := d_ixt (by rw [List.getElem?_map, List.getElem?_eq_getElem (show k < b.2.length by omega), List.getD_eq_getElem?_getD, List.getElem?_eq_getElem (show k < b.2.length by omega)]; rfl)
        simp -implicitDefEqProofs [-Int.natCast_add, ea, eb]
        split <;> rfl)]
      have hz : ((List.range s.pieces.length).filter fun k => decide (a.2.getD k 0 < b.2.getD k 0)).length ≤ sizeLine := by
        have := List.length_filter_le (fun k => decide (a.2.getD k 0 < b.2.getD k 0)) (List.range s.pieces.length)
        rw [List.length_range] at this
        exact szk (by omega)
      have hnl : dNe (.lst (((List.range s.pieces.length).filter fun k => decide (a.2.getD k 0 < b.2.getD k 0)).map fun (k : Nat) => .int (k : Int))) (.lst []) = some (.bl (!geAll a.2 b.2)) := by
        have := encNat.lst.eq (a := (List.range s.pieces.length).filter fun k => decide (a.2.getD k 0 < b.2.getD k 0)) (b := []) (fun _ _ => trivial) (fun _ _ => trivial) true
        refine this.trans ?_
        congr 2
        rw [if_pos rfl]
        congr 1
        rw [Bool.eq_iff_iff, decide_eq_true_eq, geAll_iff (by omega), List.filter_eq_nil_iff]
        constructor
        · intro h k hk
          have := h k (List.mem_range.mpr (by omega))
          simpa using this
        · intro h k hk
          have := h k (by have := List.mem_range.mp hk; omega)
          simpa using this
      generalize hF : (List.range s.pieces.length).filter (fun k => decide (a.2.getD k 0 < b.2.getD k 0)) = F at *
      simp -implicitDefEqProofs [-Int.natCast_add, hz, hnl]
      by_cases q3 : geAll a.2 b.2 = true
      · obtain ⟨i1, i2⟩ := geAll_sum (by omega) q3
        simp -implicitDefEqProofs [-Int.natCast_add, q3, sa, sb]
        by_cases q4 : a.2 = b.2
        · have q5 : ¬ b.2.sum < a.2.sum := by rw [q4]; omega
          rw [if_neg q5]
          simp -implicitDefEqProofs [-Int.natCast_add, qa3, qb3, q4]
          by_cases q6 : (sto s a.1).2.2.2 < (sto s b.1).2.2.2
          · simp -implicitDefEqProofs [-Int.natCast_add, q6]
          · simp -implicitDefEqProofs [-Int.natCast_add, q6]
        · have q5 : b.2.sum < a.2.sum := by
            by_cases z : b.2.sum < a.2.sum
            · exact z
            · exact absurd (i2 (by omega)) q4
          simp -implicitDefEqProofs [-Int.natCast_add, q4, q5]
      · simp -implicitDefEqProofs [-Int.natCast_add, q3]
    · have q2' : (sto s b.1).2.2.2 < (sto s a.1).2.2.2 := by omega
      simp -implicitDefEqProofs [-Int.natCast_add, q2, q2']
/-! ### order of gives -/
def gLt (a b : Gv) : Prop := a.1 < b.1 ∨ (a.1 = b.1 ∧ a.2 < b.2)
instance (a b : Gv) : Decidable (gLt a b) := by unfold gLt; infer_instance
theorem gLt_iff (a b : Gv) : gLt a b ↔ a.1 < b.1 ∨ (a.1 = b.1 ∧ a.2 < b.2) := Iff.rfl
theorem alike_natP (a b : List Nat) : PySem.W.alike (natP a) (natP b) = true := by
  have e : ∀ r : List Nat, (r.map fun (n : Nat) => PyData.int (n : Int)) = (r.map fun (n : Nat) => (n : Int)).map PyData.int := fun r => by simp
  show PySem.W.alike (.tuple _) (.tuple _) = true
  rw [PySem.W.alike, e, e]
  exact PySem.W.alike_ints _ _
theorem alike_give (a b : Gv) : PySem.W.alike (giveP a) (giveP b) = true := by
  show PySem.W.alike (.tuple _) (.tuple _) = true
  rw [PySem.W.alike, PySem.W.alikeAll, PySem.W.alikeAll, PySem.W.alikeAll, alike_natP]
  rfl
theorem giveP_lt (a b : Gv) : PySem.W.dataLt (giveP a) (giveP b) = decide (gLt a b) := by
  show PySem.W.dataLt (.tuple [.int (a.1 : Int), natP a.2]) (.tuple [.int (b.1 : Int), natP b.2]) = _
  rw [PySem.W.dataLt_pair (by rfl) (alike_natP _ _), natP_lt, PySem.W.dataLt_int, encRow.eqv, PyData.eqv]
  by_cases q : a.1 = b.1
  · have q' : ((a.1 : Int) == (b.1 : Int)) = true := by rw [beq_iff_eq]; omega
    rw [q', if_pos rfl]
    by_cases q2 : a.2 = b.2
    · rw [if_pos (decide_eq_true q2)]
      symm
      rw [decide_eq_false_iff_not, gLt_iff]
      rintro (h | ⟨_, h⟩)
      · omega
      · rw [q2] at h; exact List.lt_irrefl _ h
    · rw [if_neg (by simpa using q2)]
      rw [Bool.eq_iff_iff, decide_eq_true_eq, decide_eq_true_eq, gLt_iff]
      constructor
      · exact fun h => .inr ⟨q, h⟩
      · rintro (h | ⟨_, h⟩)
        · omega
        · exact h
  · have q' : ¬ ((a.1 : Int) == (b.1 : Int)) = true := by rw [beq_iff_eq]; omega
    rw [if_neg q', Bool.eq_iff_iff, decide_eq_true_eq, decide_eq_true_eq, gLt_iff]
    constructor
    · exact fun h => .inl (by omega)
    · rintro (h | ⟨h, _⟩)
      · omega
      · exact absurd h q
theorem encGive : EncOk (α := Gv) (fun _ => True) giveD giveP 2 where
  py := fun a => by
    have e1 := encRow.py a.2
    have e0 : pyAll ([] : List D) = some [] := rfl
    show (match (D.int (a.1 : Int)).py, (match (natT a.2).py, pyAll [] with
      | some x, some xs => some (x :: xs)
      | _, _ => none) with
      | some x, some xs => some (x :: xs)
      | _, _ => none).map PyData.tuple = _
    rw [e1]
    rfl
  lay := fun a _ => by
    have e1 := encRow.lay a.2 trivial
    show PyData.canLay0 (.tuple [.int (a.1 : Int), natP a.2]) = true
    rw [PyData.canLay0, PyData.canLayAll0, PyData.canLayAll0, PyData.canLayAll0, e1, PyData.canLay0]
    rfl
  dep := fun a => by
    have e1 := encRow.dep a.2
    show PyData.depth (.tuple [.int (a.1 : Int), natP a.2]) ≤ 2
    have e0 : PyData.depth (.int (a.1 : Int)) = 0 := by simp [PyData.depth]
    have e2 : PyData.depth (.tuple [.int (a.1 : Int), natP a.2]) = PyData.depthAll [.int (a.1 : Int), natP a.2] + 1 := by rw [PyData.depth]
    rw [e2, PyData.depthAll, PyData.depthAll, PyData.depthAll, e0]
    omega
  eqv := fun a b => by
    show PyData.eqv (.tuple [.int (a.1 : Int), natP a.2]) (.tuple [.int (b.1 : Int), natP b.2]) = _
    rw [PyData.eqv, PyData.eqvAll, PyData.eqvAll, PyData.eqvAll, encRow.eqv, PyData.eqv, Bool.and_true]
    obtain ⟨a1, a2⟩ := a
    obtain ⟨b1, b2⟩ := b
    rw [Bool.eq_iff_iff, Bool.and_eq_true, decide_eq_true_eq, decide_eq_true_eq, beq_iff_eq, Prod.mk.injEq]
    show (a1 : Int) = b1 ∧ a2 = b2 ↔ _
    exact ⟨fun ⟨h1, h2⟩ => ⟨by omega, h2⟩, fun ⟨h1, h2⟩ => ⟨by omega, h2⟩⟩
theorem give_cmp (f : PyData → PyData → Bool) (a b : Gv) : dCmp f (giveD a) (giveD b) = some (.bl (f (giveP a) (giveP b))) := by
  unfold dCmp
  rw [encGive.py, encGive.py]
  show (if cmpOk (giveP a) (giveP b) = true then _ else _) = _
  have : cmpOk (giveP a) (giveP b) = true := by
    unfold cmpOk
    rw [alike_give, Bool.true_and, Bool.and_eq_true, decide_eq_true_eq]
    exact ⟨rfl, Nat.le_trans (encGive.dep a) (by decide)⟩
  rw [if_pos this]

/-! ### sorted gives -/
theorem lt_tri (a b : List Nat) : a < b ∨ a = b ∨ b < a := by
  by_cases h : a < b
  · exact .inl h
  · by_cases h2 : b < a
    · exact .inr (.inr h2)
    · exact .inr (.inl (List.le_antisymm (List.not_lt.mp h2) (List.not_lt.mp h)))
theorem gLt_irr (a : Gv) : ¬ gLt a a := by
  rintro (h | ⟨_, h⟩)
  · omega
  · exact List.lt_irrefl _ h
theorem gLt_tr {a b c : Gv} (h1 : gLt a b) (h2 : gLt b c) : gLt a c := by
  rcases h1 with h1 | ⟨e1, h1⟩ <;> rcases h2 with h2 | ⟨e2, h2⟩
  · exact .inl (by omega)
  · exact .inl (by omega)
  · exact .inl (by omega)
  · exact .inr ⟨by omega, List.lt_trans h1 h2⟩
theorem gLt_tri (a b : Gv) : gLt a b ∨ a = b ∨ gLt b a := by
  by_cases q : a.1 = b.1
  · rcases lt_tri a.2 b.2 with h | h | h
    · exact .inl (.inr ⟨q, h⟩)
    · exact .inr (.inl (Prod.ext q h))
    · exact .inr (.inr (.inr ⟨q.symm, h⟩))
  · by_cases q2 : a.1 < b.1
    · exact .inl (.inl q2)
    · exact .inr (.inr (.inl (by omega)))
def gLe (a b : Gv) : Bool := !decide (gLt b a)
theorem gLe_tr (a b c : Gv) (h : gLe a b = true) (h2 : gLe b c = true) : gLe a c = true := by
  unfold gLe at *
  rw [Bool.not_eq_true', decide_eq_false_iff_not] at *
  intro q
  rcases gLt_tri a b with e | e | e
  · exact h2 (gLt_tr q e)
  · subst e; exact h2 q
  · exact h e
theorem gLe_tot (a b : Gv) : (gLe a b || gLe b a) = true := by
  unfold gLe
  rw [Bool.or_eq_true, Bool.not_eq_true', Bool.not_eq_true', decide_eq_false_iff_not, decide_eq_false_iff_not]
  rcases gLt_tri a b with e | e | e
  · exact .inl fun q => gLt_irr _ (gLt_tr e q)
  · subst e; exact .inl (gLt_irr _)
  · exact .inr fun q => gLt_irr _ (gLt_tr e q)
theorem ssame {α : Type} {r : α → α → Prop} (irr : ∀ a, ¬ r a a) (tr : ∀ a b c, r a b → r b c → r a c) : ∀ {l m : List α}, l.Pairwise r → m.Pairwise r → (∀ x, x ∈ l ↔ x ∈ m) → l = m
  | [], [], _, _, _ => rfl
  | [], y :: m, _, _, h => by have := (h y).mpr List.mem_cons_self; cases this
  | x :: l, [], _, _, h => by have := (h x).mp List.mem_cons_self; cases this
  | x :: l, y :: m, h1, h2, h => by
    obtain ⟨a1, a2⟩ := List.pairwise_cons.mp h1
    obtain ⟨b1, b2⟩ := List.pairwise_cons.mp h2
    have exy : x = y := by
      rcases List.mem_cons.mp ((h x).mp List.mem_cons_self) with e | e
      · exact e
      · rcases List.mem_cons.mp ((h y).mpr List.mem_cons_self) with f | f
        · exact f.symm
        · exact absurd (tr _ _ _ (a1 y f) (b1 x e)) (irr x)
    subst exy
    congr 1
    refine ssame irr tr a2 b2 fun z => ⟨fun hz => ?_, fun hz => ?_⟩
    · rcases List.mem_cons.mp ((h z).mp (List.mem_cons_of_mem _ hz)) with e | e
      · subst e; exact absurd (a1 z hz) (irr z)
      · exact e
    · rcases List.mem_cons.mp ((h z).mpr (List.mem_cons_of_mem _ hz)) with e | e
      · subst e; exact absurd (b1 z hz) (irr z)
      · exact e
theorem gsort_eq {A B : List Gv} (hA : A.Nodup) (hB : B.Pairwise gLt) (hm : ∀ x, x ∈ A ↔ x ∈ B) : A.mergeSort gLe = B := by
  refine ssame gLt_irr (fun a b c => gLt_tr) ?_ hB fun x => by rw [List.mem_mergeSort]; exact hm x
  have h1 := List.pairwise_mergeSort gLe_tr gLe_tot A
  have h2 : (A.mergeSort gLe).Nodup := (List.mergeSort_perm A gLe).nodup_iff.mpr hA
  refine List.Pairwise.imp₂ (R := fun a b => gLe a b = true) (S := fun a b => a ≠ b) ?_ h1 h2
  intro a b hab hne
  unfold gLe at hab
  rw [Bool.not_eq_true', decide_eq_false_iff_not] at hab
  rcases gLt_tri a b with e | e | e
  · exact e
  · exact absurd e hne
  · exact absurd e hab
theorem gdataLe : PySem.W.dataLe false giveP = gLe := by
  rw [PySem.W.dataLe_eq]
  funext a b
  show (!PySem.W.dataLt (giveP b) (giveP a)) = _
  rw [giveP_lt]
  rfl
theorem sorted_gives (L : List Gv) : dSorted [.lst (L.map giveD)] = some (.lst ((L.mergeSort gLe).map giveD)) := by
  show (pyAll (L.map giveD)).bind (fun ps => if sortOk ps then some (D.lst (sortD (L.map giveD) ps)) else none) = _
  rw [pyAll_map (p := giveP) encGive.py L]
  have ok : sortOk (L.map giveP) = true := by
    unfold sortOk
    rw [Bool.and_eq_true, Bool.and_eq_true]
    refine ⟨⟨?_, ?_⟩, ?_⟩
    · rw [List.all_eq_true]
      intro a ha
      rw [List.all_eq_true]
      intro b hb
      obtain ⟨x, _, rfl⟩ := List.mem_map.mp ha
      obtain ⟨y, _, rfl⟩ := List.mem_map.mp hb
      exact alike_give x y
    · rw [Bool.or_eq_true]
      refine .inl ?_
      rw [List.all_eq_true]
      intro a ha
      obtain ⟨x, _, rfl⟩ := List.mem_map.mp ha
      rfl
    · rw [List.all_eq_true]
      intro a ha
      obtain ⟨x, _, rfl⟩ := List.mem_map.mp ha
      have := encGive.dep x
      simp only [decide_eq_true_eq]
      omega
  show (if sortOk (L.map giveP) = true then some (D.lst (sortD (L.map giveD) (L.map giveP))) else none) = _
  rw [if_pos ok]
  congr 2
  unfold sortD
  rw [show (L.map giveD).zip (L.map giveP) = L.map fun r => (giveD r, giveP r) by
    clear ok
    induction L with
    | nil => rfl
    | cons r rs ih => rw [List.map_cons, List.map_cons, List.zip_cons_cons, ih, List.map_cons]]
  rw [← List.map_mergeSort (r := gLe) (f := fun r : Gv => (giveD r, giveP r)) (s := PySem.W.dataLe false (·.2)) (fun a _ b _ => by
    show gLe a b = PySem.W.dataLe false giveP a b
    rw [gdataLe]), List.map_map]
  rfl
/-! ### all gives -/
def giveAt (s : ShopT) (i : Nat) : List Gv := ((rowsW s.ws ((sto s i).2.1 + s.kerf)).filter fun r => r.any (· != 0)).map fun r => (i, r)
def allG (s : ShopT) : List Gv := (List.range s.stocks.length).flatMap (giveAt s)
theorem allG_mem {s : ShopT} (hs : Sh s) {g : Gv} : g ∈ allG s ↔ GvOk s g := by
  unfold allG giveAt
  rw [List.mem_flatMap]
  constructor
  · rintro ⟨i, hi, hm⟩
    obtain ⟨r, hr, rfl⟩ := List.mem_map.mp hm
    obtain ⟨h1, h2⟩ := List.mem_filter.mp hr
    obtain ⟨h3, h4⟩ := (rowsW_mem hs.pos).mp h1
    exact ⟨List.mem_range.mp hi, by rw [h3, ws_len], h2, h4⟩
  · intro h
    exact ⟨g.1, List.mem_range.mpr h.st, List.mem_map.mpr ⟨g.2, List.mem_filter.mpr ⟨(rowsW_mem hs.pos).mpr ⟨by rw [h.ln, ws_len], h.fit⟩, h.nz⟩, rfl⟩⟩
theorem allG_sorted (s : ShopT) : (allG s).Pairwise gLt := by
  unfold allG
  rw [List.pairwise_flatMap]
  refine ⟨fun i _ => ?_, ?_⟩
  · unfold giveAt
    rw [List.pairwise_map]
    refine List.Pairwise.imp ?_ ((rowsW_sorted s.ws _).filter _)
    intro a b h
    exact .inr ⟨rfl, h⟩
  · refine List.Pairwise.imp ?_ List.pairwise_lt_range
    intro a b h x hx y hy
    obtain ⟨p, _, rfl⟩ := List.mem_map.mp hx
    obtain ⟨q, _, rfl⟩ := List.mem_map.mp hy
    exact .inl h
theorem allG_nd (s : ShopT) : (allG s).Nodup := by
  refine List.Pairwise.imp ?_ (allG_sorted s)
  intro a b h e
  subst e
  exact gLt_irr _ h
theorem giveAt_len {s : ShopT} (hs : Sh s) {i : Nat} (hi : i < s.stocks.length) : (giveAt s i).length ≤ 3000 := by
  unfold giveAt
  rw [List.length_map]
  have := List.length_filter_le (fun r : List Nat => r.any (· != 0)) (rowsW s.ws ((sto s i).2.1 + s.kerf))
  have h2 : (rowsW s.ws ((sto s i).2.1 + s.kerf)).length = Rw s.ws ((sto s i).2.1 + s.kerf) := by unfold rowsW; rw [List.length_map, rows_len _ _ hs.pos]
  have := hs.rw (hs.rm hi)
  omega
theorem flat_len {α : Type} {f : Nat → List α} {b : Nat} : ∀ n, (∀ i, i < n → (f i).length ≤ b) → ((List.range n).flatMap f).length ≤ n * b
  | 0, _ => by simp
  | n + 1, h => by
    rw [List.range_succ, List.flatMap_append, List.length_append, List.flatMap_singleton, Nat.add_mul]
    have := flat_len n fun i hi => h i (by omega)
    have := h n (by omega)
    omega
theorem allG_len {s : ShopT} (hs : Sh s) : (allG s).length ≤ 12000 := by
  have := flat_len (f := giveAt s) (b := 3000) s.stocks.length fun i hi => giveAt_len hs hi
  have h4 := hs.st.len
  have : s.stocks.length * 3000 ≤ 4 * 3000 := Nat.mul_le_mul_right _ h4.2
  unfold allG
  omega
theorem gives_by_ok {s : ShopT} (hs : Sh s) (S : Sto) : m_gives_by [s.o] S = .ok (.lst ((allG s).map giveD)) S := by
  have h4 := hs.st.len
  unfold m_gives_by b_gives_by
  rw [ShopT.o]
  simp -implicitDefEqProofs [-Int.natCast_add]
  rw [rg1 (by omega)]
  simp -implicitDefEqProofs [-Int.natCast_add]
  apply post_ok
  refine then_post (P := fun o S' => S' = S ∧ ∃ ρ, o = .nx ρ ∧ St [none, some (.lst ((allG s).map giveD)), none, none] ρ) ?_ fun o S' ⟨e1, ρ, e2, h⟩ => ?_
  · refine forL_range (fun j ρ S' => S' = S ∧ St [some (s.o), some (.lst (((List.range j).flatMap (giveAt s)).map giveD)), none, none] ρ) s.stocks.length ⟨rfl, by simp [ShopT.o]⟩ (fun j hj ρ S' ⟨e1, h⟩ => ?_) fun ρ S' ⟨e1, h⟩ => ⟨e1, ρ, rfl, ?_⟩
    · repeat (first | (replace h := St.some h; obtain ⟨_, rfl, h⟩ := h) | (replace h := St.none h; obtain ⟨_, _, rfl, h⟩ := h))
      cases St.nil h
      subst e1
      have hrm := hs.rm hj
      have hp := patterns_by_ok s hs.pc hs.w6 (sto_at hj) (by omega) (hs.rw hrm) S'
      have hrl : ∀ r ∈ rowsW s.ws ((sto s j).2.1 + s.kerf), r.length ≤ 3 := fun r hr => by rw [((rowsW_mem hs.pos).mp hr).1, ws_len]; exact hs.p3
      have hgl := giveAt_len hs hj
      have hfl := flat_len (f := giveAt s) (b := 3000) j fun i hi => giveAt_len hs (by omega)
      have hj4 : j * 3000 ≤ 4 * 3000 := Nat.mul_le_mul_right _ (by omega)
      have hex : mExtend (((List.range j).flatMap (giveAt s)).map giveD) [.lst ((giveAt s j).map giveD)] = some (((List.range (j + 1)).flatMap (giveAt s)).map giveD, .non) := by
        show (if _ then _ else _) = _
        rw [if_pos (by rw [List.length_map, List.length_map, szl]; omega), List.range_succ, List.flatMap_append, List.flatMap_singleton, List.map_append]
      simp -implicitDefEqProofs [-Int.natCast_add, hp]
      rw [compL_filter (enc := natT) (p := fun r => r.any (· != 0)) (g := fun r => giveD (j, r)) _ (fun r hr => by
        simp -implicitDefEqProofs [-Int.natCast_add, anyA_nat]
        split <;> rfl)]
      rw [show ((rowsW s.ws ((sto s j).2.1 + s.kerf)).filter fun r => r.any (· != 0)).map (fun r => giveD (j, r)) = (giveAt s j).map giveD by unfold giveAt; rw [List.map_map]; rfl]
      have hz : (giveAt s j).length ≤ sizeLine := by rw [szl]; omega
      simp -implicitDefEqProofs [-Int.natCast_add, hz, hex, stepP]
    · repeat (first | (replace h := St.some h; obtain ⟨_, rfl, h⟩ := h) | (replace h := St.none h; obtain ⟨_, _, rfl, h⟩ := h))
      cases St.nil h
      unfold allG
      simp
  · repeat (first | (replace h := St.some h; obtain ⟨_, rfl, h⟩ := h) | (replace h := St.none h; obtain ⟨_, _, rfl, h⟩ := h))
    cases St.nil h
    subst e1 e2
    simp -implicitDefEqProofs [-Int.natCast_add]
theorem lgives_of_ok {s : ShopT} (hs : Sh s) (S : Sto) : m__law_gives_of [s.t] S = .ok (.lst ((allG s).map giveD)) S := by
  have h4 := hs.st.len
  unfold m__law_gives_of b__law_gives_of
  have ht0 : dIx s.t (.int 0) = some (.tup (s.stocks.map stockD)) := rfl
  simp -implicitDefEqProofs [-Int.natCast_add, ht0]
  rw [rg1 (by omega)]
  simp -implicitDefEqProofs [-Int.natCast_add]
  apply post_ok
  refine then_post (P := fun o S' => S' = S ∧ ∃ ρ, o = .nx ρ ∧ St [none, some (.lst ((allG s).map giveD)), none, none] ρ) ?_ fun o S' ⟨e1, ρ, e2, h⟩ => ?_
  · refine forL_range (fun j ρ S' => S' = S ∧ St [some (s.t), some (.lst (((List.range j).flatMap (giveAt s)).map giveD)), none, none] ρ) s.stocks.length ⟨rfl, by simp⟩ (fun j hj ρ S' ⟨e1, h⟩ => ?_) fun ρ S' ⟨e1, h⟩ => ⟨e1, ρ, rfl, ?_⟩
    · repeat (first | (replace h := St.some h; obtain ⟨_, rfl, h⟩ := h) | (replace h := St.none h; obtain ⟨_, _, rfl, h⟩ := h))
      cases St.nil h
      subst e1
      have hrm := hs.rm hj
      have hp := lpat_ok s hs.pc (len := (sto s j).2.1) (by omega) (hs.rw hrm) S'
      have hs0 := stock_at (sto_at hj)
      have hs1 : dIx (stockD (sto s j)) (.int 1) = some (.int ((sto s j).2.1 : Int)) := d_ix1 _ _ _
      have hgl := giveAt_len hs hj
      have hfl := flat_len (f := giveAt s) (b := 3000) j fun i hi => giveAt_len hs (by omega)
      have hj4 : j * 3000 ≤ 4 * 3000 := Nat.mul_le_mul_right _ (by omega)
      have hex : mExtend (((List.range j).flatMap (giveAt s)).map giveD) [.lst ((giveAt s j).map giveD)] = some (((List.range (j + 1)).flatMap (giveAt s)).map giveD, .non) := by
        show (if _ then _ else _) = _
        rw [if_pos (by rw [List.length_map, List.length_map, szl]; omega), List.range_succ, List.flatMap_append, List.flatMap_singleton, List.map_append]
      simp -implicitDefEqProofs [-Int.natCast_add, ht0, hs0, hs1, hp]
      rw [compL_filter (enc := natT) (p := fun r => r.any (· != 0)) (g := fun r => giveD (j, r)) _ (fun r hr => by
        have e3 := sum_natT r
        rw [d_sumA_tup] at e3
        have e4 := any_sum r
        by_cases q : 0 < r.sum
        · rw [decide_eq_true q] at e4
          simp -implicitDefEqProofs [-Int.natCast_add, e3, q, e4]
        · rw [decide_eq_false q] at e4
          simp -implicitDefEqProofs [-Int.natCast_add, e3, q, e4])]
      rw [show ((rowsW s.ws ((sto s j).2.1 + s.kerf)).filter fun r => r.any (· != 0)).map (fun r => giveD (j, r)) = (giveAt s j).map giveD by unfold giveAt; rw [List.map_map]; rfl]
      have hz : (giveAt s j).length ≤ sizeLine := by rw [szl]; omega
      simp -implicitDefEqProofs [-Int.natCast_add, hz, hex, stepP]
    · repeat (first | (replace h := St.some h; obtain ⟨_, rfl, h⟩ := h) | (replace h := St.none h; obtain ⟨_, _, rfl, h⟩ := h))
      cases St.nil h
      unfold allG
      simp
  · repeat (first | (replace h := St.some h; obtain ⟨_, rfl, h⟩ := h) | (replace h := St.none h; obtain ⟨_, _, rfl, h⟩ := h))
    cases St.nil h
    subst e1 e2
    simp -implicitDefEqProofs [-Int.natCast_add]

/-! ### ascending rows of gives -/
def ascG (L : List Gv) : Bool := (List.range (L.length - 1)).all fun k => decide (gLt (L.getD k (0, [])) (L.getD (k + 1) (0, [])))
theorem ascG_iff (L : List Gv) : ascG L = true ↔ L.Pairwise gLt := by
  unfold ascG
  rw [List.all_eq_true]
  have step : (∀ k, k + 1 < L.length → gLt (L.getD k (0, [])) (L.getD (k + 1) (0, []))) ↔ L.Pairwise gLt := by
    induction L with
    | nil => simp
    | cons a L ih =>
      constructor
      · intro h
        have h2 := ih.mp fun k hk => h (k + 1) (by simpa using hk)
        rw [List.pairwise_cons]
        refine ⟨fun b hb => ?_, h2⟩
        cases L with
        | nil => cases hb
        | cons c L =>
          have h0 : gLt a c := h 0 (by simp)
          rcases List.mem_cons.mp hb with e | hb
          · subst e; exact h0
          · exact gLt_tr h0 ((List.pairwise_cons.mp h2).1 b hb)
      · intro h
        obtain ⟨h1, h2⟩ := List.pairwise_cons.mp h
        intro k hk
        cases k with
        | zero =>
          cases L with
          | nil => simp at hk
          | cons c L => exact h1 c List.mem_cons_self
        | succ k => exact ih.mpr h2 k (by simpa using hk)
  rw [← step]
  constructor
  · intro h k hk
    have := h k (List.mem_range.mpr (by omega))
    simpa using this
  · intro h k hk
    have := h k (by have := List.mem_range.mp hk; omega)
    simpa using this
theorem rgm1 {n : Nat} (h : n ≤ 1000000) : dRange [.int ((n : Int) - 1)] = some ((List.range (n - 1)).map fun (k : Nat) => .int (k : Int)) := by
  cases n with
  | zero =>
    show (if rgOk (((0 : Nat) : Int) - 1) then some (rangeD 0 (((0 : Nat) : Int) - 1).toNat) else none) = _
    rw [if_pos (rgOk_of (by decide))]
    rfl
  | succ n =>
    rw [show ((n + 1 : Nat) : Int) - 1 = (n : Int) by omega, rg1 (by omega)]
    rfl
theorem gv_at {L : List Gv} {k : Nat} (h : k < L.length) : L[k]? = some (L.getD k (0, [])) := by
  rw [List.getD_eq_getElem?_getD, List.getElem?_eq_getElem h]
  rfl
theorem gt_at {L : List Gv} {k : Nat} (h : k < L.length) : dIx (.tup (L.map giveD)) (.int (k : Int)) = some (giveD (L.getD k (0, []))) := d_ixt (by rw [List.getElem?_map, gv_at h]; rfl)
theorem gl_at {L : List Gv} {k : Nat} (h : k < L.length) : dIx (.lst (L.map giveD)) (.int (k : Int)) = some (giveD (L.getD k (0, []))) := d_ixl (by rw [List.getElem?_map, gv_at h]; rfl)
theorem asc_tup {L : List Gv} (hL : L.length ≤ 100000) (S : Sto) : m_are_ascending [.tup (L.map giveD)] S = .ok (.bl (ascG L)) S := by
  unfold m_are_ascending b_are_ascending
  simp -implicitDefEqProofs [-Int.natCast_add]
  rw [rgm1 (by omega)]
  simp -implicitDefEqProofs [-Int.natCast_add]
  rw [compL_range (g := fun k => .bl (decide (gLt (L.getD k (0, [])) (L.getD (k + 1) (0, []))))) (L.length - 1) (fun k hk => by
    have e : (k : Int) + 1 = ((k + 1 : Nat) : Int) := by omega
    have e1 := gt_at (L := L) (show k < L.length by omega)
    have e2 := gt_at (L := L) (show k + 1 < L.length by omega)
    have e3 := give_cmp (fun d e => PySem.W.dataLt d e) (L.getD k (0, [])) (L.getD (k + 1) (0, []))
    rw [giveP_lt] at e3
    generalize L.getD k (0, []) = a at *
    generalize L.getD (k + 1) (0, []) = b at *
    have e3' : dCmp (fun d e => PySem.W.dataLt d e) (.tup [.int (a.1 : Int), natT a.2]) (.tup [.int (b.1 : Int), natT b.2]) = some (.bl (decide (gLt a b))) := e3
    simp -implicitDefEqProofs [-Int.natCast_add, e, e1, e2, e3'])]
  have hz : L.length - 1 ≤ sizeLine := by rw [szl]; omega
  have ha := all_map (fun k => decide (gLt (L.getD k (0, [])) (L.getD (k + 1) (0, [])))) (List.range (L.length - 1))
  rw [show ((List.range (L.length - 1)).all fun k => decide (gLt (L.getD k (0, [])) (L.getD (k + 1) (0, [])))) = ascG L from rfl] at ha
  generalize hLL : (List.range (L.length - 1)).map (fun k => D.bl (decide (gLt (L.getD k (0, [])) (L.getD (k + 1) (0, []))))) = LL at *
  have hz' : LL.length ≤ sizeLine := by rw [← hLL, List.length_map, List.length_range]; exact hz
  simp -implicitDefEqProofs [-Int.natCast_add, hz', ha]
theorem asc_lst {L : List Gv} (hL : L.length ≤ 100000) (S : Sto) : m_are_ascending [.lst (L.map giveD)] S = .ok (.bl (ascG L)) S := by
  unfold m_are_ascending b_are_ascending
  simp -implicitDefEqProofs [-Int.natCast_add]
  rw [rgm1 (by omega)]
  simp -implicitDefEqProofs [-Int.natCast_add]
  rw [compL_range (g := fun k => .bl (decide (gLt (L.getD k (0, [])) (L.getD (k + 1) (0, []))))) (L.length - 1) (fun k hk => by
    have e : (k : Int) + 1 = ((k + 1 : Nat) : Int) := by omega
    have e1 := gl_at (L := L) (show k < L.length by omega)
    have e2 := gl_at (L := L) (show k + 1 < L.length by omega)
    have e3 := give_cmp (fun d e => PySem.W.dataLt d e) (L.getD k (0, [])) (L.getD (k + 1) (0, []))
    rw [giveP_lt] at e3
    generalize L.getD k (0, []) = a at *
    generalize L.getD (k + 1) (0, []) = b at *
    have e3' : dCmp (fun d e => PySem.W.dataLt d e) (.tup [.int (a.1 : Int), natT a.2]) (.tup [.int (b.1 : Int), natT b.2]) = some (.bl (decide (gLt a b))) := e3
    simp -implicitDefEqProofs [-Int.natCast_add, e, e1, e2, e3'])]
  have hz : L.length - 1 ≤ sizeLine := by rw [szl]; omega
  have ha := all_map (fun k => decide (gLt (L.getD k (0, [])) (L.getD (k + 1) (0, [])))) (List.range (L.length - 1))
  rw [show ((List.range (L.length - 1)).all fun k => decide (gLt (L.getD k (0, [])) (L.getD (k + 1) (0, [])))) = ascG L from rfl] at ha
  generalize hLL : (List.range (L.length - 1)).map (fun k => D.bl (decide (gLt (L.getD k (0, [])) (L.getD (k + 1) (0, []))))) = LL at *
  have hz' : LL.length ≤ sizeLine := by rw [← hLL, List.length_map, List.length_range]; exact hz
  simp -implicitDefEqProofs [-Int.natCast_add, hz', ha]
/-- the law's way of asking -/
theorem rg_one {n : Nat} (h : n ≤ 1000000) : dRange [.int 1, .int (n : Int)] = some ((List.range (n - 1)).map fun (k : Nat) => .int (((1 : Nat) : Int) + (k : Int))) := by
  rw [show (1 : Int) = ((1 : Nat) : Int) from rfl, rg2n (by omega) (by omega)]
theorem desc_emp (L : List Gv) : ((List.range (L.length - 1)).filter fun k => !decide (gLt (L.getD k (0, [])) (L.getD (k + 1) (0, [])))).isEmpty = ascG L := by
  rw [filter_emp]
  unfold ascG
  congr 1
  funext k
  simp
/-! ### objects of the class Thin -/
def thinD (a b : D) : D := .obj "Thin" [("kept", a), ("beaten", b)]
section
variable (a b : D) (S : Sto)
@[simp] theorem th_kept : attrD at_kept "kept" (thinD a b) S = .ok a S := by
  unfold attrD thinD
  simp only
  rw [if_pos (by decide +kernel)]
  rfl
@[simp] theorem th_beaten : attrD at_beaten "beaten" (thinD a b) S = .ok b S := by
  unfold attrD thinD
  simp only
  rw [if_pos (by decide +kernel)]
  rfl
@[simp] theorem th_is : isOwn OWN "Thin" (thinD a b) = some true := by
  unfold isOwn thinD
  simp only
  rw [if_pos (by decide +kernel)]
  decide +kernel
end
/-! ### the judges -/
def isTup : D → Bool
  | .tup _ => true
  | _ => false
def take2 : D → D
  | .tup xs => .tup (xs.take 2)
  | d => d
/-- a row with the index of one that beats it, as the law reads it -/
def isRowL (s : ShopT) (K : List Gv) : D → Bool
  | .tup [a, b, c] => isGive s (.tup [a, b]) && (isIdx K.length c && Bt s (K.getD (natOf c) (0, [])) (natOf a, natsOf b))
  | _ => false
theorem isRowL_ex {s : ShopT} {K : List Gv} {d : D} (h : isRowL s K d = true) : ∃ (g : Gv) (c : Nat), d = .tup [.int (g.1 : Int), natT g.2, .int (c : Int)] ∧ GvOk s g ∧ c < K.length ∧ Bt s (K.getD c (0, [])) g = true := by
  unfold isRowL at h
  split at h
  · rename_i a b c
    rw [Bool.and_eq_true, Bool.and_eq_true] at h
    obtain ⟨g, e, ok⟩ := isGive_ex h.1
    obtain ⟨e2, hc⟩ := isIdx_ex h.2.1
    injection e with e
    injection e with e3 e4
    injection e4 with e4 _
    subst e3 e4
    refine ⟨g, natOf c, by rw [← e2], ok, hc, ?_⟩
    have := h.2.2
    rw [natsOf_nat] at this
    exact this
  · cases h
theorem cut_take2 (xs : List D) : Ev.cutD xs none (some 2) = xs.take 2 := by
  unfold Ev.cutD
  rw [HT.sIx_none, show HT.sIx xs.length xs.length (some 2) = min 2 xs.length from HT.sIx_nat _ _ 2]
  rw [Nat.sub_zero, List.drop_zero]
  by_cases h : 2 ≤ xs.length
  · rw [Nat.min_eq_left h]
  · rw [Nat.min_eq_right (by omega), List.take_of_length_le (Nat.le_refl _), List.take_of_length_le (by omega)]
theorem all_gives {s : ShopT} {n : Nat} : ∀ {ds : List D}, ds.all (isGive s) = true → ∃ K : List Gv, ds = K.map giveD ∧ ∀ g ∈ K, GvOk s g
  | [], _ => ⟨[], rfl, fun g hg => by cases hg⟩
  | d :: ds, h => by
    rw [List.all_cons, Bool.and_eq_true] at h
    obtain ⟨g, e, ok⟩ := isGive_ex h.1
    obtain ⟨K, e2, ok2⟩ := all_gives (n := n) h.2
    exact ⟨g :: K, by rw [e, e2]; rfl, fun x hx => by
      rcases List.mem_cons.mp hx with rfl | hx
      · exact ok
      · exact ok2 x hx⟩
theorem all_rows {s : ShopT} {K : List Gv} : ∀ {ds : List D}, ds.all (isRowL s K) = true → ∃ R : List Gv, ds.map take2 = R.map giveD ∧ ∀ g ∈ R, GvOk s g
  | [], _ => ⟨[], rfl, fun g hg => by cases hg⟩
  | d :: ds, h => by
    rw [List.all_cons, Bool.and_eq_true] at h
    obtain ⟨g, c, e, ok, _⟩ := isRowL_ex h.1
    obtain ⟨R, e2, ok2⟩ := all_rows h.2
    exact ⟨g :: R, by rw [List.map_cons, e2, e]; rfl, fun x hx => by
      rcases List.mem_cons.mp hx with rfl | hx
      · exact ok
      · exact ok2 x hx⟩

def inK (K : List Gv) : D → Bool
  | .tup (a :: b :: _) => decide (((natOf a, natsOf b) : Gv) ∈ K)
  | _ => false
/-- the program's row: not of kept besides -/
theorem row_pl {n : Nat} {s : ShopT} (hs : Sh s) {K : List Gv} (hK : ∀ g ∈ K, GvOk s g) (hKl : K.length ≤ 100000) {d : D} (h : pl n d = true) (S : Sto) :
    m_is_beaten_row [s.o, .tup (K.map giveD), d] S = .ok (.bl (isRowL s K d && !inK K d)) S := by
  unfold m_is_beaten_row b_is_beaten_row
  cases d with
  | non => simp -implicitDefEqProofs [-Int.natCast_add, isRowL, isTyS]
  | bl b => simp -implicitDefEqProofs [-Int.natCast_add, isRowL, isTyS]
  | int i => simp -implicitDefEqProofs [-Int.natCast_add, isRowL, isTyS]
  | str x => simp -implicitDefEqProofs [-Int.natCast_add, isRowL, isTyS]
  | tup xs =>
    cases n with
    | zero => cases h
    | succ n =>
    obtain ⟨h1, _⟩ := pl_tup h
    match xs, h1 with
    | [], _ => simp -implicitDefEqProofs [-Int.natCast_add, isRowL]
    | [a], _ => simp -implicitDefEqProofs [-Int.natCast_add, isRowL]
    | [a, b], _ => simp -implicitDefEqProofs [-Int.natCast_add, isRowL]
    | [a, b, c], h1 =>
      have ha := pls_mem h1 a (by simp)
      have hb := pls_mem h1 b (by simp)
      have hc := pls_mem h1 c (by simp)
      have hab : pl (n + 1) (.tup [a, b]) = true := pl_mk (pls_of fun x hx => by
        rcases List.mem_cons.mp hx with rfl | hx
        · exact ha
        · rcases List.mem_cons.mp hx with rfl | hx
          · exact hb
          · cases hx) (by simp)
      have e1 := give_pl hs hab S
      have e2 := index_pl hc K.length S
      have ecut : Ev.cutD [a, b, c] none (some 2) = [a, b] := cut_take2 _
      by_cases q1 : isGive s (.tup [a, b]) = true
      · obtain ⟨g, eg, ok⟩ := isGive_ex q1
        injection eg with eg
        injection eg with ea eb
        injection eb with eb _
        subst ea eb
        have hin := encGive.mem (a := g) (xs := K) trivial (fun _ _ => trivial) false
        have hin' : dIn false (.tup [.int (g.1 : Int), natT g.2]) (.lst (K.map giveD)) = some (.bl (decide (g ∈ K))) := by
          rw [if_neg (by decide)] at hin
          exact hin.trans (congrArg (fun b => some (D.bl b)) (decide_eq_decide.mpr Iff.rfl))
        have hnK : inK K (.tup [.int (g.1 : Int), natT g.2, c]) = decide (g ∈ K) := by
          show decide (((natOf (.int (g.1 : Int)), natsOf (natT g.2)) : Gv) ∈ K) = _
          rw [natsOf_nat]
          show decide ((((g.1 : Int)).toNat, g.2) ∈ K) = _
          rw [Int.toNat_natCast]
        rw [hnK]
        have hl2 : (K.map giveD).length = K.length := List.length_map ..
        by_cases q2 : g ∈ K
        · simp -implicitDefEqProofs [-Int.natCast_add, ecut, e1, q1, hin', q2]
        · by_cases q3 : isIdx K.length c = true
          · obtain ⟨ec, hc2⟩ := isIdx_ex q3
            generalize natOf c = j at *
            subst ec
            have hb := beats_ok hs (hK _ (List.getElem_mem hc2)) ok S
            have egt : K.getD j (0, []) = K[j] := by rw [List.getD_eq_getElem?_getD, List.getElem?_eq_getElem hc2]; rfl
            have ht := gt_at hc2
            rw [egt] at ht
            have hR : isRowL s K (.tup [.int (g.1 : Int), natT g.2, .int (j : Int)]) = Bt s K[j] g := by
              show (isGive s (.tup [.int (g.1 : Int), natT g.2]) && (isIdx K.length (.int (j : Int)) && Bt s (K.getD (((j : Int)).toNat) (0, [])) ((((g.1 : Int)).toNat), natsOf (natT g.2)))) = _
              rw [q1, q3, natsOf_nat, Int.toNat_natCast, Int.toNat_natCast, egt]
              rfl
            rw [hR]
            generalize K[j] = kj at *
            have hb' : m_beats_by [s.o, .tup [.int (kj.1 : Int), natT kj.2], .tup [.int (g.1 : Int), natT g.2]] S = .ok (.bl (Bt s kj g)) S := hb
            simp -implicitDefEqProofs [-Int.natCast_add, ecut, e1, q1, hin', q2, e2, q3, ht, hb']
          · have q3' : isIdx K.length c = false := by simpa using q3
            have hR : isRowL s K (.tup [.int (g.1 : Int), natT g.2, c]) = false := by
              show (isGive s (.tup [.int (g.1 : Int), natT g.2]) && (isIdx K.length c && _)) = _
              rw [q1, q3']
              rfl
            rw [hR]
            simp -implicitDefEqProofs [-Int.natCast_add, ecut, e1, q1, hin', q2, e2, q3']
      · have q1' : isGive s (.tup [a, b]) = false := by simpa using q1
        have : isRowL s K (.tup [a, b, c]) = false := by
          show (isGive s (.tup [a, b]) && _) = false
          rw [q1']
          rfl
        rw [this]
        simp -implicitDefEqProofs [-Int.natCast_add, ecut, e1, q1']
    | a :: b :: c :: d :: r, _ =>
      have q : ¬ ((r.length + 1 + 1 + 1 + 1 : Nat) : Int) = 3 := by omega
      simp -implicitDefEqProofs [-Int.natCast_add, isRowL, q]
  | _ => cases n <;> cases h

/-! ### the program's judge -/
def gvOf : D → Gv
  | .tup (a :: b :: _) => (natOf a, natsOf b)
  | _ => (0, [])
theorem gvOf_give (g : Gv) : gvOf (giveD g) = g := by
  show ((((g.1 : Int)).toNat, natsOf (natT g.2)) : Gv) = g
  rw [natsOf_nat, Int.toNat_natCast]
theorem gvOf_map (K : List Gv) : (K.map giveD).map gvOf = K := by
  rw [List.map_map]
  exact (List.map_congr_left fun g _ => gvOf_give g).trans (List.map_id K)
theorem gvOf_row {s : ShopT} {K : List Gv} {d : D} (h : isRowL s K d = true) : take2 d = giveD (gvOf d) ∧ GvOk s (gvOf d) ∧ inK K d = decide (gvOf d ∈ K) := by
  obtain ⟨g, c, e, ok, _⟩ := isRowL_ex h
  subst e
  have e : gvOf (.tup [.int (g.1 : Int), natT g.2, .int (c : Int)]) = g := by
    show ((((g.1 : Int)).toNat, natsOf (natT g.2)) : Gv) = g
    rw [natsOf_nat, Int.toNat_natCast]
  refine ⟨by rw [e]; rfl, by rw [e]; exact ok, rfl⟩
theorem rows_take2 {s : ShopT} {K : List Gv} {rs : List D} (h : rs.all (isRowL s K) = true) : rs.map take2 = (rs.map gvOf).map giveD := by
  rw [List.map_map]
  exact List.map_congr_left fun d hd => (gvOf_row (List.all_eq_true.mp h d hd)).1
theorem encGl : EncOk (α := List Gv) (fun xs => ∀ x ∈ xs, True) (fun xs => .lst (xs.map giveD)) (fun xs => .list (xs.map giveP)) 3 := encGive.lst
theorem gl_eq (A B : List Gv) (neg : Bool) : dEqv neg (.lst (A.map giveD)) (.lst (B.map giveD)) = some (.bl (if neg then !decide (A = B) else decide (A = B))) := by
  have h := encGl.eq (a := A) (b := B) (fun _ _ => trivial) (fun _ _ => trivial) neg
  exact h
def rightK (s : ShopT) (K : List Gv) (rs : List D) : Bool :=
  ascG K && ((K.all fun g => K.all fun h => !Bt s h g) && (rs.all (isRowL s K) && (ascG (rs.map gvOf) && decide ((K ++ rs.map gvOf).mergeSort gLe = allG s))))
def RightB (s : ShopT) : D → D → Bool
  | .tup ks, .tup rs => ks.all (isGive s) && rightK s (ks.map gvOf) rs
  | _, _ => false
theorem sort_dup {s : ShopT} {K R : List Gv} (h : (K ++ R).mergeSort gLe = allG s) : ∀ g ∈ R, g ∉ K := by
  have nd : (K ++ R).Nodup := by
    have := allG_nd s
    rw [← h] at this
    exact (List.mergeSort_perm _ _).nodup_iff.mp this
  intro g hg hk
  exact (List.nodup_append.mp nd).2.2 g hk g hg rfl
theorem all_imp {α : Type} {p q : α → Bool} {xs : List α} (h : xs.all p = false) (hi : ∀ x, q x = true → p x = true) : xs.all q = false := by
  cases e : xs.all q with
  | false => rfl
  | true =>
    have : xs.all p = true := List.all_eq_true.mpr fun x hx => hi x (List.all_eq_true.mp e x hx)
    rw [h] at this
    cases this
theorem any_not {α : Type} (p : α → Bool) (xs : List α) : (xs.all fun x => !p x) = !xs.any p := by
  induction xs with
  | nil => rfl
  | cons x r ih => rw [List.all_cons, List.any_cons, ih]; cases p x <;> simp

theorem holds_pl {n : Nat} (hn : n ≤ 50) {s : ShopT} (hs : Sh s) {a b : D} (ha : pl n a = true) (hb : pl n b = true) (S : Sto) :
    m_thin_holds [s.o, thinD a b] S = .ok (.bl (RightB s a b)) S := by
  unfold m_thin_holds b_thin_holds
  have hg := gives_by_ok hs S
  have hgl := allG_len hs
  have h1 : attrD at_kept "kept" (thinD a b) S = .ok a S := th_kept a b S
  have h2 : attrD at_beaten "beaten" (thinD a b) S = .ok b S := th_beaten a b S
  have h3 : isOwn OWN "Thin" (thinD a b) = some true := th_is a b
  generalize thinD a b = v at *
  by_cases qa : isTup a = true
  · by_cases qb : isTup b = true
    · cases a with
      | tup ks =>
        cases b with
        | tup rs =>
          cases n with
          | zero => cases ha
          | succ n =>
          obtain ⟨pk, lk⟩ := pl_tup ha
          obtain ⟨pr, lr⟩ := pl_tup hb
          have hall := all_map (isGive s) ks
          have hkz : ks.length ≤ sizeLine := by rw [szl]; omega
          have hrz : rs.length ≤ sizeLine := by rw [szl]; omega
          simp -implicitDefEqProofs [-Int.natCast_add, hg, h1, h2, h3]
          rw [compL_self (g := fun x => .bl (isGive s x)) ks (fun x hx => by simp -implicitDefEqProofs [-Int.natCast_add, give_pl hs (pls_mem pk x hx)])]
          have hLz : (ks.map fun x => D.bl (isGive s x)).length ≤ sizeLine := by rw [List.length_map]; exact hkz
          generalize (ks.map fun x => D.bl (isGive s x)) = LL at *
          by_cases q1 : ks.all (isGive s) = true
          · obtain ⟨K, e, hK⟩ := all_gives (n := n) q1
            subst e
            have hasc := asc_tup (L := K) (by simpa using lk) S
            rw [q1] at hall
            have hKz : K.length ≤ sizeLine := by simpa using hkz
            by_cases q2 : ascG K = true
            · simp -implicitDefEqProofs [-Int.natCast_add, h1, h2, h3, hall, hasc, q2, hKz, hLz]
              have hR : RightB s (.tup (K.map giveD)) (.tup rs) = rightK s K rs := by
                show ((K.map giveD).all (isGive s) && rightK s ((K.map giveD).map gvOf) rs) = _
                rw [q1, gvOf_map]
                rfl
              rw [hR]
              clear hR
              rw [compL_map (enc := giveD) (g := fun g => .bl (K.any fun h => Bt s h g)) K (fun g hg' => by
                have hany := any_map (fun h => Bt s h g) K
                have hz : (K.map fun h => D.bl (Bt s h g)).length ≤ sizeLine := by rw [List.length_map]; exact hKz
                simp -implicitDefEqProofs [-Int.natCast_add, h1]
                rw [compL_map (enc := giveD) (g := fun h => .bl (Bt s h g)) K (fun h hh => by
                  have hb := beats_ok hs (hK h hh) (hK g hg') S
                  have hb' : m_beats_by [s.o, .tup [.int (h.1 : Int), natT h.2], .tup [.int (g.1 : Int), natT g.2]] S = .ok (.bl (Bt s h g)) S := hb
                  simp -implicitDefEqProofs [-Int.natCast_add, hb'])]
                generalize (K.map fun h => D.bl (Bt s h g)) = L2 at *
                simp -implicitDefEqProofs [-Int.natCast_add, hz, hany])]
              have hany := any_map (fun g => K.any fun h => Bt s h g) K
              have hz : (K.map fun g => D.bl (K.any fun h => Bt s h g)).length ≤ sizeLine := by rw [List.length_map]; exact hKz
              generalize (K.map fun g => D.bl (K.any fun h => Bt s h g)) = L3 at *
              have hnot : (K.all fun g => K.all fun h => !Bt s h g) = !(K.any fun g => K.any fun h => Bt s h g) := by
                rw [← any_not]
                congr 1
                funext g
                exact any_not _ _
              unfold rightK
              rw [q2, hnot]
              by_cases q3 : (K.any fun g => K.any fun h => Bt s h g) = true
              · rw [q3] at hany ⊢
                simp -implicitDefEqProofs [-Int.natCast_add, hz, hany]
              · have q3' : (K.any fun g => K.any fun h => Bt s h g) = false := by simpa using q3
                rw [q3'] at hany ⊢
                simp -implicitDefEqProofs [-Int.natCast_add, hz, hany, h1, h2]
                rw [compL_self (g := fun x => .bl (isRowL s K x && !inK K x)) rs (fun x hx => by
                  simp -implicitDefEqProofs [-Int.natCast_add, h1, row_pl hs hK (by simpa using lk) (pls_mem pr x hx)])]
                have hall3 := all_map (fun x => isRowL s K x && !inK K x) rs
                have hz3 : (rs.map fun x => D.bl (isRowL s K x && !inK K x)).length ≤ sizeLine := by rw [List.length_map]; exact hrz
                generalize (rs.map fun x => D.bl (isRowL s K x && !inK K x)) = L4 at *
                by_cases q4 : (rs.all fun x => isRowL s K x && !inK K x) = true
                · have q5 : rs.all (isRowL s K) = true := by
                    rw [List.all_eq_true] at q4 ⊢
                    intro x hx
                    have := q4 x hx
                    rw [Bool.and_eq_true] at this
                    exact this.1
                  rw [q4] at hall3
                  rw [q5]
                  simp -implicitDefEqProofs [-Int.natCast_add, hz3, hall3, h2]
                  rw [compL_self (g := take2) rs (fun x hx => by
                    obtain ⟨g, c, e, _⟩ := isRowL_ex (List.all_eq_true.mp q5 x hx)
                    subst e
                    have ecut : Ev.cutD [.int (g.1 : Int), natT g.2, .int (c : Int)] none (some 2) = [.int (g.1 : Int), natT g.2] := cut_take2 _
                    have et : take2 (.tup [.int (g.1 : Int), natT g.2, .int (c : Int)]) = .tup [.int (g.1 : Int), natT g.2] := rfl
                    simp -implicitDefEqProofs [-Int.natCast_add, ecut, et])]
                  rw [rows_take2 q5]
                  have hRl : (rs.map gvOf).length = rs.length := List.length_map ..
                  generalize rs.map gvOf = R at *
                  have hRz : R.length ≤ sizeLine := by rw [hRl]; exact hrz
                  have hasc2 := asc_lst (L := R) (by rw [hRl]; exact lr) S
                  have hsum : K.length + R.length ≤ sizeLine := by rw [hRl, szl]; have : K.length ≤ 100000 := by simpa using lk
                                                                   omega
                  have hso := sorted_gives (K ++ R)
                  rw [List.map_append] at hso
                  have heq := gl_eq ((K ++ R).mergeSort gLe) (allG s) false
                  rw [if_neg (by decide)] at heq
                  by_cases q6 : ascG R = true
                  · rw [q6] at hasc2 ⊢
                    simp -implicitDefEqProofs [-Int.natCast_add, hRz, hasc2, h1, hsum, hso, heq]
                  · have q6' : ascG R = false := by simpa using q6
                    rw [q6'] at hasc2 ⊢
                    simp -implicitDefEqProofs [-Int.natCast_add, hRz, hasc2]
                · have q4' : (rs.all fun x => isRowL s K x && !inK K x) = false := by simpa using q4
                  rw [q4'] at hall3
                  have hfin : (rs.all (isRowL s K) && (ascG (rs.map gvOf) && decide ((K ++ rs.map gvOf).mergeSort gLe = allG s))) = false := by
                    cases q5 : rs.all (isRowL s K) with
                    | false => rfl
                    | true =>
                      by_cases q6 : (K ++ rs.map gvOf).mergeSort gLe = allG s
                      · exfalso
                        have hd := sort_dup q6
                        apply q4
                        rw [List.all_eq_true] at q5 ⊢
                        intro x hx
                        rw [q5 x hx, (gvOf_row (q5 x hx)).2.2, decide_eq_false (hd _ (List.mem_map.mpr ⟨x, hx, rfl⟩))]
                        rfl
                      · simp [q6]
                  rw [hfin]
                  simp -implicitDefEqProofs [-Int.natCast_add, hz3, hall3]
            · have q2' : ascG K = false := by simpa using q2
              have : RightB s (.tup (K.map giveD)) (.tup rs) = false := by
                show (_ && rightK s ((K.map giveD).map gvOf) rs) = false
                rw [gvOf_map]
                unfold rightK
                rw [q2']
                simp
              rw [this]
              simp -implicitDefEqProofs [-Int.natCast_add, h1, h2, h3, hall, hasc, q2', hKz, hLz]
          · have q1' : ks.all (isGive s) = false := by simpa using q1
            rw [q1'] at hall
            have : RightB s (.tup ks) (.tup rs) = false := by
              show (ks.all (isGive s) && _) = false
              rw [q1']
              rfl
            rw [this]
            simp -implicitDefEqProofs [-Int.natCast_add, h1, h2, h3, hall, hkz, hLz]
        | _ => cases qb
      | _ => cases qa
    · have : RightB s a b = false := by cases a <;> cases b <;> first | rfl | exact absurd rfl qb
      rw [this]
      cases a with
      | tup ks =>
        cases b with
        | tup _ => exact absurd rfl qb
        | non => simp -implicitDefEqProofs [-Int.natCast_add, hg, h1, h2, h3, isTyS]
        | bl b => simp -implicitDefEqProofs [-Int.natCast_add, hg, h1, h2, h3, isTyS]
        | int i => simp -implicitDefEqProofs [-Int.natCast_add, hg, h1, h2, h3, isTyS]
        | str x => simp -implicitDefEqProofs [-Int.natCast_add, hg, h1, h2, h3, isTyS]
        | _ => cases n <;> cases hb
      | _ => cases qa
  · have : RightB s a b = false := by cases a <;> first | rfl | exact absurd rfl qa
    rw [this]
    cases a with
    | tup _ => exact absurd rfl qa
    | non => simp -implicitDefEqProofs [-Int.natCast_add, hg, h1, h2, h3, isTyS]
    | bl b => simp -implicitDefEqProofs [-Int.natCast_add, hg, h1, h2, h3, isTyS]
    | int i => simp -implicitDefEqProofs [-Int.natCast_add, hg, h1, h2, h3, isTyS]
    | str x => simp -implicitDefEqProofs [-Int.natCast_add, hg, h1, h2, h3, isTyS]
    | _ => cases n <;> cases ha

theorem holds_not {s : ShopT} (hs : Sh s) {v : D} (h : isOwn OWN "Thin" v = some false) (S : Sto) : m_thin_holds [s.o, v] S = .ok (.bl false) S := by
  unfold m_thin_holds b_thin_holds
  have hg := gives_by_ok hs S
  simp -implicitDefEqProofs [-Int.natCast_add, hg, h]
theorem lright_not {s : ShopT} {v : D} (h : isOwn OWN "Thin" v = some false) (S : Sto) : m__law_thin_right [s.t, v] S = .ok (.bl false) S := by
  unfold m__law_thin_right b__law_thin_right
  simp -implicitDefEqProofs [-Int.natCast_add, h]
theorem forL_self {body : D → DEnv → M Out} {P : Nat → DEnv → Sto → Prop} {Q : Out → Sto → Prop} (xs : List D) {ρ : DEnv} {S : Sto}
    (h0 : P 0 ρ S) (h1 : ∀ j x, xs[j]? = some x → ∀ ρ S, P j ρ S → (body x ρ S).post (stepP (P (j + 1)) Q)) (h2 : ∀ ρ S, P xs.length ρ S → Q (.nx ρ) S) : (forL body xs ρ S).post Q := by
  have := forL_map (enc := fun x : D => x) (P := P) (Q := Q) (body := body) xs h0 h1 h2
  simpa using this
theorem not_emp {α : Type} (p : α → Bool) (xs : List α) : (!(xs.filter p).isEmpty) = xs.any p := by
  rw [filter_emp, any_not, Bool.not_not]
theorem desc_at {L : List Gv} {k : Nat} (hk : k < L.length - 1) : (D.int (1 + (k : Int)) = D.int ((k + 1 : Nat) : Int)) ∧ dIx (.lst (L.map giveD)) (.int (k : Int)) = some (giveD (L.getD k (0, []))) ∧ dIx (.lst (L.map giveD)) (.int ((k + 1 : Nat) : Int)) = some (giveD (L.getD (k + 1) (0, []))) ∧
    dIx (.tup (L.map giveD)) (.int (k : Int)) = some (giveD (L.getD k (0, []))) ∧ dIx (.tup (L.map giveD)) (.int ((k + 1 : Nat) : Int)) = some (giveD (L.getD (k + 1) (0, []))) :=
  ⟨by congr 1; omega, gl_at (by omega), gl_at (by omega), gt_at (by omega), gt_at (by omega)⟩
theorem give_ge (a b : Gv) : dCmp (fun d e => !PySem.W.dataLt d e) (.tup [.int (a.1 : Int), natT a.2]) (.tup [.int (b.1 : Int), natT b.2]) = some (.bl (!decide (gLt a b))) := by
  have e3 := give_cmp (fun d e => !PySem.W.dataLt d e) a b
  rw [giveP_lt] at e3
  exact e3
def descs (L : List Gv) : List D := ((List.range (L.length - 1)).filter fun k => !decide (gLt (L.getD k (0, [])) (L.getD (k + 1) (0, [])))).map fun k => D.int ((k + 1 : Nat) : Int)
theorem descs_len (L : List Gv) : (descs L).length ≤ L.length := by
  unfold descs
  rw [List.length_map]
  refine Nat.le_trans (List.length_filter_le _ _) ?_
  rw [List.length_range]
  omega
theorem descs_pls (n : Nat) (L : List Gv) : pls n (descs L) = true := pls_of fun d hd => by
  obtain ⟨k, _, rfl⟩ := List.mem_map.mp hd
  cases n <;> rfl
theorem descs_emp (L : List Gv) : (descs L).isEmpty = ascG L := by
  rw [← desc_emp]
  unfold descs
  rw [List.isEmpty_map]
theorem descs_ne (L : List Gv) : dEqv true (.lst (descs L)) (.lst []) = some (.bl (!ascG L)) := by
  have := cmp_nilL (n := 0) (ds := descs L) (by omega) (descs_pls 0 L) true
  rw [descs_emp] at this
  exact this
theorem rg_one' {n : Nat} (h : n ≤ 1000000) : dRange [.int 1, .int (n : Int)] = some ((List.range (n - 1)).map fun (k : Nat) => .int (1 + (k : Int))) := by
  rw [rg_one h]
  rfl
theorem descs_comp {f : D → M (Option D)} {S : Sto} {L : List Gv} (h : ∀ k, k < L.length - 1 → f (.int ((k + 1 : Nat) : Int)) S = .ok (if !decide (gLt (L.getD k (0, [])) (L.getD (k + 1) (0, []))) then some (.int ((k + 1 : Nat) : Int)) else none) S) :
    compL f ((List.range (L.length - 1)).map fun (k : Nat) => .int (1 + (k : Int))) S = .ok (descs L) S := by
  have := compL_filter (S := S) (f := f) (enc := fun (k : Nat) => D.int ((k + 1 : Nat) : Int)) (g := fun (k : Nat) => D.int ((k + 1 : Nat) : Int)) (p := fun k => !decide (gLt (L.getD k (0, [])) (L.getD (k + 1) (0, [])))) (List.range (L.length - 1)) (fun k hk => h k (List.mem_range.mp hk))
  rw [← show ((List.range (L.length - 1)).map fun (k : Nat) => D.int (1 + (k : Int))) = (List.range (L.length - 1)).map fun (k : Nat) => D.int ((k + 1 : Nat) : Int) from List.map_congr_left fun k _ => by congr 1; omega] at this
  exact this
theorem lright_pl {n : Nat} (hn : n ≤ 50) {s : ShopT} (hs : Sh s) {a b : D} (ha : pl n a = true) (hb : pl n b = true) (S : Sto) :
    m__law_thin_right [s.t, thinD a b] S = .ok (.bl (RightB s a b)) S := by
  refine post_ok ?_
  unfold m__law_thin_right b__law_thin_right
  have hg := lgives_of_ok hs S
  have hgl := allG_len hs
  have h1 : attrD at_kept "kept" (thinD a b) S = .ok a S := th_kept a b S
  have h2 : attrD at_beaten "beaten" (thinD a b) S = .ok b S := th_beaten a b S
  have h3 : isOwn OWN "Thin" (thinD a b) = some true := th_is a b
  generalize thinD a b = v at *
  by_cases qa : isTup a = true
  · by_cases qb : isTup b = true
    · cases a with
      | tup ks =>
        cases b with
        | tup rs =>
          cases n with
          | zero => cases ha
          | succ n =>
          obtain ⟨pk, lk⟩ := pl_tup ha
          obtain ⟨pr, lr⟩ := pl_tup hb
          have hkz : ks.length ≤ sizeLine := by rw [szl]; omega
          have hrz : rs.length ≤ sizeLine := by rw [szl]; omega
          simp -implicitDefEqProofs [-Int.natCast_add, h1, h2, h3]
          rw [compL_selfF (g := fun x => x) (p := fun x => !isGive s x) ks (fun x hx => by
            have := lgive_pl (by omega) hs (pls_mem pk x hx) S
            cases q : isGive s x with
            | true => rw [q] at this; simp -implicitDefEqProofs [-Int.natCast_add, this]
            | false => rw [q] at this; simp -implicitDefEqProofs [-Int.natCast_add, this])]
          have hc := cmp_nilL (n := n) (ds := ks.filter fun x => !isGive s x) (by omega) (pls_filter pk _) true
          rw [filter_emp] at hc
          have hLz : (ks.filter fun x => !isGive s x).length ≤ sizeLine := Nat.le_trans (List.length_filter_le _ _) hkz
          rw [List.map_id']
          generalize (ks.filter fun x => !isGive s x) = LL at *
          rw [show (ks.all fun x => !!isGive s x) = ks.all (isGive s) by congr 1; funext x; exact Bool.not_not _] at hc
          by_cases q1 : ks.all (isGive s) = true
          · rw [q1] at hc
            obtain ⟨K, e, hK⟩ := all_gives (n := n) q1
            subst e
            have hKl : K.length ≤ 100000 := by simpa using lk
            have hKz : K.length ≤ sizeLine := by simpa using hkz
            have hR : RightB s (.tup (K.map giveD)) (.tup rs) = rightK s K rs := by
              show ((K.map giveD).all (isGive s) && rightK s ((K.map giveD).map gvOf) rs) = _
              rw [q1, gvOf_map]
              rfl
            rw [hR]
            clear hR
            simp -implicitDefEqProofs [-Int.natCast_add, hLz, hc, h1]
            rw [rg_one' (by omega)]
            simp -implicitDefEqProofs [-Int.natCast_add]
            rw [descs_comp (L := K) (fun k hk => by
              obtain ⟨e1, _, _, e2, e3⟩ := desc_at hk
              have e4 := give_ge (K.getD k (0, [])) (K.getD (k + 1) (0, []))
              have e5 : ((k + 1 : Nat) : Int) - 1 = (k : Int) := by omega
              generalize K.getD k (0, []) = ga at *
              generalize K.getD (k + 1) (0, []) = gb at *
              generalize ((k + 1 : Nat) : Int) = k1 at *
              by_cases q : gLt ga gb
              · simp -implicitDefEqProofs [-Int.natCast_add, h1, e5, e2, e3, e4, q]
              · simp -implicitDefEqProofs [-Int.natCast_add, h1, e5, e2, e3, e4, q])]
            have hdn := descs_ne K
            have hdl : (descs K).length ≤ sizeLine := Nat.le_trans (descs_len K) hKz
            generalize descs K = LD at *
            unfold rightK
            by_cases q2 : ascG K = true
            · rw [q2] at hdn
              simp -implicitDefEqProofs [-Int.natCast_add, hdl, hdn, h1]
              have hbt := fun (g : Gv) (hg' : g ∈ K) (h : Gv) (hh : h ∈ K) => (show m__law_beats [s.t, .tup [.int (h.1 : Int), natT h.2], .tup [.int (g.1 : Int), natT g.2]] S = .ok (.bl (Bt s h g)) S from lbeats_ok hs (hK h hh) (hK g hg') S)
              rw [compL_filter (enc := giveD) (g := giveD) (p := fun g => K.any fun h => Bt s h g) K (fun g hg' => by
                simp -implicitDefEqProofs [-Int.natCast_add, h1]
                rw [compL_filter (enc := giveD) (g := giveD) (p := fun h => Bt s h g) K (fun h hh => by
                  have hb' := hbt g hg' h hh
                  cases q : Bt s h g with
                  | true => rw [q] at hb'; simp -implicitDefEqProofs [-Int.natCast_add, hb']
                  | false => rw [q] at hb'; simp -implicitDefEqProofs [-Int.natCast_add, hb'])]
                have hc2 := cmp_nilL (n := n) (ds := (K.filter fun h => Bt s h g).map giveD) (by omega) (pls_of fun d hd => by
                  obtain ⟨h, hh, rfl⟩ := List.mem_map.mp hd
                  exact pls_mem pk _ (List.mem_map.mpr ⟨h, (List.mem_filter.mp hh).1, rfl⟩)) true
                have hl2 : ((K.filter fun h => Bt s h g).map giveD).length ≤ sizeLine := by
                  rw [List.length_map]
                  exact Nat.le_trans (List.length_filter_le _ _) hKz
                rw [List.isEmpty_map, not_emp] at hc2
                rw [if_pos rfl] at hc2
                generalize (K.filter fun h => Bt s h g).map giveD = L2 at *
                cases q : K.any fun h => Bt s h g with
                | true => rw [q] at hc2; simp -implicitDefEqProofs [-Int.natCast_add, hl2, hc2]
                | false => rw [q] at hc2; simp -implicitDefEqProofs [-Int.natCast_add, hl2, hc2])]
              have hc3 := cmp_nilL (n := n) (ds := (K.filter fun g => K.any fun h => Bt s h g).map giveD) (by omega) (pls_of fun d hd => by
                obtain ⟨h, hh, rfl⟩ := List.mem_map.mp hd
                exact pls_mem pk _ (List.mem_map.mpr ⟨h, (List.mem_filter.mp hh).1, rfl⟩)) true
              have hl3 : ((K.filter fun g => K.any fun h => Bt s h g).map giveD).length ≤ sizeLine := by
                rw [List.length_map]
                exact Nat.le_trans (List.length_filter_le _ _) hKz
              rw [List.isEmpty_map, not_emp, if_pos rfl] at hc3
              generalize (K.filter fun g => K.any fun h => Bt s h g).map giveD = L3 at *
              have hnot : (K.all fun g => K.all fun h => !Bt s h g) = !(K.any fun g => K.any fun h => Bt s h g) := by
                rw [← any_not]
                congr 1
                funext g
                exact any_not _ _
              rw [q2, hnot]
              by_cases q3 : (K.any fun g => K.any fun h => Bt s h g) = true
              · rw [q3] at hc3 ⊢
                simp -implicitDefEqProofs [-Int.natCast_add, hl3, hc3]
              · have q3' : (K.any fun g => K.any fun h => Bt s h g) = false := by simpa using q3
                rw [q3'] at hc3 ⊢
                simp -implicitDefEqProofs [-Int.natCast_add, hl3, hc3, h1, h2]
                refine then_post (P := fun x S' => S' = S ∧ ((rs.all (isRowL s K) = false ∧ x = .rt (.bl false)) ∨ (rs.all (isRowL s K) = true ∧ ∃ ρ', x = .nx ρ' ∧ St [some (s.t), some (v), none, none, none, none, none] ρ'))) (forL_self (P := fun j ρ S' => S' = S ∧ (rs.take j).all (isRowL s K) = true ∧ St [some (s.t), some (v), none, none, none, none, none] ρ) rs ⟨rfl, rfl, by simp⟩ (fun j x hx ρ S' ⟨e1, e2, h⟩ => ?_) fun ρ S' ⟨e1, e2, h⟩ => ⟨e1, .inr ⟨by rw [List.take_length] at e2; exact e2, ρ, rfl, h⟩⟩) fun o S' ⟨e1, ho⟩ => ?_
                · repeat (first | (replace h := St.some h; obtain ⟨_, rfl, h⟩ := h) | (replace h := St.none h; obtain ⟨_, _, rfl, h⟩ := h))
                  cases St.nil h
                  subst e1
                  have hxr := List.mem_of_getElem? hx
                  have px := pls_mem pr x hxr
                  have hnext : isRowL s K x = true → (rs.take (j + 1)).all (isRowL s K) = true := fun q => by
                    rw [take_next hx, List.all_append, e2]
                    simpa using q
                  have hstop : isRowL s K x = false → rs.all (isRowL s K) = false := fun q => by
                    cases q2 : rs.all (isRowL s K) with
                    | false => rfl
                    | true => rw [List.all_eq_true.mp q2 x hxr] at q; cases q
                  cases x with
                  | non => simp -implicitDefEqProofs [-Int.natCast_add, isTyS, stepP, hstop rfl]
                  | bl b => simp -implicitDefEqProofs [-Int.natCast_add, isTyS, stepP, hstop rfl]
                  | int i => simp -implicitDefEqProofs [-Int.natCast_add, isTyS, stepP, hstop rfl]
                  | str x => simp -implicitDefEqProofs [-Int.natCast_add, isTyS, stepP, hstop rfl]
                  | tup xs =>
                    cases n with
                    | zero => cases px
                    | succ n =>
                    obtain ⟨h1x, _⟩ := pl_tup px
                    match xs, h1x with
                    | [], _ => simp -implicitDefEqProofs [-Int.natCast_add, stepP, hstop rfl]
                    | [a], _ => simp -implicitDefEqProofs [-Int.natCast_add, stepP, hstop rfl]
                    | [a, b], _ => simp -implicitDefEqProofs [-Int.natCast_add, stepP, hstop rfl]
                    | [a, b, c], h1x =>
                      have ha := pls_mem h1x a (by simp)
                      have hb := pls_mem h1x b (by simp)
                      have hc := pls_mem h1x c (by simp)
                      have hab : pl (n + 1) (.tup [a, b]) = true := pl_mk (pls_of fun x hx => by
                        rcases List.mem_cons.mp hx with rfl | hx
                        · exact ha
                        · rcases List.mem_cons.mp hx with rfl | hx
                          · exact hb
                          · cases hx) (by simp)
                      have e1 := lgive_pl (by omega) hs hab S'
                      have e2' := lwhole_pl hc S'
                      have ecut : Ev.cutD [a, b, c] none (some 2) = [a, b] := cut_take2 _
                      by_cases q1 : isGive s (.tup [a, b]) = true
                      · rw [q1] at e1
                        obtain ⟨g, eg, ok⟩ := isGive_ex q1
                        injection eg with eg
                        injection eg with ea eb
                        injection eb with eb _
                        subst ea eb
                        by_cases q3 : isIdx K.length c = true
                        · obtain ⟨ec, hc2⟩ := isIdx_ex q3
                          generalize natOf c = i at *
                          subst ec
                          have hb := lbeats_ok hs (hK _ (List.getElem_mem hc2)) ok S'
                          have egt : K.getD i (0, []) = K[i] := by rw [List.getD_eq_getElem?_getD, List.getElem?_eq_getElem hc2]; rfl
                          have ht := gt_at hc2
                          rw [egt] at ht
                          have hR : isRowL s K (.tup [.int (g.1 : Int), natT g.2, .int (i : Int)]) = Bt s K[i] g := by
                            show (isGive s (.tup [.int (g.1 : Int), natT g.2]) && (isIdx K.length (.int (i : Int)) && Bt s (K.getD (((i : Int)).toNat) (0, [])) ((((g.1 : Int)).toNat), natsOf (natT g.2)))) = _
                            rw [q1, q3, natsOf_nat, Int.toNat_natCast, Int.toNat_natCast, egt]
                            rfl
                          rw [hR] at hnext hstop
                          generalize K[i] = kj at *
                          have hb' : m__law_beats [s.t, .tup [.int (kj.1 : Int), natT kj.2], .tup [.int (g.1 : Int), natT g.2]] S' = .ok (.bl (Bt s kj g)) S' := hb
                          have hi0 : (0 : Int) ≤ (i : Int) := by omega
                          have hi1 : (i : Int) < (K.length : Int) := by omega
                          have e2'' : m__law_whole [.int (i : Int)] S' = .ok (.bl true) S' := e2'
                          have hlen : dLen [.tup (K.map giveD)] = some (.int (K.length : Int)) := by
                            show some (D.int ((K.map giveD).length : Int)) = _
                            rw [List.length_map]
                          cases q4 : Bt s kj g with
                          | true => rw [q4] at hb'; simp -implicitDefEqProofs [-Int.natCast_add, ecut, e1, e2'', hi0, hi1, h1, ht, hb', hlen, stepP, hnext q4]
                          | false => rw [q4] at hb'; simp -implicitDefEqProofs [-Int.natCast_add, ecut, e1, e2'', hi0, hi1, h1, ht, hb', hlen, stepP, hstop q4]
                        · have q3' : isIdx K.length c = false := by simpa using q3
                          have hR : isRowL s K (.tup [.int (g.1 : Int), natT g.2, c]) = false := by
                            show (isGive s (.tup [.int (g.1 : Int), natT g.2]) && (isIdx K.length c && _)) = _
                            rw [q1, q3']
                            rfl
                          have hlen : dLen [.tup (K.map giveD)] = some (.int (K.length : Int)) := by
                            show some (D.int ((K.map giveD).length : Int)) = _
                            rw [List.length_map]
                          cases c with
                          | int i =>
                            have e2'' : m__law_whole [.int i] S' = .ok (.bl true) S' := e2'
                            have q5 : (decide (0 ≤ i) && decide (i < (K.length : Int))) = false := q3'
                            by_cases q6 : 0 ≤ i
                            · have q7 : ¬ i < (K.length : Int) := by
                                intro q7
                                rw [decide_eq_true q6, decide_eq_true q7] at q5
                                cases q5
                              simp -implicitDefEqProofs [-Int.natCast_add, ecut, e1, e2'', q6, q7, h1, hlen, stepP, hstop hR]
                            · simp -implicitDefEqProofs [-Int.natCast_add, ecut, e1, e2'', q6, h1, hlen, stepP, hstop hR]
                          | _ =>
                            rw [show isInt _ = false from rfl] at e2'
                            simp -implicitDefEqProofs [-Int.natCast_add, ecut, e1, e2', stepP, hstop hR]
                      · have q1' : isGive s (.tup [a, b]) = false := by simpa using q1
                        rw [q1'] at e1
                        have hR : isRowL s K (.tup [a, b, c]) = false := by
                          show (isGive s (.tup [a, b]) && _) = false
                          rw [q1']
                          rfl
                        simp -implicitDefEqProofs [-Int.natCast_add, ecut, e1, stepP, hstop hR]
                    | a :: b :: c :: d :: r, _ =>
                      have q : ¬ ((r.length + 1 + 1 + 1 + 1 : Nat) : Int) = 3 := by omega
                      simp -implicitDefEqProofs [-Int.natCast_add, q, stepP, hstop rfl]
                  | _ => cases n <;> cases px
                · subst e1
                  rcases ho with ⟨q5, rfl⟩ | ⟨q5, ρ', rfl, h⟩
                  · rw [q5]
                    simp -implicitDefEqProofs [-Int.natCast_add]
                  · rw [q5]
                    repeat (first | (replace h := St.some h; obtain ⟨_, rfl, h⟩ := h) | (replace h := St.none h; obtain ⟨_, _, rfl, h⟩ := h))
                    cases St.nil h
                    simp -implicitDefEqProofs [-Int.natCast_add, h2]
                    rw [compL_self (g := take2) rs (fun x hx => by
                      obtain ⟨g, c, e, _⟩ := isRowL_ex (List.all_eq_true.mp q5 x hx)
                      subst e
                      have ecut : Ev.cutD [.int (g.1 : Int), natT g.2, .int (c : Int)] none (some 2) = [.int (g.1 : Int), natT g.2] := cut_take2 _
                      have et : take2 (.tup [.int (g.1 : Int), natT g.2, .int (c : Int)]) = .tup [.int (g.1 : Int), natT g.2] := rfl
                      simp -implicitDefEqProofs [-Int.natCast_add, ecut, et])]
                    rw [rows_take2 q5]
                    have hRl : (rs.map gvOf).length = rs.length := List.length_map ..
                    generalize rs.map gvOf = R at *
                    have hRz : R.length ≤ sizeLine := by rw [hRl]; exact hrz
                    have hRl2 : R.length ≤ 100000 := by rw [hRl]; exact lr
                    have hsum : K.length + R.length ≤ sizeLine := by rw [szl]; omega
                    have hso := sorted_gives (K ++ R)
                    rw [List.map_append] at hso
                    have heq := gl_eq ((K ++ R).mergeSort gLe) (allG s) false
                    rw [if_neg (by decide)] at heq
                    simp -implicitDefEqProofs [-Int.natCast_add, hRz]
                    rw [rg_one' (by omega)]
                    simp -implicitDefEqProofs [-Int.natCast_add]
                    rw [descs_comp (L := R) (fun k hk => by
                      obtain ⟨e1, e2, e3, _, _⟩ := desc_at hk
                      have e4 := give_ge (R.getD k (0, [])) (R.getD (k + 1) (0, []))
                      have e5 : ((k + 1 : Nat) : Int) - 1 = (k : Int) := by omega
                      generalize R.getD k (0, []) = ga at *
                      generalize R.getD (k + 1) (0, []) = gb at *
                      generalize ((k + 1 : Nat) : Int) = k1 at *
                      by_cases q : gLt ga gb
                      · simp -implicitDefEqProofs [-Int.natCast_add, e5, e2, e3, e4, q]
                      · simp -implicitDefEqProofs [-Int.natCast_add, e5, e2, e3, e4, q])]
                    have hdn := descs_ne R
                    have hdl : (descs R).length ≤ sizeLine := Nat.le_trans (descs_len R) hRz
                    generalize descs R = LD2 at *
                    have hcat : dCatF (.lst (K.map giveD)) (.lst (R.map giveD)) = some (.lst (K.map giveD ++ R.map giveD)) := by
                      show (if (K.map giveD).length + (R.map giveD).length ≤ sizeLine then some (D.lst (K.map giveD ++ R.map giveD)) else none) = _
                      rw [List.length_map, List.length_map, if_pos hsum]
                    by_cases q6 : ascG R = true
                    · rw [q6] at hdn ⊢
                      simp -implicitDefEqProofs [-Int.natCast_add, hdl, hdn, h1, hsum, hso, hg, heq, hKz, hRz, hcat]
                    · have q6' : ascG R = false := by simpa using q6
                      rw [q6'] at hdn ⊢
                      simp -implicitDefEqProofs [-Int.natCast_add, hdl, hdn]
            · have q2' : ascG K = false := by simpa using q2
              rw [q2'] at hdn ⊢
              simp -implicitDefEqProofs [-Int.natCast_add, hdl, hdn]
          · have q1' : ks.all (isGive s) = false := by simpa using q1
            rw [q1'] at hc
            have : RightB s (.tup ks) (.tup rs) = false := by
              show (ks.all (isGive s) && _) = false
              rw [q1']
              rfl
            rw [this]
            simp -implicitDefEqProofs [-Int.natCast_add, hLz, hc]
        | _ => cases qb
      | _ => cases qa
    · have : RightB s a b = false := by cases a <;> cases b <;> first | rfl | exact absurd rfl qb
      rw [this]
      cases a with
      | tup ks =>
        cases b with
        | tup _ => exact absurd rfl qb
        | non => simp -implicitDefEqProofs [-Int.natCast_add, h1, h2, h3, isTyS]
        | bl b => simp -implicitDefEqProofs [-Int.natCast_add, h1, h2, h3, isTyS]
        | int i => simp -implicitDefEqProofs [-Int.natCast_add, h1, h2, h3, isTyS]
        | str x => simp -implicitDefEqProofs [-Int.natCast_add, h1, h2, h3, isTyS]
        | _ => cases n <;> cases hb
      | _ => cases qa
  · have : RightB s a b = false := by cases a <;> first | rfl | exact absurd rfl qa
    rw [this]
    cases a with
    | tup _ => exact absurd rfl qa
    | non => simp -implicitDefEqProofs [-Int.natCast_add, h1, h2, h3, isTyS]
    | bl b => simp -implicitDefEqProofs [-Int.natCast_add, h1, h2, h3, isTyS]
    | int i => simp -implicitDefEqProofs [-Int.natCast_add, h1, h2, h3, isTyS]
    | str x => simp -implicitDefEqProofs [-Int.natCast_add, h1, h2, h3, isTyS]
    | _ => cases n <;> cases ha

/-! ### the order of beating -/
theorem geAll_tr : ∀ {a b c : List Nat}, a.length = b.length → b.length = c.length → geAll a b = true → geAll b c = true → geAll a c = true
  | [], [], [], _, _, _, _ => rfl
  | x :: a, y :: b, z :: c, h1, h2, h3, h4 => by
    have h3' : (decide (y ≤ x) && geAll a b) = true := by simpa [geAll] using h3
    have h4' : (decide (z ≤ y) && geAll b c) = true := by simpa [geAll] using h4
    rw [Bool.and_eq_true, decide_eq_true_eq] at h3' h4'
    have := geAll_tr (by simpa using h1) (by simpa using h2) h3'.2 h4'.2
    have q : (decide (z ≤ x) && geAll a c) = true := by
      rw [Bool.and_eq_true, decide_eq_true_eq]
      exact ⟨by omega, this⟩
    simpa [geAll] using q
theorem mayUse_iff (s : ShopT) (a b : Nat) : mayUse s a b = true ↔ (a = b ∨ (sto s a).2.2.1.isNone = true) ∧ (sto s a).2.2.2 ≤ (sto s b).2.2.2 := by
  unfold mayUse
  rw [Bool.and_eq_true, Bool.or_eq_true, decide_eq_true_eq, decide_eq_true_eq]
theorem Bt_iff (s : ShopT) (a b : Gv) : Bt s a b = true ↔ mayUse s a.1 b.1 = true ∧ geAll a.2 b.2 = true ∧ (a.2 ≠ b.2 ∨ (sto s a.1).2.2.2 < (sto s b.1).2.2.2 ∨ a.1 < b.1) := by
  unfold Bt
  rw [Bool.and_eq_true, Bool.and_eq_true, Bool.or_eq_true, Bool.or_eq_true, decide_eq_true_eq, decide_eq_true_eq, decide_eq_true_eq]
theorem Bt_irr (s : ShopT) (a : Gv) : Bt s a a = false := by
  cases q : Bt s a a with
  | false => rfl
  | true =>
    rw [Bt_iff] at q
    rcases q.2.2 with h | h | h
    · exact absurd rfl h
    · omega
    · omega
theorem Bt_tr {s : ShopT} {a b c : Gv} (ha : GvOk s a) (hb : GvOk s b) (hc : GvOk s c) (h1 : Bt s a b = true) (h2 : Bt s b c = true) : Bt s a c = true := by
  rw [Bt_iff] at *
  obtain ⟨m1, g1, s1⟩ := h1
  obtain ⟨m2, g2, s2⟩ := h2
  rw [mayUse_iff] at *
  have lab : a.2.length = b.2.length := by rw [ha.ln, hb.ln]
  have lbc : b.2.length = c.2.length := by rw [hb.ln, hc.ln]
  have gac := geAll_tr lab lbc g1 g2
  refine ⟨⟨?_, by omega⟩, gac, ?_⟩
  · rcases m1.1 with e | e
    · rcases m2.1 with e2 | e2
      · exact .inl (e.trans e2)
      · exact .inr (by rw [e]; exact e2)
    · exact .inr e
  · by_cases q : a.2 = c.2
    · refine .inr ?_
      have w1 := geAll_sum lab g1
      have w2 := geAll_sum lbc g2
      have eab : a.2 = b.2 := w1.2 (by rw [q]; exact w2.1)
      have ebc : b.2 = c.2 := by rw [← eab]; exact q
      rcases s1 with h | h | h
      · exact absurd eab h
      · exact .inl (by omega)
      · rcases s2 with h' | h' | h'
        · exact absurd ebc h'
        · exact .inl (by omega)
        · exact .inr (by omega)
    · exact .inl q
/-- the gives that no other beats -/
def keptG (s : ShopT) : List Gv := (allG s).filter fun g => !(allG s).any fun h => Bt s h g
theorem keptG_beats {s : ShopT} (hs : Sh s) : ∀ (m : Nat) (g : Gv), g ∈ allG s → ((allG s).filter fun h => Bt s h g).length ≤ m → (allG s).any (fun h => Bt s h g) = true → (keptG s).any (fun h => Bt s h g) = true
  | m, g, hg, hm, h => by
    obtain ⟨x, hx, bx⟩ := List.any_eq_true.mp h
    by_cases q : (allG s).any (fun h => Bt s h x) = true
    · have okg := (allG_mem hs).mp hg
      have okx := (allG_mem hs).mp hx
      have sub : ((allG s).filter fun h => Bt s h x).length < ((allG s).filter fun h => Bt s h g).length := by
        have h1 : ((allG s).filter fun h => Bt s h x).length + 1 ≤ (x :: ((allG s).filter fun h => Bt s h x)).length := by simp
        refine Nat.lt_of_lt_of_le (Nat.lt_succ_self _) (Nat.le_trans h1 ?_)
        refine sub_len ?_ fun y hy => ?_
        · rw [List.nodup_cons]
          refine ⟨fun hmem => ?_, (allG_nd s).filter _⟩
          have := (List.mem_filter.mp hmem).2
          rw [Bt_irr] at this
          cases this
        · rcases List.mem_cons.mp hy with rfl | hy
          · exact List.mem_filter.mpr ⟨hx, bx⟩
          · have hy' := List.mem_filter.mp hy
            exact List.mem_filter.mpr ⟨hy'.1, Bt_tr ((allG_mem hs).mp hy'.1) okx okg hy'.2 bx⟩
      cases m with
      | zero => omega
      | succ m =>
        obtain ⟨y, hy, bY⟩ := List.any_eq_true.mp (keptG_beats hs m x hx (by omega) q)
        refine List.any_eq_true.mpr ⟨y, hy, ?_⟩
        have hy' := (List.mem_filter.mp hy).1
        exact Bt_tr ((allG_mem hs).mp hy') okx okg bY bx
    · refine List.any_eq_true.mpr ⟨x, List.mem_filter.mpr ⟨hx, ?_⟩, bx⟩
      simpa using q
theorem keptG_ok {s : ShopT} (hs : Sh s) : ∀ g ∈ keptG s, GvOk s g := fun g hg => (allG_mem hs).mp (List.mem_filter.mp hg).1
theorem keptG_len {s : ShopT} (hs : Sh s) : (keptG s).length ≤ 12000 := Nat.le_trans (List.length_filter_le _ _) (allG_len hs)
theorem kept_by_ok {s : ShopT} (hs : Sh s) (S : Sto) : m_kept_by [s.o] S = .ok (.lst ((keptG s).map giveD)) S := by
  unfold m_kept_by b_kept_by
  have hg := gives_by_ok hs S
  have hok : ∀ g ∈ allG s, GvOk s g := fun g hg => (allG_mem hs).mp hg
  have hgz : (allG s).length ≤ sizeLine := by have := allG_len hs; rw [szl]; omega
  have hkz : (keptG s).length ≤ sizeLine := by have := keptG_len hs; rw [szl]; omega
  simp -implicitDefEqProofs [-Int.natCast_add, hg]
  rw [compL_filter (enc := giveD) (g := giveD) (p := fun g => !(allG s).any fun h => Bt s h g) (allG s) (fun g hg' => by
    have hany := any_map (fun h => Bt s h g) (allG s)
    have hz : ((allG s).map fun h => D.bl (Bt s h g)).length ≤ sizeLine := by rw [List.length_map]; exact hgz
    simp -implicitDefEqProofs [-Int.natCast_add]
    rw [compL_map (enc := giveD) (g := fun h => .bl (Bt s h g)) (allG s) (fun h hh => by
      have hb := beats_ok hs (hok h hh) (hok g hg') S
      have hb' : m_beats_by [s.o, .tup [.int (h.1 : Int), natT h.2], .tup [.int (g.1 : Int), natT g.2]] S = .ok (.bl (Bt s h g)) S := hb
      simp -implicitDefEqProofs [-Int.natCast_add, hb'])]
    generalize ((allG s).map fun h => D.bl (Bt s h g)) = L2 at *
    cases q : (allG s).any fun h => Bt s h g with
    | true => rw [q] at hany; simp -implicitDefEqProofs [-Int.natCast_add, hz, hany]
    | false => rw [q] at hany; simp -implicitDefEqProofs [-Int.natCast_add, hz, hany])]
  rw [show (allG s).filter (fun g => !(allG s).any fun h => Bt s h g) = keptG s from rfl]
  simp -implicitDefEqProofs [-Int.natCast_add, hkz]

theorem compL_enumF {α : Type} {e : α → D} {f : D → M (Option D)} {g : Nat → D} {S : Sto} {d0 : α} {p : Nat → α → Bool} (xs : List α) (h : ∀ (k : Nat) (x : α), xs[k]? = some x → f (.tup [.int (k : Int), e x]) S = .ok (if p k x then some (g k) else none) S) :
    compL f (enumD (xs.map e)) S = .ok (((List.range xs.length).filter fun k => p k (xs.getD k d0)).map g) S := by
  rw [enumD_map]
  refine compL_filter _ fun k hk => ?_
  have hk' := List.mem_range.mp hk
  have hx : xs[k]? = some xs[k] := List.getElem?_eq_getElem hk'
  rw [getD_at hx, h k _ hx]
  rw [List.getD_eq_getElem?_getD, hx]
  rfl
/-- the place of the first that beats -/
def placesB (s : ShopT) (K : List Gv) (g : Gv) : List Nat := (List.range K.length).filter fun k => Bt s (K.getD k (0, [])) g
def fstB (s : ShopT) (K : List Gv) (g : Gv) : Nat := (placesB s K g).headD 0
theorem fst_ok {s : ShopT} (hs : Sh s) {K : List Gv} (hK : ∀ g ∈ K, GvOk s g) (hKl : K.length ≤ 100000) {g : Gv} (hg : GvOk s g) (ha : K.any (fun h => Bt s h g) = true) (S : Sto) :
    m_first_that_beats [s.o, .lst (K.map giveD), giveD g] S = .ok (.int (fstB s K g : Int)) S := by
  unfold m_first_that_beats b_first_that_beats
  simp -implicitDefEqProofs [-Int.natCast_add]
  rw [compL_enumF (d0 := ((0, []) : Gv)) (p := fun k h => Bt s h g) (g := fun k => D.int (k : Int)) K (fun k h hk => by
    have hb := beats_ok hs (hK h (List.mem_of_getElem? hk)) hg S
    have hb' : m_beats_by [s.o, .tup [.int (h.1 : Int), natT h.2], .tup [.int (g.1 : Int), natT g.2]] S = .ok (.bl (Bt s h g)) S := hb
    cases q : Bt s h g with
    | true => rw [q] at hb'; simp -implicitDefEqProofs [-Int.natCast_add, hb']
    | false => rw [q] at hb'; simp -implicitDefEqProofs [-Int.natCast_add, hb'])]
  rw [show (List.range K.length).filter (fun k => Bt s (K.getD k (0, [])) g) = placesB s K g from rfl]
  have hl : (placesB s K g).length ≤ sizeLine := by
    have := List.length_filter_le (fun k => Bt s (K.getD k (0, [])) g) (List.range K.length)
    rw [List.length_range] at this
    rw [szl]
    show ((List.range K.length).filter _).length ≤ _
    omega
  have hne : placesB s K g ≠ [] := by
    obtain ⟨h, hh, bh⟩ := List.any_eq_true.mp ha
    obtain ⟨k, hk⟩ := List.getElem?_of_mem hh
    obtain ⟨hk1, hk2⟩ := List.getElem?_eq_some_iff.mp hk
    intro e
    have : k ∈ placesB s K g := List.mem_filter.mpr ⟨List.mem_range.mpr hk1, by
      rw [List.getD_eq_getElem?_getD, hk]
      exact bh⟩
    rw [e] at this
    cases this
  unfold fstB
  generalize placesB s K g = L at *
  cases L with
  | nil => exact absurd rfl hne
  | cons x L =>
    have hix : dIx (.lst (D.int (x : Int) :: L.map fun (k : Nat) => D.int (k : Int))) (.int 0) = some (.int (x : Int)) := d_ixl0 _ _
    have hl' : L.length + 1 ≤ sizeLine := by simpa using hl
    simp -implicitDefEqProofs [-Int.natCast_add, hl', hix]
theorem fst_lt {s : ShopT} {K : List Gv} {g : Gv} (h : 0 < K.length) : fstB s K g < K.length := by
  unfold fstB
  cases q : placesB s K g with
  | nil => exact h
  | cons x L =>
    have : x ∈ placesB s K g := by rw [q]; exact List.mem_cons_self
    exact List.mem_range.mp (List.mem_filter.mp this).1
/-- the rows of the beaten -/
abbrev rowG (q : Gv × Nat) : D := .tup [.int (q.1.1 : Int), natT q.1.2, .int (q.2 : Int)]
def beatenG (s : ShopT) : List (Gv × Nat) := ((allG s).filter fun g => !decide (g ∈ keptG s)).map fun g => (g, fstB s (keptG s) g)
theorem beatenG_len {s : ShopT} (hs : Sh s) : (beatenG s).length ≤ 12000 := by
  unfold beatenG
  rw [List.length_map]
  exact Nat.le_trans (List.length_filter_le _ _) (allG_len hs)
theorem allG_split {s : ShopT} {g : Gv} (hg : g ∈ allG s) (h : g ∉ keptG s) : (allG s).any (fun h => Bt s h g) = true := by
  cases q : (allG s).any fun h => Bt s h g with
  | true => rfl
  | false => exact absurd (List.mem_filter.mpr ⟨hg, by rw [q]; rfl⟩) h
def beatUp (s : ShopT) (j : Nat) : List (Gv × Nat) := (((allG s).take j).filter fun g => !decide (g ∈ keptG s)).map fun g => (g, fstB s (keptG s) g)
theorem beatUp_len {s : ShopT} (hs : Sh s) (j : Nat) : (beatUp s j).length ≤ 12000 := by
  unfold beatUp
  rw [List.length_map]
  exact Nat.le_trans (List.length_filter_le _ _) (Nat.le_trans (by rw [List.length_take]; exact Nat.min_le_right _ _) (allG_len hs))
theorem putk1 (a : D) : putD (Str.ofString "kept") a [] = [(Str.ofString "kept", a)] := rfl
theorem putk2 (a b : D) : putD (Str.ofString "beaten") b [(Str.ofString "kept", a)] = [(Str.ofString "kept", a), (Str.ofString "beaten", b)] := by
  unfold putD
  rw [if_neg (by decide +kernel)]
  rfl
theorem init_thin {a b : D} {S S' S2 : Sto} {a' b' : D} (h1 : m_as_tuples [a] S = .ok a' S') (h2 : m_as_tuples [b] S' = .ok b' S2) : m_Thin_init [a, b] S = .ok (thinD a' b') S2 := by
  unfold m_Thin_init b_Thin_init
  have c1 : (Str.ofString "Thin" : Str) ∈ at_kept := by decide +kernel
  have c2 : (Str.ofString "Thin" : Str) ∈ at_beaten := by decide +kernel
  simp [h1, h2, c1, c2, putk1, putk2]
  rfl
/-- as_tuples -/
theorem as_pl : ∀ (n : Nat) (d : D) (S : Sto), pl n d = true → r_as_tuples (n + 1) [d] S = .ok d S := by
  intro n
  induction n with
  | zero =>
    intro d S h
    show runD 2 (b_as_tuples (r_as_tuples 0)) [d] S = _
    unfold b_as_tuples
    cases d with
    | non => simp -implicitDefEqProofs [-Int.natCast_add, isTyS]
    | bl b => simp -implicitDefEqProofs [-Int.natCast_add, isTyS]
    | int i => simp -implicitDefEqProofs [-Int.natCast_add, isTyS]
    | str x => simp -implicitDefEqProofs [-Int.natCast_add, isTyS]
    | _ => cases h
  | succ n ih =>
    intro d S h
    show runD 2 (b_as_tuples (r_as_tuples (n + 1))) [d] S = _
    unfold b_as_tuples
    cases d with
    | non => simp -implicitDefEqProofs [-Int.natCast_add, isTyS]
    | bl b => simp -implicitDefEqProofs [-Int.natCast_add, isTyS]
    | int i => simp -implicitDefEqProofs [-Int.natCast_add, isTyS]
    | str x => simp -implicitDefEqProofs [-Int.natCast_add, isTyS]
    | tup xs =>
      obtain ⟨h1, h2⟩ := pl_tup h
      have hz : xs.length ≤ sizeLine := by rw [szl]; omega
      simp -implicitDefEqProofs [-Int.natCast_add]
      rw [compL_self (g := fun x => x) xs (fun x hx => by simp -implicitDefEqProofs [-Int.natCast_add, ih x S (pls_mem h1 x hx)])]
      simp -implicitDefEqProofs [-Int.natCast_add, hz]
    | _ => cases h
theorem as_pls {n : Nat} {xs : List D} (S : Sto) (h : pls n xs = true) (hl : xs.length ≤ 100000) : r_as_tuples (n + 2) [.lst xs] S = .ok (.tup xs) S := by
  show runD 2 (b_as_tuples (r_as_tuples (n + 1))) [.lst xs] S = _
  unfold b_as_tuples
  have hz : xs.length ≤ sizeLine := by rw [szl]; omega
  simp -implicitDefEqProofs [-Int.natCast_add]
  rw [compL_self (g := fun x => x) xs (fun x hx => by simp -implicitDefEqProofs [-Int.natCast_add, as_pl n x S (pls_mem h x hx)])]
  simp -implicitDefEqProofs [-Int.natCast_add, hz]
theorem as_plain {n : Nat} (hn : n ≤ 11) {d : D} (S : Sto) (h : pl n d = true) : m_as_tuples [d] S = .ok d S := as_pl 11 d S (pl_mono h hn)
theorem as_list {n : Nat} (hn : n ≤ 10) {xs : List D} (S : Sto) (h : pls n xs = true) (hl : xs.length ≤ 100000) : m_as_tuples [.lst xs] S = .ok (.tup xs) S := as_pls (n := 10) S (pls_of fun d hd => pl_mono (pls_mem h d hd) hn) hl

theorem beatUp_next {s : ShopT} {j : Nat} {g : Gv} (h : (allG s)[j]? = some g) : beatUp s (j + 1) = beatUp s j ++ (if g ∈ keptG s then [] else [(g, fstB s (keptG s) g)]) := by
  unfold beatUp
  rw [take_next h, List.filter_append, List.map_append]
  congr 1
  by_cases q : g ∈ keptG s <;> simp [q]
theorem beatUp_all (s : ShopT) : beatUp s (allG s).length = beatenG s := by
  unfold beatUp beatenG
  rw [List.take_length]
theorem keptG_pls (s : ShopT) (hs : Sh s) (n : Nat) : pls (n + 2) ((keptG s).map giveD) = true := pls_of fun d hd => by
  obtain ⟨g, hg, rfl⟩ := List.mem_map.mp hd
  have hl := (keptG_ok hs g hg).ln
  have h3 := hs.p3
  exact pl_mk (pls_of fun d hd => by
    rcases List.mem_cons.mp hd with rfl | hd
    · rfl
    · rcases List.mem_cons.mp hd with rfl | hd
      · exact pl_nats n g.2 (by omega)
      · cases hd) (by simp)
theorem beatenG_mem {s : ShopT} (hs : Sh s) {q : Gv × Nat} (h : q ∈ beatenG s) : GvOk s q.1 ∧ q.2 < (keptG s).length := by
  obtain ⟨g, hg, rfl⟩ := List.mem_map.mp h
  have hg' := List.mem_filter.mp hg
  have hnk : g ∉ keptG s := by simpa using hg'.2
  refine ⟨(allG_mem hs).mp hg'.1, fst_lt ?_⟩
  obtain ⟨x, hx, _⟩ := List.any_eq_true.mp (keptG_beats hs _ g hg'.1 (Nat.le_refl _) (allG_split hg'.1 hnk))
  exact List.length_pos_of_mem hx
theorem beatenG_pls (s : ShopT) (hs : Sh s) (n : Nat) : pls (n + 2) ((beatenG s).map rowG) = true := pls_of fun d hd => by
  obtain ⟨q, hq, rfl⟩ := List.mem_map.mp hd
  have hl := (beatenG_mem hs hq).1.ln
  have h3 := hs.p3
  exact pl_mk (pls_of fun d hd => by
    rcases List.mem_cons.mp hd with rfl | hd
    · rfl
    · rcases List.mem_cons.mp hd with rfl | hd
      · exact pl_nats n q.1.2 (by omega)
      · rcases List.mem_cons.mp hd with rfl | hd
        · rfl
        · cases hd) (by simp)
def told (s : ShopT) : D := thinD (.tup ((keptG s).map giveD)) (.tup ((beatenG s).map rowG))
theorem thin_ok {s : ShopT} (hs : Sh s) (S : Sto) : m_thin [s.o] S = .ok (told s) S := by
  have hg := gives_by_ok hs S
  have hk := kept_by_ok hs S
  have hkl := keptG_len hs
  have hkz : (keptG s).length ≤ sizeLine := by rw [szl]; omega
  unfold m_thin b_thin
  refine post_ok ?_
  simp -implicitDefEqProofs [-Int.natCast_add, hg, hk]
  refine then_post (P := fun x S' => S' = S ∧ ∃ ρ', x = .nx ρ' ∧ St [some (s.o), some (.lst ((keptG s).map giveD)), some (.lst ((beatenG s).map rowG)), none, none] ρ') (forL_map (enc := giveD) (P := fun j ρ S' => S' = S ∧ St [some (s.o), some (.lst ((keptG s).map giveD)), some (.lst ((beatUp s j).map rowG)), none, none] ρ) (allG s) ⟨rfl, by simp [beatUp]⟩ (fun j g hj ρ S' ⟨e1, h⟩ => ?_) fun ρ S' ⟨e1, h⟩ => ⟨e1, ρ, rfl, by rw [beatUp_all] at h; exact h⟩) fun o S' ⟨e1, ρ, e2, h⟩ => ?_
  · repeat (first | (replace h := St.some h; obtain ⟨_, rfl, h⟩ := h) | (replace h := St.none h; obtain ⟨_, _, rfl, h⟩ := h))
    cases St.nil h
    subst e1
    have hgm := List.mem_of_getElem? hj
    have okg := (allG_mem hs).mp hgm
    have hin := encGive.mem (a := g) (xs := keptG s) trivial (fun _ _ => trivial) true
    rw [if_pos rfl] at hin
    have hin' : dIn true (.tup [.int (g.1 : Int), natT g.2]) (.lst ((keptG s).map giveD)) = some (.bl (!decide (g ∈ keptG s))) := hin.trans (congrArg (fun b => some (D.bl (!b))) (decide_eq_decide.mpr Iff.rfl))
    have hup := beatUp_next hj
    have hul := beatUp_len hs j
    rw [hup]
    generalize beatUp s j = B at *
    by_cases q : g ∈ keptG s
    · simp -implicitDefEqProofs [-Int.natCast_add, hin', q, stepP]
    · have hf := fst_ok hs (keptG_ok hs) (by omega) okg (keptG_beats hs _ g hgm (Nat.le_refl _) (allG_split hgm q)) S'
      have hf' : m_first_that_beats [s.o, .lst ((keptG s).map giveD), .tup [.int (g.1 : Int), natT g.2]] S' = .ok (.int (fstB s (keptG s) g : Int)) S' := hf
      have hap : mAppend (B.map rowG) [.tup [.int (g.1 : Int), natT g.2, .int (fstB s (keptG s) g : Int)]] = some ((B ++ [(g, fstB s (keptG s) g)]).map rowG, .non) := by
        show (if _ then _ else _) = _
        rw [if_pos (by rw [List.length_map, szl]; omega), List.map_append]
        rfl
      simp -implicitDefEqProofs [-Int.natCast_add, hin', q, hf', hap, stepP]
  · repeat (first | (replace h := St.some h; obtain ⟨_, rfl, h⟩ := h) | (replace h := St.none h; obtain ⟨_, _, rfl, h⟩ := h))
    cases St.nil h
    subst e1 e2
    have hbl := beatenG_len hs
    have hbz : (beatenG s).length ≤ sizeLine := by rw [szl]; omega
    have h1 := as_plain (n := 4) (by omega) S' (pl_mk (keptG_pls s hs 1) (by rw [List.length_map]; omega))
    have h2 := as_plain (n := 4) (by omega) S' (pl_mk (beatenG_pls s hs 1) (by rw [List.length_map]; omega))
    have hi := init_thin h1 h2
    simp -implicitDefEqProofs [-Int.natCast_add, hkz, hbz, hi, told]

/-! ### parts of plain values -/
theorem cut_mem {xs : List D} {lo hi : Option Int} {d : D} (h : d ∈ Ev.cutD xs lo hi) : d ∈ xs := by
  unfold Ev.cutD at h
  exact List.mem_of_mem_drop (List.mem_of_mem_take h)
theorem cut_len (xs : List D) (lo hi : Option Int) : (Ev.cutD xs lo hi).length ≤ xs.length := by
  unfold Ev.cutD
  rw [List.length_take, List.length_drop]
  omega
theorem pls_cut {n : Nat} {xs : List D} (h : pls n xs = true) (lo hi : Option Int) : pls n (Ev.cutD xs lo hi) = true := pls_of fun d hd => pls_mem h d (cut_mem hd)
theorem pls_app {n : Nat} {xs ys : List D} (h : pls n xs = true) (h2 : pls n ys = true) : pls n (xs ++ ys) = true := pls_of fun d hd => by
  rcases List.mem_append.mp hd with hd | hd
  · exact pls_mem h d hd
  · exact pls_mem h2 d hd
theorem pls_cons {n : Nat} {d : D} {ds : List D} (h : pl n d = true) (h2 : pls n ds = true) : pls n (d :: ds) = true := pls_of fun x hx => by
  rcases List.mem_cons.mp hx with rfl | hx
  · exact h
  · exact pls_mem h2 x hx
theorem pls_rev {n : Nat} {xs : List D} (h : pls n xs = true) : pls n xs.reverse = true := pls_of fun d hd => pls_mem h d (List.mem_reverse.mp hd)
theorem sortD_perm {xs : List D} {ps : List PyData} (h : ps.length = xs.length) : (sortD xs ps).Perm xs := by
  unfold sortD
  refine ((List.mergeSort_perm _ _).map _).trans ?_
  rw [List.map_fst_zip (by omega)]
abbrev rowP (q : Gv × Nat) : PyData := .tuple [.int (q.1.1 : Int), natP q.1.2, .int (q.2 : Int)]
theorem rowG_py (q : Gv × Nat) : D.py (rowG q) = some (rowP q) := by
  have e1 := encRow.py q.1.2
  show (match (D.int (q.1.1 : Int)).py, (match (natT q.1.2).py, (match (D.int (q.2 : Int)).py, pyAll [] with
    | some x, some xs => some (x :: xs)
    | _, _ => none) with
    | some x, some xs => some (x :: xs)
    | _, _ => none) with
    | some x, some xs => some (x :: xs)
    | _, _ => none).map PyData.tuple = _
  rw [e1]
  rfl
theorem alike_row (a b : Gv × Nat) : PySem.W.alike (rowP a) (rowP b) = true := by
  show PySem.W.alike (.tuple _) (.tuple _) = true
  rw [PySem.W.alike, PySem.W.alikeAll, PySem.W.alikeAll, PySem.W.alikeAll, PySem.W.alikeAll, alike_natP]
  rfl
theorem rowP_dep (q : Gv × Nat) : PyData.depth (rowP q) ≤ 60 := by
  have e1 := encRow.dep q.1.2
  have e0 : ∀ i : Int, PyData.depth (.int i) = 0 := fun i => by simp [PyData.depth]
  have e2 : PyData.depth (rowP q) = PyData.depthAll [.int (q.1.1 : Int), natP q.1.2, .int (q.2 : Int)] + 1 := by
    show PyData.depth (.tuple _) = _
    rw [PyData.depth]
  rw [e2, PyData.depthAll, PyData.depthAll, PyData.depthAll, PyData.depthAll, e0, e0]
  omega
theorem sorted_rowG (L : List (Gv × Nat)) : ∃ ds : List D, dSorted [.lst (L.map rowG)] = some (.lst ds) ∧ ds.Perm (L.map rowG) := by
  have e : dSorted [.lst (L.map rowG)] = (pyAll (L.map rowG)).bind (fun ps => if sortOk ps then some (D.lst (sortD (L.map rowG) ps)) else none) := rfl
  rw [pyAll_map (p := rowP) rowG_py L] at e
  have ok : sortOk (L.map rowP) = true := by
    unfold sortOk
    rw [Bool.and_eq_true, Bool.and_eq_true]
    refine ⟨⟨?_, ?_⟩, ?_⟩
    · rw [List.all_eq_true]
      intro a ha
      rw [List.all_eq_true]
      intro b hb
      obtain ⟨x, _, rfl⟩ := List.mem_map.mp ha
      obtain ⟨y, _, rfl⟩ := List.mem_map.mp hb
      exact alike_row x y
    · rw [Bool.or_eq_true]
      refine .inl ?_
      rw [List.all_eq_true]
      intro a ha
      obtain ⟨x, _, rfl⟩ := List.mem_map.mp ha
      rfl
    · rw [List.all_eq_true]
      intro a ha
      obtain ⟨x, _, rfl⟩ := List.mem_map.mp ha
      exact decide_eq_true (rowP_dep x)
  have e' : dSorted [.lst (L.map rowG)] = (if sortOk (L.map rowP) = true then some (D.lst (sortD (L.map rowG) (L.map rowP))) else none) := e
  rw [if_pos ok] at e'
  exact ⟨_, e', sortD_perm (by simp)⟩
theorem max1 (n : Nat) : dMax [.int 1, .int (n : Int)] = some (.int ((max 1 n : Nat) : Int)) := by
  show some (D.int (if (n : Int) > 1 then (n : Int) else 1)) = _
  by_cases h : (n : Int) > 1
  · rw [if_pos h, Nat.max_eq_right (by omega)]
  · rw [if_neg h, Nat.max_eq_left (by omega)]
    rfl
/-- what the law hands to the judges -/
def BentOk (d : D) : Prop := (∃ a b, d = thinD a b ∧ pl 8 a = true ∧ pl 8 b = true) ∨ d = .non ∨ ∃ xs, d = .tup xs
theorem thin_of {a b : D} (ha : pl 8 a = true) (hb : pl 8 b = true) (S : Sto) : m_Thin_init [a, b] S = .ok (thinD a b) S :=
  init_thin (as_plain (by omega) S ha) (as_plain (by omega) S hb)
theorem BentOk.th {a b : D} (ha : pl 8 a = true) (hb : pl 8 b = true) : BentOk (thinD a b) := .inl ⟨a, b, rfl, ha, hb⟩
theorem BentOk.non : BentOk .non := .inr (.inl rfl)
theorem BentOk.tup (xs : List D) : BentOk (.tup xs) := .inr (.inr ⟨xs, rfl⟩)
theorem catL {xs ys : List D} (h1 : xs.length ≤ 10000) (h2 : ys.length ≤ 10000) : dCatF (.lst xs) (.lst ys) = some (.lst (xs ++ ys)) := by
  show (if xs.length + ys.length ≤ sizeLine then some (D.lst (xs ++ ys)) else none) = _
  rw [if_pos (by rw [szl]; omega)]
theorem appL {xs : List D} {d : D} (h1 : xs.length ≤ 10000) : mAppend xs [d] = some (xs ++ [d], .non) := by
  show (if _ then _ else _) = _
  rw [if_pos (by rw [szl]; omega)]
theorem tadd {xs ys : List D} (h1 : xs.length ≤ 20000) (h2 : ys.length ≤ 20000) : dAdd (.tup xs) (.tup ys) = some (.tup (xs ++ ys)) := by
  show (if xs.length + ys.length ≤ sizeLine then some (D.tup (xs ++ ys)) else none) = _
  rw [if_pos (by rw [szl]; omega)]
theorem rgFour : dRange [.int 4] = some ((List.range 4).map fun (k : Nat) => .int (k : Int)) := rg1 (j := 4) (by omega)
theorem pl_give {n : Nat} {a : Int} {r : List Nat} (h : r.length ≤ 1000) : pl (n + 2) (.tup [.int a, natT r]) = true :=
  pl_mk (pls_cons rfl (pls_cons (pl_nats n r (by omega)) rfl)) (by simp)
theorem pl_row {n : Nat} {a : Int} {r : List Nat} {d : D} (h : r.length ≤ 1000) (hd : pl (n + 1) d = true) : pl (n + 2) (.tup [.int a, natT r, d]) = true :=
  pl_mk (pls_cons rfl (pls_cons (pl_nats n r (by omega)) (pls_cons hd rfl))) (by simp)

theorem bent_ok {R S : Sto} (h : PenS R S) {s : ShopT} (hs : Sh s) : (m__law_bent [.mref 0, s.t, told s] S).post fun d S' => BentOk d ∧ PenS R S' := by
  unfold m__law_bent b__law_bent
  have hk1 : attrD at_kept "kept" (told s) S = .ok (.tup ((keptG s).map giveD)) S := th_kept _ _ S
  have hb1 : attrD at_beaten "beaten" (told s) S = .ok (.tup ((beatenG s).map rowG)) S := th_beaten _ _ S
  have hkl := keptG_len hs
  have hbl := beatenG_len hs
  have hkp := keptG_pls s hs 1
  have hbp := beatenG_pls s hs 1
  have hkg := keptG_ok hs
  have hbg := fun q hq => beatenG_mem hs (q := q) hq
  generalize told s = tl at *
  generalize keptG s = K at *
  generalize beatenG s = B at *
  have hkn : (K.map giveD).length = K.length := List.length_map ..
  have hbn : (B.map rowG).length = B.length := List.length_map ..
  simp -implicitDefEqProofs [-Int.natCast_add, hk1, hb1, max1]
  refine then_post (draw_post h (by omega) (by omega)) fun d S1 ⟨⟨at_, e, hat⟩, h⟩ => ?_
  subst e
  refine then_post (draw_post h (by omega) (by omega)) fun d S2 ⟨⟨to_, e, hto⟩, h⟩ => ?_
  subst e
  generalize hkd : K.map giveD = kd at *
  generalize hbd : B.map rowG = bd at *
  have tp : ∀ {xs : List D}, pls 3 xs = true → xs.length ≤ 50000 → pl 8 (.tup xs) = true := fun h1 h2 => pl_mono (pl_mk h1 (by omega)) (by omega)
  have pK := tp hkp (by omega)
  have pB := tp hbp (by omega)
  have ck := cut_len kd
  have cb := cut_len bd
  have ck1 := ck (some 1) none
  have cb1 := cb (some 1) none
  have ck2 := ck none (some 1)
  have cb2 := cb none (some 1)
  have a1 := tadd (xs := kd) (ys := Ev.cutD kd none (some 1)) (by omega) (by omega)
  have a2 := tadd (xs := bd) (ys := Ev.cutD bd none (some 1)) (by omega) (by omega)
  have pK1 := tp (pls_cut hkp (some 1) none) (by omega)
  have pB1 := tp (pls_cut hbp (some 1) none) (by omega)
  have pK2 := tp (pls_rev hkp) (by rw [List.length_reverse]; omega)
  have pB2 := tp (pls_rev hbp) (by rw [List.length_reverse]; omega)
  have pK3 := tp (pls_app hkp (pls_cut hkp none (some 1))) (by rw [List.length_append]; omega)
  have pB3 := tp (pls_app hbp (pls_cut hbp none (some 1))) (by rw [List.length_append]; omega)
  have pn : pl 8 .non = true := rfl
  have tl1 : m_Thin_init [.lst kd, .lst bd] S2 = .ok (thinD (.tup kd) (.tup bd)) S2 := init_thin (as_list (n := 3) (by omega) S2 hkp (by omega)) (as_list (n := 3) (by omega) S2 hbp (by omega))
  have nb := cmp_nilT (n := 3) (by omega) hbp true
  have nk := cmp_nilT (n := 3) (by omega) hkp true
  have m1 := thin_of pK1 pB S2
  have m2 := thin_of pK pB1 S2
  have m3 := thin_of pK2 pB S2
  have m4 := thin_of pK pB2 S2
  have m5 := thin_of pK3 pB S2
  have m6 := thin_of pK pB3 S2
  have m7 := thin_of pn pB S2
  have m8 := thin_of pK pn S2
  have hc : dCatF (.lst [thinD (.tup (Ev.cutD kd (some 1) none)) (.tup bd), thinD (.tup kd) (.tup (Ev.cutD bd (some 1) none)), thinD (.tup kd.reverse) (.tup bd), thinD (.tup kd) (.tup bd.reverse), thinD (.tup (kd ++ Ev.cutD kd none (some 1))) (.tup bd)]) (.lst [thinD (.tup kd) (.tup (bd ++ Ev.cutD bd none (some 1))), thinD .non (.tup bd), thinD (.tup kd) .non, thinD (.tup kd) (.tup bd), .non, .tup [.tup kd, .tup bd]]) = some (.lst [thinD (.tup (Ev.cutD kd (some 1) none)) (.tup bd), thinD (.tup kd) (.tup (Ev.cutD bd (some 1) none)), thinD (.tup kd.reverse) (.tup bd), thinD (.tup kd) (.tup bd.reverse), thinD (.tup (kd ++ Ev.cutD kd none (some 1))) (.tup bd), thinD (.tup kd) (.tup (bd ++ Ev.cutD bd none (some 1))), thinD .non (.tup bd), thinD (.tup kd) .non, thinD (.tup kd) (.tup bd), .non, .tup [.tup kd, .tup bd]]) := catL (by simp) (by simp)
  have hL : ∀ d ∈ [thinD (.tup (Ev.cutD kd (some 1) none)) (.tup bd), thinD (.tup kd) (.tup (Ev.cutD bd (some 1) none)), thinD (.tup kd.reverse) (.tup bd), thinD (.tup kd) (.tup bd.reverse), thinD (.tup (kd ++ Ev.cutD kd none (some 1))) (.tup bd), thinD (.tup kd) (.tup (bd ++ Ev.cutD bd none (some 1))), thinD .non (.tup bd), thinD (.tup kd) .non, thinD (.tup kd) (.tup bd), .non, .tup [.tup kd, .tup bd]], BentOk d := by
    intro d hd
    simp only [List.mem_cons, List.not_mem_nil, or_false] at hd
    rcases hd with rfl | rfl | rfl | rfl | rfl | rfl | rfl | rfl | rfl | rfl | rfl
    · exact .th pK1 pB
    · exact .th pK pB1
    · exact .th pK2 pB
    · exact .th pK pB2
    · exact .th pK3 pB
    · exact .th pK pB3
    · exact .th pn pB
    · exact .th pK pn
    · exact .th pK pB
    · exact .non
    · exact .tup _
  have hLl : [thinD (.tup (Ev.cutD kd (some 1) none)) (.tup bd), thinD (.tup kd) (.tup (Ev.cutD bd (some 1) none)), thinD (.tup kd.reverse) (.tup bd), thinD (.tup kd) (.tup bd.reverse), thinD (.tup (kd ++ Ev.cutD kd none (some 1))) (.tup bd), thinD (.tup kd) (.tup (bd ++ Ev.cutD bd none (some 1))), thinD .non (.tup bd), thinD (.tup kd) .non, thinD (.tup kd) (.tup bd), .non, .tup [.tup kd, .tup bd]].length = 11 := rfl
  simp -implicitDefEqProofs [-Int.natCast_add, m1, m2, m3, m4, a1, m5, a2, m6, m7, m8, tl1, hc]
  generalize [thinD (.tup (Ev.cutD kd (some 1) none)) (.tup bd), thinD (.tup kd) (.tup (Ev.cutD bd (some 1) none)), thinD (.tup kd.reverse) (.tup bd), thinD (.tup kd) (.tup bd.reverse), thinD (.tup (kd ++ Ev.cutD kd none (some 1))) (.tup bd), thinD (.tup kd) (.tup (bd ++ Ev.cutD bd none (some 1))), thinD .non (.tup bd), thinD (.tup kd) .non, thinD (.tup kd) (.tup bd), .non, .tup [.tup kd, .tup bd]] = L at *
  clear hc m1 m2 m3 m4 m5 m6 m7 m8 tl1 a1 a2 pK1 pB1 pK2 pB2 pK3 pB3
  simp -implicitDefEqProofs [-Int.natCast_add, nb]
  refine then_post (P := fun o S' => PenS R S' ∧ ∃ ρ' L, o = .nx ρ' ∧ (∀ d ∈ L, BentOk d) ∧ 0 < L.length ∧ L.length ≤ 16 ∧ St [some (.mref 0), some (s.t), some (tl), some (.tup kd), some (.tup bd), some (.int (at_ : Int)), some (.int (to_ : Int)), some (.lst L), none, none, none] ρ') ?_ fun o S3 ⟨h, ρ, L, e, hL, hL0, hLl, hst⟩ => ?_
  · by_cases hB : bd = []
    · simp -implicitDefEqProofs [-Int.natCast_add, hB]
      exact ⟨h, L, hL, by omega, by omega, rfl⟩
    · have hBl : 0 < B.length := by
        rw [← hbn]
        exact List.length_pos_iff.mpr hB
      have hto' : to_ < B.length := by
        have : max 1 B.length = B.length := by omega
        rw [this] at hto
        omega
      have hq : B[to_]? = some B[to_] := List.getElem?_eq_getElem hto'
      obtain ⟨okq, hq2⟩ := hbg _ (List.mem_of_getElem? hq)
      generalize B[to_] = q at *
      obtain ⟨g, c⟩ := q
      have hix : dIx (.tup bd) (.int (to_ : Int)) = some (.tup [.int (g.1 : Int), natT g.2, .int (c : Int)]) := by
        rw [← hbd]
        exact d_ixt (by rw [List.getElem?_map, hq]; rfl)
      have ecut : Ev.cutD [.int (g.1 : Int), natT g.2, .int (c : Int)] none (some 2) = [.int (g.1 : Int), natT g.2] := cut_take2 _
      have ht1 : dIx s.t (.int 1) = some (.tup (s.pieces.map pieceD)) := d_ix1 _ _ _
      have hz := zero_row (n := s.pieces.length) hs.pc.len.1 (by have := hs.p3; omega)
      have hgl : g.2.length ≤ 1000 := by rw [okq.ln]; have := hs.p3; omega
      simp -implicitDefEqProofs [-Int.natCast_add, hB, hix, ecut, ht1, hz, rgFour]
      have cb3 := cb none (some (to_ : Int))
      have cb4 := cb (some ((to_ : Int) + 1)) none
      have p3 := pls_cut hbp none (some (to_ : Int))
      have p4 := pls_cut hbp (some ((to_ : Int) + 1)) none
      refine then_post (compL_post (I := PenS R) (R := fun d y => BentOk y) _ _ h fun d hd S h => ?_) fun ys S5 ⟨h, es⟩ => ?_
      · simp -implicitDefEqProofs [-Int.natCast_add]
        refine then_post (pick_lst h (by simp) (by simp)) fun d S4 ⟨hd, h⟩ => ?_
        have hp : pl 3 d = true := by
          simp only [List.mem_cons, List.not_mem_nil, or_false] at hd
          rcases hd with rfl | rfl | rfl | rfl | rfl | rfl | rfl | rfl
          · exact pl_row hgl rfl
          · exact pl_row hgl rfl
          · exact pl_row hgl rfl
          · exact pl_row hgl rfl
          · exact pl_give hgl
          · rfl
          · exact pl_row hgl rfl
          · exact pl_row (by rw [List.length_replicate]; have := hs.p3; omega) rfl
        clear hd
        generalize Ev.cutD bd none (some (to_ : Int)) = c1 at *
        generalize Ev.cutD bd (some ((to_ : Int) + 1)) none = c2 at *
        have t1 := tadd (xs := c1) (ys := [d]) (by omega) (by simp)
        have t2 := tadd (xs := c1 ++ [d]) (ys := c2) (by rw [List.length_append, List.length_singleton]; omega) (by omega)
        have pl2 := tp (pls_app (pls_app p3 (pls_cons (ds := []) hp rfl)) p4) (by simp only [List.length_append, List.length_singleton]; omega)
        rw [t1]
        simp -implicitDefEqProofs [-Int.natCast_add]
        have t2' : dAdd (.tup (c1 ++ [d])) (.tup c2) = some (.tup (c1 ++ d :: c2)) := by rw [t2]; simp
        have pl2' : pl 8 (.tup (c1 ++ d :: c2)) = true := by rw [show c1 ++ d :: c2 = c1 ++ [d] ++ c2 by simp]; exact pl2
        simp -implicitDefEqProofs [-Int.natCast_add, t2', thin_of pK pl2']
        exact ⟨h, .th pK pl2'⟩
      · have hyl : ys.length = 4 := by have := es.length; simpa using this.symm
        have hyb : ∀ y ∈ ys, BentOk y := fun y hy => by
          obtain ⟨_, _, h⟩ := es.mem y hy
          exact h
        have hyz : ys.length ≤ sizeLine := by rw [hyl, szl]; omega
        have hcat := catL (xs := L) (ys := ys) (by omega) (by omega)
        have hLb : ∀ d ∈ L ++ ys, BentOk d := fun d hd => (List.mem_append.mp hd).elim (hL d) (hyb d)
        have hLl2 : (L ++ ys).length = 15 := by rw [List.length_append]; omega
        generalize L ++ ys = L2 at *
        have t3 := tadd (xs := kd) (ys := [.tup [.int (g.1 : Int), natT g.2]]) (by omega) (by simp)
        have hso := sorted_gives (K ++ [g])
        have hso' : dSorted [.lst (kd ++ [.tup [.int (g.1 : Int), natT g.2]])] = some (.lst (((K ++ [g]).mergeSort gLe).map giveD)) := by
          rw [← hso, List.map_append, hkd]
          rfl
        have psl : (((K ++ [g]).mergeSort gLe).map giveD).length ≤ 50000 := by rw [List.length_map, List.length_mergeSort, List.length_append, List.length_singleton]; omega
        have ps : pls 3 (((K ++ [g]).mergeSort gLe).map giveD) = true := pls_of fun d hd => by
          obtain ⟨x, hx, rfl⟩ := List.mem_map.mp hd
          rw [List.mem_mergeSort, List.mem_append] at hx
          rcases hx with hx | hx
          · exact pls_mem hkp _ (by rw [← hkd]; exact List.mem_map.mpr ⟨x, hx, rfl⟩)
          · rw [List.mem_singleton] at hx
            subst hx
            exact pl_give hgl
        have psT := tp ps psl
        generalize ((K ++ [g]).mergeSort gLe).map giveD = sg at *
        generalize Ev.cutD bd none (some (to_ : Int)) = c1 at *
        generalize Ev.cutD bd (some ((to_ : Int) + 1)) none = c2 at *
        have t4 := tadd (xs := c1) (ys := c2) (by omega) (by omega)
        have pc := tp (pls_app p3 p4) (by rw [List.length_append]; omega)
        have hm := thin_of psT pc S5
        have hap := appL (xs := L2) (d := thinD (.tup sg) (.tup (c1 ++ c2))) (by omega)
        simp -implicitDefEqProofs [-Int.natCast_add, hyz, hcat, t3, hso', t4, hm, hap]
        refine ⟨h, L2 ++ [thinD (.tup sg) (.tup (c1 ++ c2))], fun d hd => ?_, ?_, ?_, rfl⟩
        · rcases List.mem_append.mp hd with hd | hd
          · exact hLb d hd
          · rw [List.mem_singleton] at hd
            subst hd
            exact .th psT pc
        · rw [List.length_append]; omega
        · rw [List.length_append, List.length_singleton]; omega
  · subst e
    repeat (first | (replace hst := St.some hst; obtain ⟨_, rfl, hst⟩ := hst) | (replace hst := St.none hst; obtain ⟨_, _, rfl, hst⟩ := hst))
    cases St.nil hst
    simp -implicitDefEqProofs [-Int.natCast_add, nk]
    refine then_post (P := fun o S' => PenS R S' ∧ ∃ ρ' L, o = .nx ρ' ∧ (∀ d ∈ L, BentOk d) ∧ 0 < L.length ∧ L.length ≤ 18 ∧ St [some (.mref 0), none, none, none, none, none, none, some (.lst L), none, none, none] ρ') ?_ fun o S3 ⟨h, ρ, L, e, hL, hL0, hLl, hst⟩ => ?_
    · by_cases hB : kd = []
      · simp -implicitDefEqProofs [-Int.natCast_add, hB]
        exact ⟨h, L, hL, hL0, by omega, rfl⟩
      · have hKl : 0 < K.length := by
          rw [← hkn]
          exact List.length_pos_iff.mpr hB
        have hat' : at_ < K.length := by
          have : max 1 K.length = K.length := by omega
          rw [this] at hat
          omega
        have hq : K[at_]? = some K[at_] := List.getElem?_eq_getElem hat'
        have okq := hkg _ (List.mem_of_getElem? hq)
        generalize K[at_] = g at *
        have hix : dIx (.tup kd) (.int (at_ : Int)) = some (.tup [.int (g.1 : Int), natT g.2]) := by
          rw [← hkd]
          exact d_ixt (by rw [List.getElem?_map, hq]; rfl)
        have ecut : Ev.cutD [.int (g.1 : Int), natT g.2] none (some 1) = [.int (g.1 : Int)] := by
          unfold Ev.cutD
          rw [HT.sIx_none, show HT.sIx [D.int (g.1 : Int), natT g.2].length [D.int (g.1 : Int), natT g.2].length (some 1) = min 1 2 from HT.sIx_nat _ _ 1]
          rfl
        have ht1 : dIx s.t (.int 1) = some (.tup (s.pieces.map pieceD)) := d_ix1 _ _ _
        have hz := zero_row (n := s.pieces.length) hs.pc.len.1 (by have := hs.p3; omega)
        have hgl : g.2.length ≤ 1000 := by rw [okq.ln]; have := hs.p3; omega
        have ck3 := ck none (some (at_ : Int))
        have ck4 := ck (some ((at_ : Int) + 1)) none
        have p3 := pls_cut hkp none (some (at_ : Int))
        have p4 := pls_cut hkp (some ((at_ : Int) + 1)) none
        generalize Ev.cutD kd none (some (at_ : Int)) = c1 at *
        generalize Ev.cutD kd (some ((at_ : Int) + 1)) none = c2 at *
        have t4 := tadd (xs := c1) (ys := c2) (by omega) (by omega)
        have pc := tp (pls_app p3 p4) (by rw [List.length_append]; omega)
        have t3 := tadd (xs := bd) (ys := [.tup [.int (g.1 : Int), natT g.2, .int 0]]) (by omega) (by simp)
        obtain ⟨ds, hso, hdp⟩ := sorted_rowG (B ++ [(g, 0)])
        have hso' : dSorted [.lst (bd ++ [.tup [.int (g.1 : Int), natT g.2, .int 0]])] = some (.lst ds) := by
          rw [← hso, List.map_append, hbd]
          rfl
        have dsl : ds.length ≤ 50000 := by rw [hdp.length_eq, List.length_map, List.length_append, List.length_singleton]; omega
        have ps : pls 3 ds = true := pls_of fun d hd => by
          have hd' := hdp.mem_iff.mp hd
          rw [List.map_append, hbd] at hd'
          rcases List.mem_append.mp hd' with hx | hx
          · exact pls_mem hbp _ hx
          · have : d = .tup [.int (g.1 : Int), natT g.2, .int 0] := List.mem_singleton.mp hx
            rw [this]
            exact pl_row hgl rfl
        have psT := tp ps dsl
        have hm := thin_of pc psT S3
        have hap := appL (xs := L) (d := thinD (.tup (c1 ++ c2)) (.tup ds)) (by omega)
        simp -implicitDefEqProofs [-Int.natCast_add, hB, hix, ecut, t4, t3, hso', hm, hap, ht1, hz]
        refine then_post (pick_lst h (by simp) (by simp)) fun d S4 ⟨hd, h⟩ => ?_
        have hp : pl 3 d = true := by
          simp only [List.mem_cons, List.not_mem_nil, or_false] at hd
          rcases hd with rfl | rfl | rfl | rfl | rfl
          · rfl
          · rfl
          · exact pl_give hgl
          · rfl
          · exact pl_give (by rw [List.length_replicate]; have := hs.p3; omega)
        clear hd
        have t1 := tadd (xs := c1) (ys := [d]) (by omega) (by simp)
        have t2 := tadd (xs := c1 ++ [d]) (ys := c2) (by rw [List.length_append, List.length_singleton]; omega) (by omega)
        have pl2 := tp (pls_app (pls_app p3 (pls_cons (ds := []) hp rfl)) p4) (by simp only [List.length_append, List.length_singleton]; omega)
        have t2' : dAdd (.tup (c1 ++ [d])) (.tup c2) = some (.tup (c1 ++ d :: c2)) := by rw [t2]; simp
        have pl2' : pl 8 (.tup (c1 ++ d :: c2)) = true := by rw [show c1 ++ d :: c2 = c1 ++ [d] ++ c2 by simp]; exact pl2
        have e1 : BentOk (thinD (.tup (c1 ++ c2)) (.tup ds)) := .th pc psT
        have e2 : BentOk (thinD (.tup (c1 ++ d :: c2)) (.tup bd)) := .th pl2' pB
        have hm2 := thin_of pl2' pB S4
        generalize thinD (.tup (c1 ++ c2)) (.tup ds) = x1 at *
        generalize thinD (.tup (c1 ++ d :: c2)) (.tup bd) = x2 at *
        have hap2 := appL (xs := L ++ [x1]) (d := x2) (by rw [List.length_append, List.length_singleton]; omega)
        simp -implicitDefEqProofs [-Int.natCast_add, t1, t2', hm2, hap2]
        refine ⟨h, L ++ [x1, x2], fun d hd => ?_, ?_, ?_, by simp⟩
        · rcases List.mem_append.mp hd with hd | hd
          · exact hL d hd
          · rcases List.mem_cons.mp hd with rfl | hd
            · exact e1
            · rw [List.mem_singleton] at hd
              subst hd
              exact e2
        · rw [List.length_append]; omega
        · rw [List.length_append, List.length_cons, List.length_singleton]; omega
    · subst e
      repeat (first | (replace hst := St.some hst; obtain ⟨_, rfl, hst⟩ := hst) | (replace hst := St.none hst; obtain ⟨_, _, rfl, hst⟩ := hst))
      cases St.nil hst
      simp -implicitDefEqProofs [-Int.natCast_add]
      refine Res.post_mono (then_post (pick_lst h (List.length_pos_iff.mp hL0) (by omega)) fun d S4 ⟨hd, h⟩ => ?_) fun a S h => h
      exact ⟨hL d hd, h⟩

/-! ### the changed shop -/
theorem cut_to (xs : List D) (n : Nat) (h : n ≤ xs.length) : Ev.cutD xs none (some (n : Int)) = xs.take n := by
  unfold Ev.cutD
  rw [HT.sIx_none, HT.sIx_nat, Nat.sub_zero, List.drop_zero, Nat.min_eq_left h]
theorem cut_from (xs : List D) (n : Nat) (h : n < xs.length) : Ev.cutD xs (some ((n : Int) + 1)) none = xs.drop (n + 1) := by
  unfold Ev.cutD
  rw [HT.sIx_none, show ((n : Int) + 1) = ((n + 1 : Nat) : Int) by omega, HT.sIx_nat, Nat.min_eq_left (by omega)]
  rw [List.take_of_length_le (by rw [List.length_drop]; omega)]
theorem cut_set {xs : List D} {n : Nat} (h : n < xs.length) (hl : xs.length ≤ 1000) (d : D) :
    dAdd (.tup (Ev.cutD xs none (some (n : Int)))) (.tup [d]) = some (.tup (xs.take n ++ [d])) ∧ dAdd (.tup (xs.take n ++ [d])) (.tup (Ev.cutD xs (some ((n : Int) + 1)) none)) = some (.tup (xs.set n d)) := by
  rw [cut_to xs n (by omega), cut_from xs n h]
  refine ⟨tadd (by rw [List.length_take]; omega) (by simp), ?_⟩
  rw [tadd (by rw [List.length_append, List.length_take, List.length_singleton]; omega) (by rw [List.length_drop]; omega), List.set_eq_take_append_cons_drop, if_pos h]
  simp
theorem set_names {α : Type} {f : α → Str} {xs : List α} {n : Nat} {x y : α} (h : xs[n]? = some x) (e : f y = f x) : (xs.set n y).map f = xs.map f := by
  rw [List.map_set, e]
  obtain ⟨h1, h2⟩ := List.getElem?_eq_some_iff.mp h
  apply List.ext_getElem?
  intro i
  rw [List.getElem?_set]
  split
  · rename_i q
    subst q
    rw [if_pos (by simpa using h1), List.getElem?_map, h]
    rfl
  · rfl
theorem Few.sh {s : ShopT} (h : s.Few 3 2) : Sh s where
  st := h.st
  pc := h.pc
  p3 := Nat.le_trans h.pm (by omega)
  kf := h.kf
  sl := fun x hx => by have := h.sl x hx; omega
  pl := fun x hx => by have := h.pl x hx; omega
theorem Few.stock {s : ShopT} (h : s.Few 3 2) {n : Nat} {x y : Str × Nat × Option Nat × Nat} (hx : s.stocks[n]? = some x) (e : y.1 = x.1) (h1 : 1 ≤ y.2.1) (h2 : y.2.1 ≤ 15) : Sh ⟨s.stocks.set n y, s.pieces, s.kerf⟩ where
  st := {
    len := by show 1 ≤ (s.stocks.set n y).length ∧ (s.stocks.set n y).length ≤ 4; rw [List.length_set]; exact h.st.len
    nm := by
      show NamesOk ((s.stocks.set n y).map (·.1))
      rw [set_names hx e]
      exact h.st.nm
    pos := fun z hz => by
      rcases List.mem_or_eq_of_mem_set hz with hz | rfl
      · exact h.st.pos z hz
      · exact h1 }
  pc := h.pc
  p3 := Nat.le_trans h.pm (by omega)
  kf := h.kf
  sl := fun z hz => by
    rcases List.mem_or_eq_of_mem_set hz with hz | rfl
    · have := h.sl z hz; omega
    · exact h2
  pl := fun x hx => by have := h.pl x hx; omega
theorem Few.piece {s : ShopT} (h : s.Few 3 2) {n : Nat} {x y : Str × Nat × Nat} (hx : s.pieces[n]? = some x) (e : y.1 = x.1) (h1 : 1 ≤ y.2.1) (h2 : y.2.1 ≤ 8) : Sh ⟨s.stocks, s.pieces.set n y, s.kerf⟩ where
  st := h.st
  pc := {
    len := by show 1 ≤ (s.pieces.set n y).length ∧ (s.pieces.set n y).length ≤ 6; rw [List.length_set]; exact h.pc.len
    nm := by
      show NamesOk ((s.pieces.set n y).map (·.1))
      rw [set_names hx e]
      exact h.pc.nm
    pos := fun z hz => by
      rcases List.mem_or_eq_of_mem_set hz with hz | rfl
      · exact h.pc.pos z hz
      · exact h1 }
  p3 := by show (s.pieces.set n y).length ≤ 3; rw [List.length_set]; exact Nat.le_trans h.pm (by omega)
  kf := h.kf
  sl := fun x hx => by have := h.sl x hx; omega
  pl := fun z hz => by
    rcases List.mem_or_eq_of_mem_set hz with hz | rfl
    · have := h.pl z hz; omega
    · exact h2

theorem changed_ok {R S : Sto} (h : PenS R S) {s : ShopT} (hf : s.Few 3 2) : (m__law_changed_shop [.mref 0, s.t] S).post fun d S' => (∃ s' : ShopT, d = s'.t ∧ Sh s') ∧ PenS R S' := by
  unfold m__law_changed_shop b__law_changed_shop
  have hs4 := hf.st.len
  have hp6 := hf.pc.len
  have ht0 : dIx s.t (.int 0) = some (.tup (s.stocks.map stockD)) := d_ix0 _ _
  have ht1 : dIx s.t (.int 1) = some (.tup (s.pieces.map pieceD)) := d_ix1 _ _ _
  have ht2 : dIx s.t (.int 2) = some (.int (s.kerf : Int)) := d_ix2 _ _ _ _
  have hcut : dSlice s.t (some 1) none = some (.tup [.tup (s.pieces.map pieceD), .int (s.kerf : Int)]) := by
    show some (D.tup (Ev.cutD _ (some (((0 : Nat) : Int) + 1)) none)) = _
    rw [cut_from _ 0 (by simp)]
    rfl
  simp -implicitDefEqProofs [-Int.natCast_add]
  refine then_post (draw_post h (by omega) (by omega)) fun d S1 ⟨⟨way, e, hway⟩, h⟩ => ?_
  subst e
  simp -implicitDefEqProofs [-Int.natCast_add, ht0]
  refine then_post (draw_post h (by omega) (by omega)) fun d S1 ⟨⟨at_, e, hat⟩, h⟩ => ?_
  subst e
  simp -implicitDefEqProofs [-Int.natCast_add, ht1]
  refine then_post (draw_post h (by omega) (by omega)) fun d S1 ⟨⟨to_, e, hto⟩, h⟩ => ?_
  subst e
  have hx := sto_at (s := s) (t := at_) (by omega)
  generalize sto s at_ = x at *
  obtain ⟨name, len, many, price⟩ := x
  have hix : dIx (.tup (s.stocks.map stockD)) (.int (at_ : Int)) = some (.tup [.str name, .int (len : Int), optD many, .int (price : Int)]) := d_ixt (by rw [List.getElem?_map, hx]; rfl)
  have hxb := hf.sl _ (List.mem_of_getElem? hx)
  have oc : ∃ d, ((optR (dIsN false (optD many) D.non) S1).then fun a S => (rBool a S).then fun a S => if a = true then Res.ok (D.int 7) S else Res.ok D.non S) = Res.ok d S1 ∧ d = optD (if many.isNone then some 7 else none) := by cases many <;> exact ⟨_, rfl, rfl⟩
  obtain ⟨d7, oc, ed7⟩ := oc
  have mn0 : dMin [.int 0, .int 2] = some (.int 0) := rfl
  have mn1 : dMin [.int 1, .int 2] = some (.int 1) := rfl
  have mn2 : dMin [.int 2, .int 2] = some (.int 2) := rfl
  have mn3 : dMin [.int 3, .int 2] = some (.int 2) := rfl
  have mn4 : dMin [.int 4, .int 2] = some (.int 2) := rfl
  have mn5 : dMin [.int 5, .int 2] = some (.int 2) := rfl
  have cs := fun d => cut_set (xs := s.stocks.map stockD) (n := at_) (by rw [List.length_map]; omega) (by rw [List.length_map]; omega) d
  have cp := fun d => cut_set (xs := s.pieces.map pieceD) (n := to_) (by rw [List.length_map]; omega) (by rw [List.length_map]; omega) d
  have hp : s.pieces[to_]? = some s.pieces[to_] := List.getElem?_eq_getElem (by omega)
  generalize s.pieces[to_] = p at *
  obtain ⟨pn, pl, pw⟩ := p
  have hip : dIx (.tup (s.pieces.map pieceD)) (.int (to_ : Int)) = some (.tup [.str pn, .int (pl : Int), .int (pw : Int)]) := d_ixt (by rw [List.getElem?_map, hp]; rfl)
  have hpb := hf.pl _ (List.mem_of_getElem? hp)
  have et : dAdd (.tup [.tup ((s.stocks.map stockD))]) (.tup [.tup (s.pieces.map pieceD), .int (s.kerf : Int)]) = some (.tup [.tup (s.stocks.map stockD), .tup (s.pieces.map pieceD), .int (s.kerf : Int)]) := tadd (by simp) (by simp)
  have stk : ∀ y : Str × Nat × Option Nat × Nat, y.1 = name → 1 ≤ y.2.1 → y.2.1 ≤ 15 → ∃ s' : ShopT, D.tup [.tup ((s.stocks.map stockD).set at_ (stockD y)), .tup (s.pieces.map pieceD), .int (s.kerf : Int)] = s'.t ∧ Sh s' := fun y e h1 h2 =>
    ⟨⟨s.stocks.set at_ y, s.pieces, s.kerf⟩, by rw [← List.map_set]; rfl, Few.stock hf hx e h1 h2⟩
  have pcs : ∀ y : Str × Nat × Nat, y.1 = pn → 1 ≤ y.2.1 → y.2.1 ≤ 8 → ∃ s' : ShopT, D.tup [.tup (s.stocks.map stockD), .tup ((s.pieces.map pieceD).set to_ (pieceD y)), .int (s.kerf : Int)] = s'.t ∧ Sh s' := fun y e h1 h2 =>
    ⟨⟨s.stocks, s.pieces.set to_ y, s.kerf⟩, by rw [← List.map_set]; rfl, Few.piece hf hp e h1 h2⟩
  have w6 : way = 0 ∨ way = 1 ∨ way = 2 ∨ way = 3 ∨ way = 4 ∨ way = 5 := by omega
  have hxb1 : 5 ≤ len ∧ len ≤ 14 := ⟨hxb.1, hxb.2.1⟩
  have hpb1 : 2 ≤ pl ∧ pl ≤ 7 := ⟨hpb.1, hpb.2.1⟩
  simp -implicitDefEqProofs [-Int.natCast_add, ht0, ht1, ht2, hix]
  have oc' := fun (k : D → Sto → Res D) => congrArg (fun r : Res D => r.then k) oc
  simp only [then_assoc] at oc'
  rw [oc']
  clear oc'
  rw [show ∀ (k : D → Sto → Res D), (Res.ok d7 S1).then k = k d7 S1 from fun _ => rfl]
  rcases w6 with rfl | rfl | rfl | rfl | rfl | rfl
  · have c := cs (.tup [.str name, .int ((len : Int) + 1), optD many, .int (price : Int)])
    have q := stk (name, len + 1, many, price) rfl (by show 1 ≤ len + 1; omega) (by show len + 1 ≤ 15; omega)
    have e : stockD (name, len + 1, many, price) = .tup [.str name, .int ((len : Int) + 1), optD many, .int (price : Int)] := by
      unfold stockD
      simp
    rw [e] at q
    have et : dAdd (.tup [.tup ((s.stocks.map stockD).set at_ (.tup [.str name, .int ((len : Int) + 1), optD many, .int (price : Int)]))]) (.tup [.tup (s.pieces.map pieceD), .int (s.kerf : Int)]) = some (.tup [.tup ((s.stocks.map stockD).set at_ (.tup [.str name, .int ((len : Int) + 1), optD many, .int (price : Int)])), .tup (s.pieces.map pieceD), .int (s.kerf : Int)]) := tadd (by simp) (by simp)
    simp -implicitDefEqProofs [-Int.natCast_add, mn0, mn1, mn2, c.1, c.2, hcut, et]
    exact ⟨q, h⟩
  · have c := cs (.tup [.str name, .int (len : Int), d7, .int (price : Int)])
    have q := stk (name, len, (if many.isNone then some 7 else none), price) rfl (by show 1 ≤ len; omega) (by show len ≤ 15; omega)
    have e : stockD (name, len, (if many.isNone then some 7 else none), price) = .tup [.str name, .int (len : Int), d7, .int (price : Int)] := by
      rw [ed7]
      unfold stockD
      simp
    rw [e] at q
    have et : dAdd (.tup [.tup ((s.stocks.map stockD).set at_ (.tup [.str name, .int (len : Int), d7, .int (price : Int)]))]) (.tup [.tup (s.pieces.map pieceD), .int (s.kerf : Int)]) = some (.tup [.tup ((s.stocks.map stockD).set at_ (.tup [.str name, .int (len : Int), d7, .int (price : Int)])), .tup (s.pieces.map pieceD), .int (s.kerf : Int)]) := tadd (by simp) (by simp)
    simp -implicitDefEqProofs [-Int.natCast_add, mn0, mn1, mn2, c.1, c.2, hcut, et]
    exact ⟨q, h⟩
  · have c := cs (.tup [.str name, .int (len : Int), optD many, .int ((price : Int) + 1)])
    have q := stk (name, len, many, price + 1) rfl (by show 1 ≤ len; omega) (by show len ≤ 15; omega)
    have e : stockD (name, len, many, price + 1) = .tup [.str name, .int (len : Int), optD many, .int ((price : Int) + 1)] := by
      unfold stockD
      simp
    rw [e] at q
    have et : dAdd (.tup [.tup ((s.stocks.map stockD).set at_ (.tup [.str name, .int (len : Int), optD many, .int ((price : Int) + 1)]))]) (.tup [.tup (s.pieces.map pieceD), .int (s.kerf : Int)]) = some (.tup [.tup ((s.stocks.map stockD).set at_ (.tup [.str name, .int (len : Int), optD many, .int ((price : Int) + 1)])), .tup (s.pieces.map pieceD), .int (s.kerf : Int)]) := tadd (by simp) (by simp)
    simp -implicitDefEqProofs [-Int.natCast_add, mn0, mn1, mn2, c.1, c.2, hcut, et]
    exact ⟨q, h⟩
  · have c := cp (.tup [.str pn, .int ((pl : Int) + 1), .int (pw : Int)])
    have q := pcs (pn, pl + 1, pw) rfl (by show 1 ≤ pl + 1; omega) (by show pl + 1 ≤ 8; omega)
    have e : pieceD (pn, pl + 1, pw) = .tup [.str pn, .int ((pl : Int) + 1), .int (pw : Int)] := by
      unfold pieceD
      simp
    rw [e] at q
    have es : (pl : Int) - 1 = ((pl - 1 : Nat) : Int) := by omega
    have em := max1 (pl - 1)
    simp -implicitDefEqProofs [-Int.natCast_add, mn3, mn4, mn5, ht0, ht1, ht2, hip, es, em, c.1, c.2]
    exact ⟨q, h⟩
  · have c := cp (.tup [.str pn, .int (pl : Int), .int ((pw : Int) + 1)])
    have q := pcs (pn, pl, pw + 1) rfl (by show 1 ≤ pl; omega) (by show pl ≤ 8; omega)
    have e : pieceD (pn, pl, pw + 1) = .tup [.str pn, .int (pl : Int), .int ((pw : Int) + 1)] := by
      unfold pieceD
      simp
    rw [e] at q
    have es : (pl : Int) - 1 = ((pl - 1 : Nat) : Int) := by omega
    have em := max1 (pl - 1)
    simp -implicitDefEqProofs [-Int.natCast_add, mn3, mn4, mn5, ht0, ht1, ht2, hip, es, em, c.1, c.2]
    exact ⟨q, h⟩
  · have c := cp (.tup [.str pn, .int ((max 1 (pl - 1) : Nat) : Int), .int (pw : Int)])
    have q := pcs (pn, max 1 (pl - 1), pw) rfl (by show 1 ≤ max 1 (pl - 1); omega) (by show max 1 (pl - 1) ≤ 8; omega)
    have e : pieceD (pn, max 1 (pl - 1), pw) = .tup [.str pn, .int ((max 1 (pl - 1) : Nat) : Int), .int (pw : Int)] := by
      unfold pieceD
      simp
    rw [e] at q
    have es : (pl : Int) - 1 = ((pl - 1 : Nat) : Int) := by omega
    have em := max1 (pl - 1)
    simp -implicitDefEqProofs [-Int.natCast_add, mn3, mn4, mn5, ht0, ht1, ht2, hip, es, em, c.1, c.2]
    exact ⟨q, h⟩

/-! ### the law k86 -/
theorem judges {s : ShopT} (hs : Sh s) {v : D} (h : BentOk v) (S : Sto) : ∃ b : Bool, m_thin_holds [s.o, v] S = .ok (.bl b) S ∧ m__law_thin_right [s.t, v] S = .ok (.bl b) S := by
  rcases h with ⟨a, b, rfl, ha, hb⟩ | rfl | ⟨xs, rfl⟩
  · exact ⟨_, holds_pl (n := 8) (by omega) hs ha hb S, lright_pl (n := 8) (by omega) hs ha hb S⟩
  · exact ⟨false, holds_not hs (by decide +kernel) S, lright_not (by decide +kernel) S⟩
  · exact ⟨false, holds_not hs rfl S, lright_not rfl S⟩
theorem told_bent {s : ShopT} (hs : Sh s) : BentOk (told s) := by
  have hkl := keptG_len hs
  have hbl := beatenG_len hs
  exact .th (pl_mono (pl_mk (keptG_pls s hs 1) (by rw [List.length_map]; omega)) (by omega)) (pl_mono (pl_mk (beatenG_pls s hs 1) (by rw [List.length_map]; omega)) (by omega))
theorem turn_ok {s : ShopT} (hs : Sh s) {j : Nat} (hj : j < 9) {ρ : DEnv} {S : Sto} (hp : PenS [] S) (h : St [none, some (.mref 0), none, some (s.t), some (s.o), some (told s), some (.int (j : Int)), none, none, none] ρ) :
    (b_law_f352 ρ S).post fun x S' => PenS [] S' ∧ ∃ ρ', x = .nx ρ' ∧ St [none, some (.mref 0), none, some (s.t), some (s.o), some (told s), none, none, none, none] ρ' := by
  repeat (first | (replace h := St.some h; obtain ⟨_, rfl, h⟩ := h) | (replace h := St.none h; obtain ⟨_, _, rfl, h⟩ := h))
  cases St.nil h
  unfold b_law_f352
  by_cases q : j = 0
  · subst q
    obtain ⟨b, h1, h2⟩ := judges hs (told_bent hs) S
    generalize told s = tl at *
    have h3 := is_bool b b S
    simp -implicitDefEqProofs [-Int.natCast_add, h1, h2, h3]
    exact hp
  · have q' : ¬ (j : Int) = 0 := by omega
    simp -implicitDefEqProofs [-Int.natCast_add, q', q]
    refine then_post (bent_ok hp hs) fun v S2 ⟨hv, hp⟩ => ?_
    obtain ⟨b, h1, h2⟩ := judges hs hv S2
    generalize told s = tl at *
    have h3 := is_bool b b S2
    simp -implicitDefEqProofs [-Int.natCast_add, h1, h2, h3]
    exact hp
theorem lap_ok {ρ : DEnv} {S : Sto} (hp : PenS [] S) (h : St [none, some (.mref 0), none, none, none, none, none, none, none, none] ρ) : (b_law_f348 ρ S).post fun x S' => PenS [] S' ∧ ∃ ρ', x = .nx ρ' ∧ St [none, some (.mref 0), none, none, none, none, none, none, none, none] ρ' := by
  repeat (first | (replace h := St.some h; obtain ⟨_, rfl, h⟩ := h) | (replace h := St.none h; obtain ⟨_, _, rfl, h⟩ := h))
  cases St.nil h
  unfold b_law_f348
  simp -implicitDefEqProofs [-Int.natCast_add]
  refine then_post (few_ok hp (bars := 3) (most := 2) (by omega) (by omega)) fun d S1 ⟨⟨s, e, hf⟩, hp⟩ => ?_
  subst e
  have hs := Few.sh hf
  have h9 : dRange [.int 9] = some ((List.range 9).map fun (k : Nat) => .int (k : Int)) := rg1 (j := 9) (by omega)
  simp -implicitDefEqProofs [-Int.natCast_add, madeO_ok hs.st hs.pc, thin_ok hs, h9]
  refine then_post (forL_range (Q := fun x S' => PenS [] S' ∧ ∃ ρ', x = .nx ρ' ∧ St [none, some (.mref 0), none, some (s.t), some (s.o), some (told s), none, none, none, none] ρ') (fun j ρ S => PenS [] S ∧ St [none, some (.mref 0), none, some (s.t), some (s.o), some (told s), none, none, none, none] ρ) 9 ⟨hp, by simp⟩ (fun j hj ρ S ⟨hp, h⟩ => ?_) fun ρ S ⟨hp, h⟩ => ⟨hp, ρ, rfl, h⟩) fun o S2 ⟨hp, ρ, e, h⟩ => ?_
  · repeat (first | (replace h := St.some h; obtain ⟨_, rfl, h⟩ := h) | (replace h := St.none h; obtain ⟨_, _, rfl, h⟩ := h))
    cases St.nil h
    simp -implicitDefEqProofs [-Int.natCast_add]
    refine Res.post_mono (turn_ok hs hj hp (by simp)) fun x S' ⟨hp, ρ', e, h⟩ => ?_
    subst e
    exact ⟨hp, h⟩
  · subst e
    repeat (first | (replace h := St.some h; obtain ⟨_, rfl, h⟩ := h) | (replace h := St.none h; obtain ⟨_, _, rfl, h⟩ := h))
    cases St.nil h
    simp -implicitDefEqProofs [-Int.natCast_add]
    refine then_post (changed_ok hp hf) fun d S3 ⟨⟨s', e, hs'⟩, hp⟩ => ?_
    subst e
    obtain ⟨b, h1, h2⟩ := judges hs' (told_bent hs) S3
    generalize told s = tl at *
    have h3 := is_bool b b S3
    simp -implicitDefEqProofs [-Int.natCast_add, madeO_ok hs'.st hs'.pc, h1, h2, h3]
    exact hp
theorem as_i (n : Nat) (i : Int) (S : Sto) : r_as_tuples (n + 1) [.int i] S = .ok (.int i) S := by
  show runD 2 (b_as_tuples (r_as_tuples n)) [.int i] S = _
  unfold b_as_tuples
  simp -implicitDefEqProofs [-Int.natCast_add, isTyS]
theorem as_nest (S : Sto) : m_as_tuples [.lst [.lst [.int 0, .lst [.int 1]]]] S = .ok (.tup [.tup [.int 0, .tup [.int 1]]]) S := by
  have h1 : r_as_tuples 10 [.lst [.int 1]] S = .ok (.tup [.int 1]) S := by
    show runD 2 (b_as_tuples (r_as_tuples 9)) [.lst [.int 1]] S = _
    unfold b_as_tuples
    simp -implicitDefEqProofs [-Int.natCast_add, compL, as_i 8]
  have h2 : r_as_tuples 11 [.lst [.int 0, .lst [.int 1]]] S = .ok (.tup [.int 0, .tup [.int 1]]) S := by
    show runD 2 (b_as_tuples (r_as_tuples 10)) [.lst [.int 0, .lst [.int 1]]] S = _
    unfold b_as_tuples
    simp -implicitDefEqProofs [-Int.natCast_add, compL, as_i 9, h1]
  show runD 2 (b_as_tuples (r_as_tuples 11)) [.lst [.lst [.int 0, .lst [.int 1]]]] S = _
  unfold b_as_tuples
  simp -implicitDefEqProofs [-Int.natCast_add, compL, h2]
theorem eq_thin {a b c d : D} {r : Bool} (h : dEqv false (.tup [a, b]) (.tup [c, d]) = some (.bl r)) (S : Sto) : m_Thin_eq [thinD a b, thinD c d] S = .ok (.bl r) S := by
  unfold m_Thin_eq b_Thin_eq
  simp -implicitDefEqProofs [-Int.natCast_add, h]
theorem th_obj (a b : D) : Ev.isObj "Thin" (thinD a b) = true := by
  show decide (("Thin" : Str) = "Thin") = true
  exact decide_eq_true rfl
theorem th_okC (a b : D) : okC OWN (thinD a b) = true := by
  show decide (("Thin" : Str) ∈ OWN) = true
  exact decide_eq_true (by decide +kernel)
theorem ne_thin {a b c d : D} {r : Bool} (h : dEqv false (.tup [a, b]) (.tup [c, d]) = some (.bl r)) (S : Sto) : m_Thin_ne [thinD a b, thinD c d] S = .ok (.bl !r) S := by
  unfold m_Thin_ne b_Thin_ne
  have e := eq_thin h S
  have i1 := th_obj a b
  have i2 := th_okC c d
  generalize thinD a b = x at *
  generalize thinD c d = y at *
  simp -implicitDefEqProofs [-Int.natCast_add, i1, i2, e]
theorem law_ok (ns : List Int) (hns : ns.length ≤ 63) : ∃ S, m_law [.scr ns] [] = .ok (.bl true) S := by
  have go : (m_law [.scr ns] []).post fun d S' => d = .bl true := by
    unfold m_law b_law
    have h2 : dRange [.int 2] = some ((List.range 2).map fun (k : Nat) => .int (k : Int)) := rg1 (j := 2) (by omega)
    simp -implicitDefEqProofs [-Int.natCast_add]
    refine then_post (pen_ok ns (by omega)) fun d S1 ⟨e, hp⟩ => ?_
    subst e
    simp -implicitDefEqProofs [-Int.natCast_add, h2]
    refine then_post (forL_range (Q := fun x S' => PenS [] S' ∧ ∃ ρ', x = .nx ρ' ∧ St [none, some (.mref 0), none, none, none, none, none, none, none, none] ρ') (fun j ρ S => PenS [] S ∧ St [none, some (.mref 0), none, none, none, none, none, none, none, none] ρ) 2 ⟨hp, by simp⟩ (fun j hj ρ S ⟨hp, h⟩ => ?_) fun ρ S ⟨hp, h⟩ => ⟨hp, ρ, rfl, h⟩) fun o S2 ⟨hp, ρ, e, h⟩ => ?_
    · repeat (first | (replace h := St.some h; obtain ⟨_, rfl, h⟩ := h) | (replace h := St.none h; obtain ⟨_, _, rfl, h⟩ := h))
      cases St.nil h
      simp -implicitDefEqProofs [-Int.natCast_add]
      refine Res.post_mono (lap_ok hp (by simp)) fun x S' ⟨hp, ρ', e, h⟩ => ?_
      subst e
      exact ⟨hp, h⟩
    · subst e
      repeat (first | (replace h := St.some h; obtain ⟨_, rfl, h⟩ := h) | (replace h := St.none h; obtain ⟨_, _, rfl, h⟩ := h))
      cases St.nil h
      have pe : ∀ n, pl n (.tup []) = true ∨ n = 0 := fun n => by cases n with
        | zero => exact .inr rfl
        | succ n => exact .inl rfl
      have p0 : pl 8 (.tup []) = true := rfl
      have a1 : m_as_tuples [.lst []] S2 = .ok (.tup []) S2 := as_list (n := 0) (by omega) S2 rfl (by simp)
      have i1 := init_thin (as_nest S2) a1
      have pt : pl 8 (.tup [.tup [.int 0, .tup [.int 1]]]) = true := by rfl
      have i2 := thin_of pt p0 S2
      have i3 := thin_of p0 p0 S2
      have i4 := thin_of (a := .tup []) (b := .tup [.int 1]) p0 rfl S2
      have i5 := thin_of (a := .tup []) (b := .tup [.int 2]) p0 rfl S2
      have v1 : dEqv false (.tup [.tup [.tup [.int 0, .tup [.int 1]]], .tup []]) (.tup [.tup [.tup [.int 0, .tup [.int 1]]], .tup []]) = some (.bl true) := by simp [dEqv, D.py, pyAll, SeqAt.shaped, PyData.canLay0, PyData.canLayAll0, PyData.depth, PyData.depthAll, PyData.eqv, PyData.eqvAll]
      have v2 : dEqv false (.tup [.tup [.tup [.int 0, .tup [.int 1]]], .tup []]) (.tup [.tup [], .tup []]) = some (.bl false) := by simp [dEqv, D.py, pyAll, SeqAt.shaped, PyData.canLay0, PyData.canLayAll0, PyData.depth, PyData.depthAll, PyData.eqv, PyData.eqvAll]
      have v3 : dEqv false (.tup [.tup [], .tup [.int 1]]) (.tup [.tup [], .tup [.int 2]]) = some (.bl false) := by simp [dEqv, D.py, pyAll, SeqAt.shaped, PyData.canLay0, PyData.canLayAll0, PyData.depth, PyData.depthAll, PyData.eqv, PyData.eqvAll]
      have w1 := eq_thin v1 S2
      have w2 := ne_thin v2 S2
      have w3 := eq_thin v3 S2
      have w4 : m_Thin_eq [thinD (.tup [.tup [.int 0, .tup [.int 1]]]) (.tup []), .tup [.tup [.int 0, .tup [.int 1]]]] S2 = .ok (.bl false) S2 := by
        unfold m_Thin_eq b_Thin_eq
        simp -implicitDefEqProofs [-Int.natCast_add, isOwn]
      have o := th_obj
      have k := th_okC
      have k2 : okC OWN (.tup [.tup [.int 0, .tup [.int 1]]]) = true := by rfl
      have hk : attrD at_kept "kept" (thinD (.tup [.tup [.int 0, .tup [.int 1]]]) (.tup [])) S2 = .ok (.tup [.tup [.int 0, .tup [.int 1]]]) S2 := th_kept _ _ S2
      simp -implicitDefEqProofs [-Int.natCast_add, i1, i2, i3, i4, i5, w1, w2, w3, o, k]
      simp -implicitDefEqProofs [-Int.natCast_add, hk, w4, k2, o, k, i4, i5, w3]
  obtain ⟨d, S, e, rfl⟩ := Res.post_ex go
  exact ⟨S, e⟩

end K86
namespace K86
open PySem PySem.Spec PyProof.Rows L2 Ev
def top (i : Nat) : Stmt := PySem.Challenge.pw_barscut_k86_thins_bent.main.body.getD i (.Pass ⟨0, 0, 0, 0⟩)
def names0 : List PySem.Str := ["CutError", "BadName", "BadNumber", "BadRow", "TakenName", "TooMany", "is_whole", "is_number", "as_tuples", "is_index", "LETTERS", "DIGITS", "SIGNS", "is_name", "MOST_STOCKS", "MOST_PIECES", "LENGTH_AT", "MANY_AT", "PRICE_AT", "Shop", "shop_parts", "need_new_name", "is_length", "need_length", "need_stocks", "need_pieces", "width_by", "room_by", "MOST_PATTERNS", "is_numbers_row"]
def names1 : List PySem.Str := ["size_by", "fits_by", "many_by", "rows_within", "patterns_by", "Thin", "is_give", "beats_by", "gives_by", "kept_by", "first_that_beats", "thin", "are_ascending", "is_beaten_row", "thin_holds", "_law_pen", "_law_draw", "_law_pick", "_law_is", "_law_name", "_law_names", "_law_whole", "_law_made", "_law_cut", "_law_patterns", "_law_few_shop", "_law_is_numbers", "_law_size", "_law_gives", "_law_gives_of"]
def names2 : List PySem.Str := ["_law_beats", "_law_is_give", "_law_thin_right", "_law_changed_shop", "_law_bent"]
def names : List PySem.Str := names0 ++ names1 ++ names2
abbrev st__law_draw : Stmt := top 53
def d__law_draw : He.DefD := ⟨("_law_draw", none), "_law_draw", "_law_draw", defArgs st__law_draw, defBody st__law_draw, defScope st__law_draw, [], []⟩
abbrev st__law_pick : Stmt := top 54
def d__law_pick : He.DefD := ⟨("_law_pick", none), "_law_pick", "_law_pick", defArgs st__law_pick, defBody st__law_pick, defScope st__law_pick, [], []⟩
abbrev st_as_tuples : Stmt := top 10
def d_as_tuples : He.DefD := ⟨("as_tuples", none), "as_tuples", "as_tuples", defArgs st_as_tuples, defBody st_as_tuples, defScope st_as_tuples, [], []⟩
abbrev st_Thin_init : Stmt := inClass (top 41) 0
def d_Thin_init : He.DefD := ⟨("Thin", some "__init__"), "__init__", "Thin.__init__", defArgs st_Thin_init, defBody st_Thin_init, defScope st_Thin_init, [], []⟩
abbrev st__law_bent : Stmt := top 71
def d__law_bent : He.DefD := ⟨("_law_bent", none), "_law_bent", "_law_bent", defArgs st__law_bent, defBody st__law_bent, defScope st__law_bent, [], []⟩
abbrev st__law_changed_shop : Stmt := top 70
def d__law_changed_shop : He.DefD := ⟨("_law_changed_shop", none), "_law_changed_shop", "_law_changed_shop", defArgs st__law_changed_shop, defBody st__law_changed_shop, defScope st__law_changed_shop, [], []⟩
abbrev st__law_name : Stmt := top 56
def d__law_name : He.DefD := ⟨("_law_name", none), "_law_name", "_law_name", defArgs st__law_name, defBody st__law_name, defScope st__law_name, [], []⟩
abbrev st__law_names : Stmt := top 57
def d__law_names : He.DefD := ⟨("_law_names", none), "_law_names", "_law_names", defArgs st__law_names, defBody st__law_names, defScope st__law_names, [], []⟩
abbrev st__law_few_shop : Stmt := top 62
def d__law_few_shop : He.DefD := ⟨("_law_few_shop", none), "_law_few_shop", "_law_few_shop", defArgs st__law_few_shop, defBody st__law_few_shop, defScope st__law_few_shop, [], []⟩
abbrev st__law_is : Stmt := top 55
def d__law_is : He.DefD := ⟨("_law_is", none), "_law_is", "_law_is", defArgs st__law_is, defBody st__law_is, defScope st__law_is, [], []⟩
abbrev st_is_whole : Stmt := top 8
def d_is_whole : He.DefD := ⟨("is_whole", none), "is_whole", "is_whole", defArgs st_is_whole, defBody st_is_whole, defScope st_is_whole, [], []⟩
abbrev st_is_number : Stmt := top 9
def d_is_number : He.DefD := ⟨("is_number", none), "is_number", "is_number", defArgs st_is_number, defBody st_is_number, defScope st_is_number, [], []⟩
abbrev st_is_length : Stmt := top 26
def d_is_length : He.DefD := ⟨("is_length", none), "is_length", "is_length", defArgs st_is_length, defBody st_is_length, defScope st_is_length, [], []⟩
abbrev st_need_length : Stmt := top 27
def d_need_length : He.DefD := ⟨("need_length", none), "need_length", "need_length", defArgs st_need_length, defBody st_need_length, defScope st_need_length, [], []⟩
abbrev st_is_name : Stmt := top 16
def d_is_name : He.DefD := ⟨("is_name", none), "is_name", "is_name", defArgs st_is_name, defBody st_is_name, defScope st_is_name, [], []⟩
abbrev st_need_new_name : Stmt := top 25
def d_need_new_name : He.DefD := ⟨("need_new_name", none), "need_new_name", "need_new_name", defArgs st_need_new_name, defBody st_need_new_name, defScope st_need_new_name, [], []⟩
abbrev st_need_pieces : Stmt := top 29
def d_need_pieces : He.DefD := ⟨("need_pieces", none), "need_pieces", "need_pieces", defArgs st_need_pieces, defBody st_need_pieces, defScope st_need_pieces, [], []⟩
abbrev st_need_stocks : Stmt := top 28
def d_need_stocks : He.DefD := ⟨("need_stocks", none), "need_stocks", "need_stocks", defArgs st_need_stocks, defBody st_need_stocks, defScope st_need_stocks, [], []⟩
abbrev st_Shop_init : Stmt := inClass (top 23) 0
def d_Shop_init : He.DefD := ⟨("Shop", some "__init__"), "__init__", "Shop.__init__", defArgs st_Shop_init, defBody st_Shop_init, defScope st_Shop_init, [], []⟩
abbrev st__law_made : Stmt := top 59
def d__law_made : He.DefD := ⟨("_law_made", none), "_law_made", "_law_made", defArgs st__law_made, defBody st__law_made, defScope st__law_made, [], []⟩
abbrev st__law_pen : Stmt := top 52
def d__law_pen : He.DefD := ⟨("_law_pen", none), "_law_pen", "_law_pen", defArgs st__law_pen, defBody st__law_pen, defScope st__law_pen, [], []⟩
abbrev st__law_beats : Stmt := top 67
def d__law_beats : He.DefD := ⟨("_law_beats", none), "_law_beats", "_law_beats", defArgs st__law_beats, defBody st__law_beats, defScope st__law_beats, [], []⟩
abbrev st__law_cut : Stmt := top 60
def d__law_cut : He.DefD := ⟨("_law_cut", none), "_law_cut", "_law_cut", defArgs st__law_cut, defBody st__law_cut, defScope st__law_cut, [], []⟩
abbrev st__law_patterns : Stmt := top 61
def d__law_patterns : He.DefD := ⟨("_law_patterns", none), "_law_patterns", "_law_patterns", defArgs st__law_patterns, defBody st__law_patterns, defScope st__law_patterns, [], []⟩
abbrev st__law_gives_of : Stmt := top 66
def d__law_gives_of : He.DefD := ⟨("_law_gives_of", none), "_law_gives_of", "_law_gives_of", defArgs st__law_gives_of, defBody st__law_gives_of, defScope st__law_gives_of, [], []⟩
abbrev st__law_size : Stmt := top 64
def d__law_size : He.DefD := ⟨("_law_size", none), "_law_size", "_law_size", defArgs st__law_size, defBody st__law_size, defScope st__law_size, [], []⟩
abbrev st__law_gives : Stmt := top 65
def d__law_gives : He.DefD := ⟨("_law_gives", none), "_law_gives", "_law_gives", defArgs st__law_gives, defBody st__law_gives, defScope st__law_gives, [], []⟩
abbrev st__law_whole : Stmt := top 58
def d__law_whole : He.DefD := ⟨("_law_whole", none), "_law_whole", "_law_whole", defArgs st__law_whole, defBody st__law_whole, defScope st__law_whole, [], []⟩
abbrev st__law_is_numbers : Stmt := top 63
def d__law_is_numbers : He.DefD := ⟨("_law_is_numbers", none), "_law_is_numbers", "_law_is_numbers", defArgs st__law_is_numbers, defBody st__law_is_numbers, defScope st__law_is_numbers, [], []⟩
abbrev st__law_is_give : Stmt := top 68
def d__law_is_give : He.DefD := ⟨("_law_is_give", none), "_law_is_give", "_law_is_give", defArgs st__law_is_give, defBody st__law_is_give, defScope st__law_is_give, [], []⟩
abbrev st__law_thin_right : Stmt := top 69
def d__law_thin_right : He.DefD := ⟨("_law_thin_right", none), "_law_thin_right", "_law_thin_right", defArgs st__law_thin_right, defBody st__law_thin_right, defScope st__law_thin_right, [], []⟩
abbrev st_beats_by : Stmt := top 43
def d_beats_by : He.DefD := ⟨("beats_by", none), "beats_by", "beats_by", defArgs st_beats_by, defBody st_beats_by, defScope st_beats_by, [], []⟩
abbrev st_first_that_beats : Stmt := top 46
def d_first_that_beats : He.DefD := ⟨("first_that_beats", none), "first_that_beats", "first_that_beats", defArgs st_first_that_beats, defBody st_first_that_beats, defScope st_first_that_beats, [], []⟩
abbrev st_width_by : Stmt := top 30
def d_width_by : He.DefD := ⟨("width_by", none), "width_by", "width_by", defArgs st_width_by, defBody st_width_by, defScope st_width_by, [], []⟩
abbrev st_many_by : Stmt := top 37
def d_many_by : He.DefD := ⟨("many_by", none), "many_by", "many_by", defArgs st_many_by, defBody st_many_by, defScope st_many_by, [], []⟩
abbrev st_room_by : Stmt := top 31
def d_room_by : He.DefD := ⟨("room_by", none), "room_by", "room_by", defArgs st_room_by, defBody st_room_by, defScope st_room_by, [], []⟩
abbrev st_rows_within : Stmt := top 38
def d_rows_within : He.DefD := ⟨("rows_within", none), "rows_within", "rows_within", defArgs st_rows_within, defBody st_rows_within, defScope st_rows_within, [], []⟩
abbrev st_patterns_by : Stmt := top 39
def d_patterns_by : He.DefD := ⟨("patterns_by", none), "patterns_by", "patterns_by", defArgs st_patterns_by, defBody st_patterns_by, defScope st_patterns_by, [], []⟩
abbrev st_gives_by : Stmt := top 44
def d_gives_by : He.DefD := ⟨("gives_by", none), "gives_by", "gives_by", defArgs st_gives_by, defBody st_gives_by, defScope st_gives_by, [], []⟩
abbrev st_kept_by : Stmt := top 45
def d_kept_by : He.DefD := ⟨("kept_by", none), "kept_by", "kept_by", defArgs st_kept_by, defBody st_kept_by, defScope st_kept_by, [], []⟩
abbrev st_thin : Stmt := top 47
def d_thin : He.DefD := ⟨("thin", none), "thin", "thin", defArgs st_thin, defBody st_thin, defScope st_thin, [], []⟩
abbrev st_are_ascending : Stmt := top 48
def d_are_ascending : He.DefD := ⟨("are_ascending", none), "are_ascending", "are_ascending", defArgs st_are_ascending, defBody st_are_ascending, defScope st_are_ascending, [], []⟩
abbrev st_size_by : Stmt := top 35
def d_size_by : He.DefD := ⟨("size_by", none), "size_by", "size_by", defArgs st_size_by, defBody st_size_by, defScope st_size_by, [], []⟩
abbrev st_fits_by : Stmt := top 36
def d_fits_by : He.DefD := ⟨("fits_by", none), "fits_by", "fits_by", defArgs st_fits_by, defBody st_fits_by, defScope st_fits_by, [], []⟩
abbrev st_is_index : Stmt := top 11
def d_is_index : He.DefD := ⟨("is_index", none), "is_index", "is_index", defArgs st_is_index, defBody st_is_index, defScope st_is_index, [], []⟩
abbrev st_is_numbers_row : Stmt := top 34
def d_is_numbers_row : He.DefD := ⟨("is_numbers_row", none), "is_numbers_row", "is_numbers_row", defArgs st_is_numbers_row, defBody st_is_numbers_row, defScope st_is_numbers_row, [], []⟩
abbrev st_is_give : Stmt := top 42
def d_is_give : He.DefD := ⟨("is_give", none), "is_give", "is_give", defArgs st_is_give, defBody st_is_give, defScope st_is_give, [], []⟩
abbrev st_is_beaten_row : Stmt := top 49
def d_is_beaten_row : He.DefD := ⟨("is_beaten_row", none), "is_beaten_row", "is_beaten_row", defArgs st_is_beaten_row, defBody st_is_beaten_row, defScope st_is_beaten_row, [], []⟩
abbrev st_thin_holds : Stmt := top 50
def d_thin_holds : He.DefD := ⟨("thin_holds", none), "thin_holds", "thin_holds", defArgs st_thin_holds, defBody st_thin_holds, defScope st_thin_holds, [], []⟩
abbrev st_Thin_eq : Stmt := inClass (top 41) 1
def d_Thin_eq : He.DefD := ⟨("Thin", some "__eq__"), "__eq__", "Thin.__eq__", defArgs st_Thin_eq, defBody st_Thin_eq, defScope st_Thin_eq, [], []⟩
abbrev st_Thin_ne : Stmt := inClass (top 41) 2
def d_Thin_ne : He.DefD := ⟨("Thin", some "__ne__"), "__ne__", "Thin.__ne__", defArgs st_Thin_ne, defBody st_Thin_ne, defScope st_Thin_ne, [], []⟩
abbrev st_law : Stmt := top 72
def d_law : He.DefD := ⟨("law", none), "law", "law", defArgs st_law, defBody st_law, defScope st_law, [], []⟩
def fn0 : List He.DefD := [d__law_draw, d__law_pick, d_as_tuples, d_Thin_init, d__law_bent, d__law_changed_shop, d__law_name, d__law_names, d__law_few_shop, d__law_is, d_is_whole, d_is_number, d_is_length, d_need_length, d_is_name, d_need_new_name, d_need_pieces, d_need_stocks, d_Shop_init, d__law_made, d__law_pen, d__law_beats, d__law_cut, d__law_patterns, d__law_gives_of, d__law_size, d__law_gives, d__law_whole, d__law_is_numbers, d__law_is_give]
def fn1 : List He.DefD := [d__law_thin_right, d_beats_by, d_first_that_beats, d_width_by, d_many_by, d_room_by, d_rows_within, d_patterns_by, d_gives_by, d_kept_by, d_thin, d_are_ascending, d_size_by, d_fits_by, d_is_index, d_is_numbers_row, d_is_give, d_is_beaten_row, d_thin_holds, d_Thin_eq, d_Thin_ne, d_law]
def fn : List He.DefD := fn0 ++ fn1
def fa0 : List He.Fa := [.glo "_law_draw", .glo "_law_pick", .glo "as_tuples", .glo "_law_bent", .glo "_law_changed_shop", .glo "_law_name", .glo "_law_names", .glo "_law_few_shop", .glo "_law_is", .glo "is_whole", .glo "is_number", .glo "is_length", .glo "need_length", .glo "is_name", .glo "need_new_name", .glo "need_pieces", .glo "need_stocks", .glo "_law_made", .glo "_law_pen", .glo "_law_beats", .glo "_law_cut", .glo "_law_patterns", .glo "_law_gives_of", .glo "_law_size", .glo "_law_gives", .glo "_law_whole", .glo "_law_is_numbers", .glo "_law_is_give", .glo "_law_thin_right", .glo "beats_by"]
def fa1 : List He.Fa := [.glo "first_that_beats", .glo "width_by", .glo "many_by", .glo "room_by", .glo "rows_within", .glo "patterns_by", .glo "gives_by", .glo "kept_by", .glo "thin", .glo "are_ascending", .glo "size_by", .glo "fits_by", .glo "is_index", .glo "is_numbers_row", .glo "is_give", .glo "is_beaten_row", .glo "thin_holds", .glo "law", .glo "Shop", .glo "Thin", .free "all", .free "any", .free "bool", .free "enumerate", .free "int", .free "isinstance", .free "len", .free "list", .free "max", .free "min"]
def fa2 : List He.Fa := [.free "range", .free "sorted", .free "str", .free "sum", .free "tuple", .free "zip", .int "LENGTH_AT" 1, .int "MANY_AT" 2, .int "MOST_PATTERNS" 3000, .int "MOST_PIECES" 6, .int "MOST_STOCKS" 4, .int "PRICE_AT" 3, .str "LETTERS" "abcdefghijklmnopqrstuvwxyz", .str "SIGNS" "abcdefghijklmnopqrstuvwxyz0123456789", .cls "Shop", .cls "Thin", .noat "Thin" "beaten", .noat "Thin" "kept", .noat "Shop" "kerf", .noat "Shop" "pieces", .noat "Shop" "stocks", .mkr "Shop", .mkr "Thin", .meth "Thin" "__eq__", .meth "Thin" "__ne__"]
def fa : List He.Fa := fa0 ++ fa1 ++ fa2
def more (K : PySem.W.Frag) : Bool := clsFacts K OWN && eqFacts K OWN
/-- what is known of the text -/
structure Txt (K : PySem.W.Frag) (mg : Str → Option Value) : Prop where
  ex : ∃ h : Heap, K.In h ∧ h.Ns mainGlobals mg ∧ He.SaysD fa fn K ∧ more K = true
section
variable {K : PySem.W.Frag} {mg : Str → Option Value}
theorem g__law_draw (T : Txt K mg) : mg "_law_draw" = some (.ref (He.ga K "_law_draw")) := let ⟨_, X, G, c, _⟩ := T.ex; He.glo_ok X G (c.fact 0 (f := .glo "_law_draw") rfl)
theorem g__law_pick (T : Txt K mg) : mg "_law_pick" = some (.ref (He.ga K "_law_pick")) := let ⟨_, X, G, c, _⟩ := T.ex; He.glo_ok X G (c.fact 1 (f := .glo "_law_pick") rfl)
theorem g_as_tuples (T : Txt K mg) : mg "as_tuples" = some (.ref (He.ga K "as_tuples")) := let ⟨_, X, G, c, _⟩ := T.ex; He.glo_ok X G (c.fact 2 (f := .glo "as_tuples") rfl)
theorem g__law_bent (T : Txt K mg) : mg "_law_bent" = some (.ref (He.ga K "_law_bent")) := let ⟨_, X, G, c, _⟩ := T.ex; He.glo_ok X G (c.fact 3 (f := .glo "_law_bent") rfl)
theorem g__law_changed_shop (T : Txt K mg) : mg "_law_changed_shop" = some (.ref (He.ga K "_law_changed_shop")) := let ⟨_, X, G, c, _⟩ := T.ex; He.glo_ok X G (c.fact 4 (f := .glo "_law_changed_shop") rfl)
theorem g__law_name (T : Txt K mg) : mg "_law_name" = some (.ref (He.ga K "_law_name")) := let ⟨_, X, G, c, _⟩ := T.ex; He.glo_ok X G (c.fact 5 (f := .glo "_law_name") rfl)
theorem g__law_names (T : Txt K mg) : mg "_law_names" = some (.ref (He.ga K "_law_names")) := let ⟨_, X, G, c, _⟩ := T.ex; He.glo_ok X G (c.fact 6 (f := .glo "_law_names") rfl)
theorem g__law_few_shop (T : Txt K mg) : mg "_law_few_shop" = some (.ref (He.ga K "_law_few_shop")) := let ⟨_, X, G, c, _⟩ := T.ex; He.glo_ok X G (c.fact 7 (f := .glo "_law_few_shop") rfl)
theorem g__law_is (T : Txt K mg) : mg "_law_is" = some (.ref (He.ga K "_law_is")) := let ⟨_, X, G, c, _⟩ := T.ex; He.glo_ok X G (c.fact 8 (f := .glo "_law_is") rfl)
theorem g_is_whole (T : Txt K mg) : mg "is_whole" = some (.ref (He.ga K "is_whole")) := let ⟨_, X, G, c, _⟩ := T.ex; He.glo_ok X G (c.fact 9 (f := .glo "is_whole") rfl)
theorem g_is_number (T : Txt K mg) : mg "is_number" = some (.ref (He.ga K "is_number")) := let ⟨_, X, G, c, _⟩ := T.ex; He.glo_ok X G (c.fact 10 (f := .glo "is_number") rfl)
theorem g_is_length (T : Txt K mg) : mg "is_length" = some (.ref (He.ga K "is_length")) := let ⟨_, X, G, c, _⟩ := T.ex; He.glo_ok X G (c.fact 11 (f := .glo "is_length") rfl)
theorem g_need_length (T : Txt K mg) : mg "need_length" = some (.ref (He.ga K "need_length")) := let ⟨_, X, G, c, _⟩ := T.ex; He.glo_ok X G (c.fact 12 (f := .glo "need_length") rfl)
theorem g_is_name (T : Txt K mg) : mg "is_name" = some (.ref (He.ga K "is_name")) := let ⟨_, X, G, c, _⟩ := T.ex; He.glo_ok X G (c.fact 13 (f := .glo "is_name") rfl)
theorem g_need_new_name (T : Txt K mg) : mg "need_new_name" = some (.ref (He.ga K "need_new_name")) := let ⟨_, X, G, c, _⟩ := T.ex; He.glo_ok X G (c.fact 14 (f := .glo "need_new_name") rfl)
theorem g_need_pieces (T : Txt K mg) : mg "need_pieces" = some (.ref (He.ga K "need_pieces")) := let ⟨_, X, G, c, _⟩ := T.ex; He.glo_ok X G (c.fact 15 (f := .glo "need_pieces") rfl)
theorem g_need_stocks (T : Txt K mg) : mg "need_stocks" = some (.ref (He.ga K "need_stocks")) := let ⟨_, X, G, c, _⟩ := T.ex; He.glo_ok X G (c.fact 16 (f := .glo "need_stocks") rfl)
theorem g__law_made (T : Txt K mg) : mg "_law_made" = some (.ref (He.ga K "_law_made")) := let ⟨_, X, G, c, _⟩ := T.ex; He.glo_ok X G (c.fact 17 (f := .glo "_law_made") rfl)
theorem g__law_pen (T : Txt K mg) : mg "_law_pen" = some (.ref (He.ga K "_law_pen")) := let ⟨_, X, G, c, _⟩ := T.ex; He.glo_ok X G (c.fact 18 (f := .glo "_law_pen") rfl)
theorem g__law_beats (T : Txt K mg) : mg "_law_beats" = some (.ref (He.ga K "_law_beats")) := let ⟨_, X, G, c, _⟩ := T.ex; He.glo_ok X G (c.fact 19 (f := .glo "_law_beats") rfl)
theorem g__law_cut (T : Txt K mg) : mg "_law_cut" = some (.ref (He.ga K "_law_cut")) := let ⟨_, X, G, c, _⟩ := T.ex; He.glo_ok X G (c.fact 20 (f := .glo "_law_cut") rfl)
theorem g__law_patterns (T : Txt K mg) : mg "_law_patterns" = some (.ref (He.ga K "_law_patterns")) := let ⟨_, X, G, c, _⟩ := T.ex; He.glo_ok X G (c.fact 21 (f := .glo "_law_patterns") rfl)
theorem g__law_gives_of (T : Txt K mg) : mg "_law_gives_of" = some (.ref (He.ga K "_law_gives_of")) := let ⟨_, X, G, c, _⟩ := T.ex; He.glo_ok X G (c.fact 22 (f := .glo "_law_gives_of") rfl)
theorem g__law_size (T : Txt K mg) : mg "_law_size" = some (.ref (He.ga K "_law_size")) := let ⟨_, X, G, c, _⟩ := T.ex; He.glo_ok X G (c.fact 23 (f := .glo "_law_size") rfl)
theorem g__law_gives (T : Txt K mg) : mg "_law_gives" = some (.ref (He.ga K "_law_gives")) := let ⟨_, X, G, c, _⟩ := T.ex; He.glo_ok X G (c.fact 24 (f := .glo "_law_gives") rfl)
theorem g__law_whole (T : Txt K mg) : mg "_law_whole" = some (.ref (He.ga K "_law_whole")) := let ⟨_, X, G, c, _⟩ := T.ex; He.glo_ok X G (c.fact 25 (f := .glo "_law_whole") rfl)
theorem g__law_is_numbers (T : Txt K mg) : mg "_law_is_numbers" = some (.ref (He.ga K "_law_is_numbers")) := let ⟨_, X, G, c, _⟩ := T.ex; He.glo_ok X G (c.fact 26 (f := .glo "_law_is_numbers") rfl)
theorem g__law_is_give (T : Txt K mg) : mg "_law_is_give" = some (.ref (He.ga K "_law_is_give")) := let ⟨_, X, G, c, _⟩ := T.ex; He.glo_ok X G (c.fact 27 (f := .glo "_law_is_give") rfl)
theorem g__law_thin_right (T : Txt K mg) : mg "_law_thin_right" = some (.ref (He.ga K "_law_thin_right")) := let ⟨_, X, G, c, _⟩ := T.ex; He.glo_ok X G (c.fact 28 (f := .glo "_law_thin_right") rfl)
theorem g_beats_by (T : Txt K mg) : mg "beats_by" = some (.ref (He.ga K "beats_by")) := let ⟨_, X, G, c, _⟩ := T.ex; He.glo_ok X G (c.fact 29 (f := .glo "beats_by") rfl)
theorem g_first_that_beats (T : Txt K mg) : mg "first_that_beats" = some (.ref (He.ga K "first_that_beats")) := let ⟨_, X, G, c, _⟩ := T.ex; He.glo_ok X G (c.fact 30 (f := .glo "first_that_beats") rfl)
theorem g_width_by (T : Txt K mg) : mg "width_by" = some (.ref (He.ga K "width_by")) := let ⟨_, X, G, c, _⟩ := T.ex; He.glo_ok X G (c.fact 31 (f := .glo "width_by") rfl)
theorem g_many_by (T : Txt K mg) : mg "many_by" = some (.ref (He.ga K "many_by")) := let ⟨_, X, G, c, _⟩ := T.ex; He.glo_ok X G (c.fact 32 (f := .glo "many_by") rfl)
theorem g_room_by (T : Txt K mg) : mg "room_by" = some (.ref (He.ga K "room_by")) := let ⟨_, X, G, c, _⟩ := T.ex; He.glo_ok X G (c.fact 33 (f := .glo "room_by") rfl)
theorem g_rows_within (T : Txt K mg) : mg "rows_within" = some (.ref (He.ga K "rows_within")) := let ⟨_, X, G, c, _⟩ := T.ex; He.glo_ok X G (c.fact 34 (f := .glo "rows_within") rfl)
theorem g_patterns_by (T : Txt K mg) : mg "patterns_by" = some (.ref (He.ga K "patterns_by")) := let ⟨_, X, G, c, _⟩ := T.ex; He.glo_ok X G (c.fact 35 (f := .glo "patterns_by") rfl)
theorem g_gives_by (T : Txt K mg) : mg "gives_by" = some (.ref (He.ga K "gives_by")) := let ⟨_, X, G, c, _⟩ := T.ex; He.glo_ok X G (c.fact 36 (f := .glo "gives_by") rfl)
theorem g_kept_by (T : Txt K mg) : mg "kept_by" = some (.ref (He.ga K "kept_by")) := let ⟨_, X, G, c, _⟩ := T.ex; He.glo_ok X G (c.fact 37 (f := .glo "kept_by") rfl)
theorem g_thin (T : Txt K mg) : mg "thin" = some (.ref (He.ga K "thin")) := let ⟨_, X, G, c, _⟩ := T.ex; He.glo_ok X G (c.fact 38 (f := .glo "thin") rfl)
theorem g_are_ascending (T : Txt K mg) : mg "are_ascending" = some (.ref (He.ga K "are_ascending")) := let ⟨_, X, G, c, _⟩ := T.ex; He.glo_ok X G (c.fact 39 (f := .glo "are_ascending") rfl)
theorem g_size_by (T : Txt K mg) : mg "size_by" = some (.ref (He.ga K "size_by")) := let ⟨_, X, G, c, _⟩ := T.ex; He.glo_ok X G (c.fact 40 (f := .glo "size_by") rfl)
theorem g_fits_by (T : Txt K mg) : mg "fits_by" = some (.ref (He.ga K "fits_by")) := let ⟨_, X, G, c, _⟩ := T.ex; He.glo_ok X G (c.fact 41 (f := .glo "fits_by") rfl)
theorem g_is_index (T : Txt K mg) : mg "is_index" = some (.ref (He.ga K "is_index")) := let ⟨_, X, G, c, _⟩ := T.ex; He.glo_ok X G (c.fact 42 (f := .glo "is_index") rfl)
theorem g_is_numbers_row (T : Txt K mg) : mg "is_numbers_row" = some (.ref (He.ga K "is_numbers_row")) := let ⟨_, X, G, c, _⟩ := T.ex; He.glo_ok X G (c.fact 43 (f := .glo "is_numbers_row") rfl)
theorem g_is_give (T : Txt K mg) : mg "is_give" = some (.ref (He.ga K "is_give")) := let ⟨_, X, G, c, _⟩ := T.ex; He.glo_ok X G (c.fact 44 (f := .glo "is_give") rfl)
theorem g_is_beaten_row (T : Txt K mg) : mg "is_beaten_row" = some (.ref (He.ga K "is_beaten_row")) := let ⟨_, X, G, c, _⟩ := T.ex; He.glo_ok X G (c.fact 45 (f := .glo "is_beaten_row") rfl)
theorem g_thin_holds (T : Txt K mg) : mg "thin_holds" = some (.ref (He.ga K "thin_holds")) := let ⟨_, X, G, c, _⟩ := T.ex; He.glo_ok X G (c.fact 46 (f := .glo "thin_holds") rfl)
theorem g_law (T : Txt K mg) : mg "law" = some (.ref (He.ga K "law")) := let ⟨_, X, G, c, _⟩ := T.ex; He.glo_ok X G (c.fact 47 (f := .glo "law") rfl)
theorem g_Shop (T : Txt K mg) : mg "Shop" = some (.ref (He.ga K "Shop")) := let ⟨_, X, G, c, _⟩ := T.ex; He.glo_ok X G (c.fact 48 (f := .glo "Shop") rfl)
theorem g_Thin (T : Txt K mg) : mg "Thin" = some (.ref (He.ga K "Thin")) := let ⟨_, X, G, c, _⟩ := T.ex; He.glo_ok X G (c.fact 49 (f := .glo "Thin") rfl)
theorem z_all (T : Txt K mg) : mg "all" = none := let ⟨_, X, G, c, _⟩ := T.ex; He.free_ok X G (c.fact 50 (f := .free "all") rfl)
theorem z_any (T : Txt K mg) : mg "any" = none := let ⟨_, X, G, c, _⟩ := T.ex; He.free_ok X G (c.fact 51 (f := .free "any") rfl)
theorem z_bool (T : Txt K mg) : mg "bool" = none := let ⟨_, X, G, c, _⟩ := T.ex; He.free_ok X G (c.fact 52 (f := .free "bool") rfl)
theorem z_enumerate (T : Txt K mg) : mg "enumerate" = none := let ⟨_, X, G, c, _⟩ := T.ex; He.free_ok X G (c.fact 53 (f := .free "enumerate") rfl)
theorem z_int (T : Txt K mg) : mg "int" = none := let ⟨_, X, G, c, _⟩ := T.ex; He.free_ok X G (c.fact 54 (f := .free "int") rfl)
theorem z_isinstance (T : Txt K mg) : mg "isinstance" = none := let ⟨_, X, G, c, _⟩ := T.ex; He.free_ok X G (c.fact 55 (f := .free "isinstance") rfl)
theorem z_len (T : Txt K mg) : mg "len" = none := let ⟨_, X, G, c, _⟩ := T.ex; He.free_ok X G (c.fact 56 (f := .free "len") rfl)
theorem z_list (T : Txt K mg) : mg "list" = none := let ⟨_, X, G, c, _⟩ := T.ex; He.free_ok X G (c.fact 57 (f := .free "list") rfl)
theorem z_max (T : Txt K mg) : mg "max" = none := let ⟨_, X, G, c, _⟩ := T.ex; He.free_ok X G (c.fact 58 (f := .free "max") rfl)
theorem z_min (T : Txt K mg) : mg "min" = none := let ⟨_, X, G, c, _⟩ := T.ex; He.free_ok X G (c.fact 59 (f := .free "min") rfl)
theorem z_range (T : Txt K mg) : mg "range" = none := let ⟨_, X, G, c, _⟩ := T.ex; He.free_ok X G (c.fact 60 (f := .free "range") rfl)
theorem z_sorted (T : Txt K mg) : mg "sorted" = none := let ⟨_, X, G, c, _⟩ := T.ex; He.free_ok X G (c.fact 61 (f := .free "sorted") rfl)
theorem z_str (T : Txt K mg) : mg "str" = none := let ⟨_, X, G, c, _⟩ := T.ex; He.free_ok X G (c.fact 62 (f := .free "str") rfl)
theorem z_sum (T : Txt K mg) : mg "sum" = none := let ⟨_, X, G, c, _⟩ := T.ex; He.free_ok X G (c.fact 63 (f := .free "sum") rfl)
theorem z_tuple (T : Txt K mg) : mg "tuple" = none := let ⟨_, X, G, c, _⟩ := T.ex; He.free_ok X G (c.fact 64 (f := .free "tuple") rfl)
theorem z_zip (T : Txt K mg) : mg "zip" = none := let ⟨_, X, G, c, _⟩ := T.ex; He.free_ok X G (c.fact 65 (f := .free "zip") rfl)
theorem z_LENGTH_AT (T : Txt K mg) : ∃ t, mg "LENGTH_AT" = some (.int 1 t) := let ⟨_, X, G, c, _⟩ := T.ex; He.int_ok X G (c.fact 66 (f := .int "LENGTH_AT" 1) rfl)
theorem z_MANY_AT (T : Txt K mg) : ∃ t, mg "MANY_AT" = some (.int 2 t) := let ⟨_, X, G, c, _⟩ := T.ex; He.int_ok X G (c.fact 67 (f := .int "MANY_AT" 2) rfl)
theorem z_MOST_PATTERNS (T : Txt K mg) : ∃ t, mg "MOST_PATTERNS" = some (.int 3000 t) := let ⟨_, X, G, c, _⟩ := T.ex; He.int_ok X G (c.fact 68 (f := .int "MOST_PATTERNS" 3000) rfl)
theorem z_MOST_PIECES (T : Txt K mg) : ∃ t, mg "MOST_PIECES" = some (.int 6 t) := let ⟨_, X, G, c, _⟩ := T.ex; He.int_ok X G (c.fact 69 (f := .int "MOST_PIECES" 6) rfl)
theorem z_MOST_STOCKS (T : Txt K mg) : ∃ t, mg "MOST_STOCKS" = some (.int 4 t) := let ⟨_, X, G, c, _⟩ := T.ex; He.int_ok X G (c.fact 70 (f := .int "MOST_STOCKS" 4) rfl)
theorem z_PRICE_AT (T : Txt K mg) : ∃ t, mg "PRICE_AT" = some (.int 3 t) := let ⟨_, X, G, c, _⟩ := T.ex; He.int_ok X G (c.fact 71 (f := .int "PRICE_AT" 3) rfl)
theorem z_LETTERS (T : Txt K mg) : ∃ t, mg "LETTERS" = some (.str "abcdefghijklmnopqrstuvwxyz" t) := let ⟨_, X, G, c, _⟩ := T.ex; He.str_ok X G (c.fact 72 (f := .str "LETTERS" "abcdefghijklmnopqrstuvwxyz") rfl)
theorem z_SIGNS (T : Txt K mg) : ∃ t, mg "SIGNS" = some (.str "abcdefghijklmnopqrstuvwxyz0123456789" t) := let ⟨_, X, G, c, _⟩ := T.ex; He.str_ok X G (c.fact 73 (f := .str "SIGNS" "abcdefghijklmnopqrstuvwxyz0123456789") rfl)
theorem ato_beaten (T : Txt K mg) : AttrOk K mg at_beaten "beaten" := fun c hc C hm => by
  obtain ⟨_, X, G, cc, _⟩ := T.ex
  have hc' : c = "Thin" := by simpa [at_beaten] using hc
  subst hc'
  · have e := (g_Thin T).symm.trans hm
    cases e
    exact ⟨He.cls_ok (cc.fact 75 (f := .cls "Thin") rfl), He.noat_ok (cc.fact 76 (f := .noat "Thin" "beaten") rfl)⟩
theorem ato_kept (T : Txt K mg) : AttrOk K mg at_kept "kept" := fun c hc C hm => by
  obtain ⟨_, X, G, cc, _⟩ := T.ex
  have hc' : c = "Thin" := by simpa [at_kept] using hc
  subst hc'
  · have e := (g_Thin T).symm.trans hm
    cases e
    exact ⟨He.cls_ok (cc.fact 75 (f := .cls "Thin") rfl), He.noat_ok (cc.fact 77 (f := .noat "Thin" "kept") rfl)⟩
theorem ato_kerf (T : Txt K mg) : AttrOk K mg at_kerf "kerf" := fun c hc C hm => by
  obtain ⟨_, X, G, cc, _⟩ := T.ex
  have hc' : c = "Shop" := by simpa [at_kerf] using hc
  subst hc'
  · have e := (g_Shop T).symm.trans hm
    cases e
    exact ⟨He.cls_ok (cc.fact 74 (f := .cls "Shop") rfl), He.noat_ok (cc.fact 78 (f := .noat "Shop" "kerf") rfl)⟩
theorem ato_pieces (T : Txt K mg) : AttrOk K mg at_pieces "pieces" := fun c hc C hm => by
  obtain ⟨_, X, G, cc, _⟩ := T.ex
  have hc' : c = "Shop" := by simpa [at_pieces] using hc
  subst hc'
  · have e := (g_Shop T).symm.trans hm
    cases e
    exact ⟨He.cls_ok (cc.fact 74 (f := .cls "Shop") rfl), He.noat_ok (cc.fact 79 (f := .noat "Shop" "pieces") rfl)⟩
theorem ato_stocks (T : Txt K mg) : AttrOk K mg at_stocks "stocks" := fun c hc C hm => by
  obtain ⟨_, X, G, cc, _⟩ := T.ex
  have hc' : c = "Shop" := by simpa [at_stocks] using hc
  subst hc'
  · have e := (g_Shop T).symm.trans hm
    cases e
    exact ⟨He.cls_ok (cc.fact 74 (f := .cls "Shop") rfl), He.noat_ok (cc.fact 80 (f := .noat "Shop" "stocks") rfl)⟩
theorem mk_Shop (T : Txt K mg) : Mk K (He.ga K "Shop") (He.ma K (He.ga K "Shop") "__init__") := let ⟨_, X, G, c, _⟩ := T.ex; He.mkr_ok (c.fact 81 (f := .mkr "Shop") rfl)
theorem mk_Thin (T : Txt K mg) : Mk K (He.ga K "Thin") (He.ma K (He.ga K "Thin") "__init__") := let ⟨_, X, G, c, _⟩ := T.ex; He.mkr_ok (c.fact 82 (f := .mkr "Thin") rfl)
theorem clsok (T : Txt K mg) : ClsOk K mg OWN where
  glo := by
    intro c hc
    have hc2 : c = "Shop" ∨ c = "Thin" := by simpa [OWN] using hc
    rcases hc2 with rfl | rfl
    · exact g_Shop T
    · exact g_Thin T
  cls := by
    intro c hc
    have hc2 : c = "Shop" ∨ c = "Thin" := by simpa [OWN] using hc
    rcases hc2 with rfl | rfl
    · exact (let ⟨_, X, G, cc, _⟩ := T.ex; He.cls_ok (cc.fact 74 (f := .cls "Shop") rfl))
    · exact (let ⟨_, X, G, cc, _⟩ := T.ex; He.cls_ok (cc.fact 75 (f := .cls "Thin") rfl))
  facts := let ⟨_, _, _, _, m⟩ := T.ex; (Bool.and_eq_true _ _ ▸ m : _ ∧ _).1
theorem eqok (T : Txt K mg) : eqFacts K OWN = true := let ⟨_, _, _, _, m⟩ := T.ex; (Bool.and_eq_true _ _ ▸ m : _ ∧ _).2
theorem fd__law_draw (T : Txt K mg) : ∃ fd, FunD K "_law_draw" "_law_draw" (defArgs st__law_draw) (defBody st__law_draw) (defScope st__law_draw) [] [] (He.fAd K ("_law_draw", none)) fd := let ⟨_, X, G, c, _⟩ := T.ex; c.def_ 0 (d := d__law_draw) rfl
theorem fd__law_pick (T : Txt K mg) : ∃ fd, FunD K "_law_pick" "_law_pick" (defArgs st__law_pick) (defBody st__law_pick) (defScope st__law_pick) [] [] (He.fAd K ("_law_pick", none)) fd := let ⟨_, X, G, c, _⟩ := T.ex; c.def_ 1 (d := d__law_pick) rfl
theorem fd_as_tuples (T : Txt K mg) : ∃ fd, FunD K "as_tuples" "as_tuples" (defArgs st_as_tuples) (defBody st_as_tuples) (defScope st_as_tuples) [] [] (He.fAd K ("as_tuples", none)) fd := let ⟨_, X, G, c, _⟩ := T.ex; c.def_ 2 (d := d_as_tuples) rfl
theorem fd_Thin_init (T : Txt K mg) : ∃ fd, FunD K "__init__" "Thin.__init__" (defArgs st_Thin_init) (defBody st_Thin_init) (defScope st_Thin_init) [] [] (He.fAd K ("Thin", some "__init__")) fd := let ⟨_, X, G, c, _⟩ := T.ex; c.def_ 3 (d := d_Thin_init) rfl
theorem fd__law_bent (T : Txt K mg) : ∃ fd, FunD K "_law_bent" "_law_bent" (defArgs st__law_bent) (defBody st__law_bent) (defScope st__law_bent) [] [] (He.fAd K ("_law_bent", none)) fd := let ⟨_, X, G, c, _⟩ := T.ex; c.def_ 4 (d := d__law_bent) rfl
theorem fd__law_changed_shop (T : Txt K mg) : ∃ fd, FunD K "_law_changed_shop" "_law_changed_shop" (defArgs st__law_changed_shop) (defBody st__law_changed_shop) (defScope st__law_changed_shop) [] [] (He.fAd K ("_law_changed_shop", none)) fd := let ⟨_, X, G, c, _⟩ := T.ex; c.def_ 5 (d := d__law_changed_shop) rfl
theorem fd__law_name (T : Txt K mg) : ∃ fd, FunD K "_law_name" "_law_name" (defArgs st__law_name) (defBody st__law_name) (defScope st__law_name) [] [] (He.fAd K ("_law_name", none)) fd := let ⟨_, X, G, c, _⟩ := T.ex; c.def_ 6 (d := d__law_name) rfl
theorem fd__law_names (T : Txt K mg) : ∃ fd, FunD K "_law_names" "_law_names" (defArgs st__law_names) (defBody st__law_names) (defScope st__law_names) [] [] (He.fAd K ("_law_names", none)) fd := let ⟨_, X, G, c, _⟩ := T.ex; c.def_ 7 (d := d__law_names) rfl
theorem fd__law_few_shop (T : Txt K mg) : ∃ fd, FunD K "_law_few_shop" "_law_few_shop" (defArgs st__law_few_shop) (defBody st__law_few_shop) (defScope st__law_few_shop) [] [] (He.fAd K ("_law_few_shop", none)) fd := let ⟨_, X, G, c, _⟩ := T.ex; c.def_ 8 (d := d__law_few_shop) rfl
theorem fd__law_is (T : Txt K mg) : ∃ fd, FunD K "_law_is" "_law_is" (defArgs st__law_is) (defBody st__law_is) (defScope st__law_is) [] [] (He.fAd K ("_law_is", none)) fd := let ⟨_, X, G, c, _⟩ := T.ex; c.def_ 9 (d := d__law_is) rfl
theorem fd_is_whole (T : Txt K mg) : ∃ fd, FunD K "is_whole" "is_whole" (defArgs st_is_whole) (defBody st_is_whole) (defScope st_is_whole) [] [] (He.fAd K ("is_whole", none)) fd := let ⟨_, X, G, c, _⟩ := T.ex; c.def_ 10 (d := d_is_whole) rfl
theorem fd_is_number (T : Txt K mg) : ∃ fd, FunD K "is_number" "is_number" (defArgs st_is_number) (defBody st_is_number) (defScope st_is_number) [] [] (He.fAd K ("is_number", none)) fd := let ⟨_, X, G, c, _⟩ := T.ex; c.def_ 11 (d := d_is_number) rfl
theorem fd_is_length (T : Txt K mg) : ∃ fd, FunD K "is_length" "is_length" (defArgs st_is_length) (defBody st_is_length) (defScope st_is_length) [] [] (He.fAd K ("is_length", none)) fd := let ⟨_, X, G, c, _⟩ := T.ex; c.def_ 12 (d := d_is_length) rfl
theorem fd_need_length (T : Txt K mg) : ∃ fd, FunD K "need_length" "need_length" (defArgs st_need_length) (defBody st_need_length) (defScope st_need_length) [] [] (He.fAd K ("need_length", none)) fd := let ⟨_, X, G, c, _⟩ := T.ex; c.def_ 13 (d := d_need_length) rfl
theorem fd_is_name (T : Txt K mg) : ∃ fd, FunD K "is_name" "is_name" (defArgs st_is_name) (defBody st_is_name) (defScope st_is_name) [] [] (He.fAd K ("is_name", none)) fd := let ⟨_, X, G, c, _⟩ := T.ex; c.def_ 14 (d := d_is_name) rfl
theorem fd_need_new_name (T : Txt K mg) : ∃ fd, FunD K "need_new_name" "need_new_name" (defArgs st_need_new_name) (defBody st_need_new_name) (defScope st_need_new_name) [] [] (He.fAd K ("need_new_name", none)) fd := let ⟨_, X, G, c, _⟩ := T.ex; c.def_ 15 (d := d_need_new_name) rfl
theorem fd_need_pieces (T : Txt K mg) : ∃ fd, FunD K "need_pieces" "need_pieces" (defArgs st_need_pieces) (defBody st_need_pieces) (defScope st_need_pieces) [] [] (He.fAd K ("need_pieces", none)) fd := let ⟨_, X, G, c, _⟩ := T.ex; c.def_ 16 (d := d_need_pieces) rfl
theorem fd_need_stocks (T : Txt K mg) : ∃ fd, FunD K "need_stocks" "need_stocks" (defArgs st_need_stocks) (defBody st_need_stocks) (defScope st_need_stocks) [] [] (He.fAd K ("need_stocks", none)) fd := let ⟨_, X, G, c, _⟩ := T.ex; c.def_ 17 (d := d_need_stocks) rfl
theorem fd_Shop_init (T : Txt K mg) : ∃ fd, FunD K "__init__" "Shop.__init__" (defArgs st_Shop_init) (defBody st_Shop_init) (defScope st_Shop_init) [] [] (He.fAd K ("Shop", some "__init__")) fd := let ⟨_, X, G, c, _⟩ := T.ex; c.def_ 18 (d := d_Shop_init) rfl
theorem fd__law_made (T : Txt K mg) : ∃ fd, FunD K "_law_made" "_law_made" (defArgs st__law_made) (defBody st__law_made) (defScope st__law_made) [] [] (He.fAd K ("_law_made", none)) fd := let ⟨_, X, G, c, _⟩ := T.ex; c.def_ 19 (d := d__law_made) rfl
theorem fd__law_pen (T : Txt K mg) : ∃ fd, FunD K "_law_pen" "_law_pen" (defArgs st__law_pen) (defBody st__law_pen) (defScope st__law_pen) [] [] (He.fAd K ("_law_pen", none)) fd := let ⟨_, X, G, c, _⟩ := T.ex; c.def_ 20 (d := d__law_pen) rfl
theorem fd__law_beats (T : Txt K mg) : ∃ fd, FunD K "_law_beats" "_law_beats" (defArgs st__law_beats) (defBody st__law_beats) (defScope st__law_beats) [] [] (He.fAd K ("_law_beats", none)) fd := let ⟨_, X, G, c, _⟩ := T.ex; c.def_ 21 (d := d__law_beats) rfl
theorem fd__law_cut (T : Txt K mg) : ∃ fd, FunD K "_law_cut" "_law_cut" (defArgs st__law_cut) (defBody st__law_cut) (defScope st__law_cut) [] [] (He.fAd K ("_law_cut", none)) fd := let ⟨_, X, G, c, _⟩ := T.ex; c.def_ 22 (d := d__law_cut) rfl
theorem fd__law_patterns (T : Txt K mg) : ∃ fd, FunD K "_law_patterns" "_law_patterns" (defArgs st__law_patterns) (defBody st__law_patterns) (defScope st__law_patterns) [] [] (He.fAd K ("_law_patterns", none)) fd := let ⟨_, X, G, c, _⟩ := T.ex; c.def_ 23 (d := d__law_patterns) rfl
theorem fd__law_gives_of (T : Txt K mg) : ∃ fd, FunD K "_law_gives_of" "_law_gives_of" (defArgs st__law_gives_of) (defBody st__law_gives_of) (defScope st__law_gives_of) [] [] (He.fAd K ("_law_gives_of", none)) fd := let ⟨_, X, G, c, _⟩ := T.ex; c.def_ 24 (d := d__law_gives_of) rfl
theorem fd__law_size (T : Txt K mg) : ∃ fd, FunD K "_law_size" "_law_size" (defArgs st__law_size) (defBody st__law_size) (defScope st__law_size) [] [] (He.fAd K ("_law_size", none)) fd := let ⟨_, X, G, c, _⟩ := T.ex; c.def_ 25 (d := d__law_size) rfl
theorem fd__law_gives (T : Txt K mg) : ∃ fd, FunD K "_law_gives" "_law_gives" (defArgs st__law_gives) (defBody st__law_gives) (defScope st__law_gives) [] [] (He.fAd K ("_law_gives", none)) fd := let ⟨_, X, G, c, _⟩ := T.ex; c.def_ 26 (d := d__law_gives) rfl
theorem fd__law_whole (T : Txt K mg) : ∃ fd, FunD K "_law_whole" "_law_whole" (defArgs st__law_whole) (defBody st__law_whole) (defScope st__law_whole) [] [] (He.fAd K ("_law_whole", none)) fd := let ⟨_, X, G, c, _⟩ := T.ex; c.def_ 27 (d := d__law_whole) rfl
theorem fd__law_is_numbers (T : Txt K mg) : ∃ fd, FunD K "_law_is_numbers" "_law_is_numbers" (defArgs st__law_is_numbers) (defBody st__law_is_numbers) (defScope st__law_is_numbers) [] [] (He.fAd K ("_law_is_numbers", none)) fd := let ⟨_, X, G, c, _⟩ := T.ex; c.def_ 28 (d := d__law_is_numbers) rfl
theorem fd__law_is_give (T : Txt K mg) : ∃ fd, FunD K "_law_is_give" "_law_is_give" (defArgs st__law_is_give) (defBody st__law_is_give) (defScope st__law_is_give) [] [] (He.fAd K ("_law_is_give", none)) fd := let ⟨_, X, G, c, _⟩ := T.ex; c.def_ 29 (d := d__law_is_give) rfl
theorem fd__law_thin_right (T : Txt K mg) : ∃ fd, FunD K "_law_thin_right" "_law_thin_right" (defArgs st__law_thin_right) (defBody st__law_thin_right) (defScope st__law_thin_right) [] [] (He.fAd K ("_law_thin_right", none)) fd := let ⟨_, X, G, c, _⟩ := T.ex; c.def_ 30 (d := d__law_thin_right) rfl
theorem fd_beats_by (T : Txt K mg) : ∃ fd, FunD K "beats_by" "beats_by" (defArgs st_beats_by) (defBody st_beats_by) (defScope st_beats_by) [] [] (He.fAd K ("beats_by", none)) fd := let ⟨_, X, G, c, _⟩ := T.ex; c.def_ 31 (d := d_beats_by) rfl
theorem fd_first_that_beats (T : Txt K mg) : ∃ fd, FunD K "first_that_beats" "first_that_beats" (defArgs st_first_that_beats) (defBody st_first_that_beats) (defScope st_first_that_beats) [] [] (He.fAd K ("first_that_beats", none)) fd := let ⟨_, X, G, c, _⟩ := T.ex; c.def_ 32 (d := d_first_that_beats) rfl
theorem fd_width_by (T : Txt K mg) : ∃ fd, FunD K "width_by" "width_by" (defArgs st_width_by) (defBody st_width_by) (defScope st_width_by) [] [] (He.fAd K ("width_by", none)) fd := let ⟨_, X, G, c, _⟩ := T.ex; c.def_ 33 (d := d_width_by) rfl
theorem fd_many_by (T : Txt K mg) : ∃ fd, FunD K "many_by" "many_by" (defArgs st_many_by) (defBody st_many_by) (defScope st_many_by) [] [] (He.fAd K ("many_by", none)) fd := let ⟨_, X, G, c, _⟩ := T.ex; c.def_ 34 (d := d_many_by) rfl
theorem fd_room_by (T : Txt K mg) : ∃ fd, FunD K "room_by" "room_by" (defArgs st_room_by) (defBody st_room_by) (defScope st_room_by) [] [] (He.fAd K ("room_by", none)) fd := let ⟨_, X, G, c, _⟩ := T.ex; c.def_ 35 (d := d_room_by) rfl
theorem fd_rows_within (T : Txt K mg) : ∃ fd, FunD K "rows_within" "rows_within" (defArgs st_rows_within) (defBody st_rows_within) (defScope st_rows_within) [] [] (He.fAd K ("rows_within", none)) fd := let ⟨_, X, G, c, _⟩ := T.ex; c.def_ 36 (d := d_rows_within) rfl
theorem fd_patterns_by (T : Txt K mg) : ∃ fd, FunD K "patterns_by" "patterns_by" (defArgs st_patterns_by) (defBody st_patterns_by) (defScope st_patterns_by) [] [] (He.fAd K ("patterns_by", none)) fd := let ⟨_, X, G, c, _⟩ := T.ex; c.def_ 37 (d := d_patterns_by) rfl
theorem fd_gives_by (T : Txt K mg) : ∃ fd, FunD K "gives_by" "gives_by" (defArgs st_gives_by) (defBody st_gives_by) (defScope st_gives_by) [] [] (He.fAd K ("gives_by", none)) fd := let ⟨_, X, G, c, _⟩ := T.ex; c.def_ 38 (d := d_gives_by) rfl
theorem fd_kept_by (T : Txt K mg) : ∃ fd, FunD K "kept_by" "kept_by" (defArgs st_kept_by) (defBody st_kept_by) (defScope st_kept_by) [] [] (He.fAd K ("kept_by", none)) fd := let ⟨_, X, G, c, _⟩ := T.ex; c.def_ 39 (d := d_kept_by) rfl
theorem fd_thin (T : Txt K mg) : ∃ fd, FunD K "thin" "thin" (defArgs st_thin) (defBody st_thin) (defScope st_thin) [] [] (He.fAd K ("thin", none)) fd := let ⟨_, X, G, c, _⟩ := T.ex; c.def_ 40 (d := d_thin) rfl
theorem fd_are_ascending (T : Txt K mg) : ∃ fd, FunD K "are_ascending" "are_ascending" (defArgs st_are_ascending) (defBody st_are_ascending) (defScope st_are_ascending) [] [] (He.fAd K ("are_ascending", none)) fd := let ⟨_, X, G, c, _⟩ := T.ex; c.def_ 41 (d := d_are_ascending) rfl
theorem fd_size_by (T : Txt K mg) : ∃ fd, FunD K "size_by" "size_by" (defArgs st_size_by) (defBody st_size_by) (defScope st_size_by) [] [] (He.fAd K ("size_by", none)) fd := let ⟨_, X, G, c, _⟩ := T.ex; c.def_ 42 (d := d_size_by) rfl
theorem fd_fits_by (T : Txt K mg) : ∃ fd, FunD K "fits_by" "fits_by" (defArgs st_fits_by) (defBody st_fits_by) (defScope st_fits_by) [] [] (He.fAd K ("fits_by", none)) fd := let ⟨_, X, G, c, _⟩ := T.ex; c.def_ 43 (d := d_fits_by) rfl
theorem fd_is_index (T : Txt K mg) : ∃ fd, FunD K "is_index" "is_index" (defArgs st_is_index) (defBody st_is_index) (defScope st_is_index) [] [] (He.fAd K ("is_index", none)) fd := let ⟨_, X, G, c, _⟩ := T.ex; c.def_ 44 (d := d_is_index) rfl
theorem fd_is_numbers_row (T : Txt K mg) : ∃ fd, FunD K "is_numbers_row" "is_numbers_row" (defArgs st_is_numbers_row) (defBody st_is_numbers_row) (defScope st_is_numbers_row) [] [] (He.fAd K ("is_numbers_row", none)) fd := let ⟨_, X, G, c, _⟩ := T.ex; c.def_ 45 (d := d_is_numbers_row) rfl
theorem fd_is_give (T : Txt K mg) : ∃ fd, FunD K "is_give" "is_give" (defArgs st_is_give) (defBody st_is_give) (defScope st_is_give) [] [] (He.fAd K ("is_give", none)) fd := let ⟨_, X, G, c, _⟩ := T.ex; c.def_ 46 (d := d_is_give) rfl
theorem fd_is_beaten_row (T : Txt K mg) : ∃ fd, FunD K "is_beaten_row" "is_beaten_row" (defArgs st_is_beaten_row) (defBody st_is_beaten_row) (defScope st_is_beaten_row) [] [] (He.fAd K ("is_beaten_row", none)) fd := let ⟨_, X, G, c, _⟩ := T.ex; c.def_ 47 (d := d_is_beaten_row) rfl
theorem fd_thin_holds (T : Txt K mg) : ∃ fd, FunD K "thin_holds" "thin_holds" (defArgs st_thin_holds) (defBody st_thin_holds) (defScope st_thin_holds) [] [] (He.fAd K ("thin_holds", none)) fd := let ⟨_, X, G, c, _⟩ := T.ex; c.def_ 48 (d := d_thin_holds) rfl
theorem fd_Thin_eq (T : Txt K mg) : ∃ fd, FunD K "__eq__" "Thin.__eq__" (defArgs st_Thin_eq) (defBody st_Thin_eq) (defScope st_Thin_eq) [] [] (He.fAd K ("Thin", some "__eq__")) fd := let ⟨_, X, G, c, _⟩ := T.ex; c.def_ 49 (d := d_Thin_eq) rfl
theorem fd_Thin_ne (T : Txt K mg) : ∃ fd, FunD K "__ne__" "Thin.__ne__" (defArgs st_Thin_ne) (defBody st_Thin_ne) (defScope st_Thin_ne) [] [] (He.fAd K ("Thin", some "__ne__")) fd := let ⟨_, X, G, c, _⟩ := T.ex; c.def_ 50 (d := d_Thin_ne) rfl
theorem fd_law (T : Txt K mg) : ∃ fd, FunD K "law" "law" (defArgs st_law) (defBody st_law) (defScope st_law) [] [] (He.fAd K ("law", none)) fd := let ⟨_, X, G, c, _⟩ := T.ex; c.def_ 51 (d := d_law) rfl
end
end K86
namespace K86
open PySem PySem.Spec PyProof.Rows L2 Ev
section
variable {P : Program} {w : World} {K : PySem.W.Frag} {mg : Str → Option Value} {base : Heap}
abbrev n__law_draw : List Str := ["pen", "many", "cell", "digit", "blend"]
theorem sc__law_draw : FnScope n__law_draw ["pen", "many"] (defScope st__law_draw) := ⟨rfl, rfl, rfl, by decide +kernel, rfl, by decide +kernel, by decide +kernel⟩
theorem gf__law_draw (T : Txt K mg) : GF P w K mg base 1 "_law_draw" 2 m__law_draw := by
  obtain ⟨fd, F⟩ := fd__law_draw T
  refine gf_of (b := b__law_draw) (n := 2) (N := n__law_draw) F (g__law_draw T) sc__law_draw rfl (by decide) (fun _ _ _ _ _ _ us hl => match us, hl with | [_, _], _ => rfl) fun cdv A outer s H E hr => ?_
  exact (simb_cons (own1 := []) (sim_put hr (sim_var (pv 0) (by decide)) sim_str (v_add (SimE.r (sim_get hr (sim_var (pv 0) (by decide)) sim_str)) (SimE.r sim_int)))
    (simb_cons (own1 := []) (sim_ifS (SimW.t (sim_andW (sim_cmpT (op_eqD hr.units) op2_eq (SimE.r (sim_get hr (sim_var (pv 0) (by decide)) sim_str)) (SimE.r sim_int) (nomark _)) (sim_and1 (sim_cmpT op_lt (op2_i2 _) (SimE.r (sim_get hr (sim_var (pv 0) (by decide)) sim_str)) (SimE.r (v_len (z_len T) (SimE.r (sim_get hr (sim_var (pv 0) (by decide)) sim_str)))) (nomark _))))) (simb_cons (own1 := []) (sim_set sc__law_draw.nd rfl (by first | exact .inl rfl | exact .inr rfl) (sim_ix (SimE.r (sim_get hr (sim_var (pv 0) (by decide)) sim_str)) (SimE.r (sim_get hr (sim_var (pv 0) (by decide)) sim_str)) (fun _ _ => rfl)))
    (simb_cons (own1 := []) (sim_put hr (sim_var (pv 0) (by decide)) sim_str (v_add (SimE.r (sim_get hr (sim_var (pv 0) (by decide)) sim_str)) (SimE.r sim_int)))
    (simb_one (sim_ifS (sim_cmpT op_ge (op2_i2 _) (SimE.r (sim_var (pv 2) (by decide))) (SimE.r (v_pow (SimE.r sim_int) (SimE.r sim_int))) (nomark _)) (simb_one (sim_put hr (sim_var (pv 0) (by decide)) sim_str (v_sub (SimE.r (sim_var (pv 2) (by decide))) (SimE.r (v_pow (SimE.r sim_int) (SimE.r sim_int)))))) (simb_one (sim_put hr (sim_var (pv 0) (by decide)) sim_str (v_mod (SimE.r (v_int (z_int T) (SimE.r (v_add (SimE.r (v_mul (SimE.r (sim_get hr (sim_var (pv 0) (by decide)) sim_str)) (SimE.r sim_int))) (SimE.r (sim_var (pv 2) (by decide))))))) (SimE.r sim_int)))))))) simb_nil)
    (simb_cons (own1 := []) (sim_ifS (sim_cmpT op_gt (op2_i2 _) (SimE.r (sim_get hr (sim_var (pv 0) (by decide)) sim_str)) (SimE.r sim_int) (nomark _)) (simb_cons (own1 := []) (sim_set sc__law_draw.nd rfl (by first | exact .inl rfl | exact .inr rfl) (v_mod (SimE.r (v_int (z_int T) (SimE.r (sim_get hr (sim_var (pv 0) (by decide)) sim_str)))) (SimE.r (sim_var (pv 1) (by decide)))))
    (simb_cons (own1 := []) (sim_put hr (sim_var (pv 0) (by decide)) sim_str (v_fdiv (SimE.r (sim_get hr (sim_var (pv 0) (by decide)) sim_str)) (SimE.r (sim_var (pv 1) (by decide)))))
    (simb_one (sim_ret (sim_var (pv 3) (by decide)))))) simb_nil)
    (simb_cons (own1 := []) (sim_set sc__law_draw.nd rfl (by first | exact .inl rfl | exact .inr rfl) (v_mod (SimE.r (v_int (z_int T) (SimE.r (v_add (SimE.r (v_add (SimE.r (v_mul (SimE.r (sim_get hr (sim_var (pv 0) (by decide)) sim_str)) (SimE.r sim_int))) (SimE.r (v_mul (SimE.r (sim_get hr (sim_var (pv 0) (by decide)) sim_str)) (SimE.r sim_int))))) (SimE.r sim_int))))) (SimE.r sim_int)))
    (simb_cons (own1 := []) (sim_set sc__law_draw.nd rfl (by first | exact .inl rfl | exact .inr rfl) (v_mod (SimE.r (v_int (z_int T) (SimE.r (v_add (SimE.r (v_add (SimE.r (v_mul (SimE.r (sim_var (pv 4) (by decide))) (SimE.r (sim_var (pv 4) (by decide))))) (SimE.r (v_mul (SimE.r sim_int) (SimE.r (sim_var (pv 4) (by decide))))))) (SimE.r (sim_get hr (sim_var (pv 0) (by decide)) sim_str)))))) (SimE.r sim_int)))
    (simb_cons (own1 := []) (sim_put hr (sim_var (pv 0) (by decide)) sim_str (v_mod (SimE.r (v_int (z_int T) (SimE.r (v_add (SimE.r (v_mul (SimE.r (sim_var (pv 4) (by decide))) (SimE.r sim_int))) (SimE.r sim_int))))) (SimE.r sim_int)))
    (simb_one (sim_ret (v_mod (SimE.r (v_int (z_int T) (SimE.r (v_fdiv (SimE.r (sim_var (pv 4) (by decide))) (SimE.r sim_int))))) (SimE.r (sim_var (pv 1) (by decide))))))))))))
abbrev n__law_pick : List Str := ["pen", "some"]
theorem sc__law_pick : FnScope n__law_pick ["pen", "some"] (defScope st__law_pick) := ⟨rfl, rfl, rfl, by decide +kernel, rfl, by decide +kernel, by decide +kernel⟩
theorem gf__law_pick (T : Txt K mg) : GF P w K mg base 2 "_law_pick" 2 m__law_pick := by
  obtain ⟨fd, F⟩ := fd__law_pick T
  refine gf_of (b := b__law_pick) (n := 2) (N := n__law_pick) F (g__law_pick T) sc__law_pick rfl (by decide) (fun _ _ _ _ _ _ us hl => match us, hl with | [_, _], _ => rfl) fun cdv A outer s H E hr => ?_
  exact (simb_one (sim_ret (sim_ix (SimE.r (sim_var (pv 1) (by decide))) (SimE.r (sim_call (gf__law_draw T) (hr.mono (by decide)) (by rfl) (sima_cons (sim_var (pv 0) (by decide)) (sima_cons (v_len (z_len T) (SimE.r (sim_var (pv 1) (by decide)))) sima_nil)))) (fun _ _ => rfl))))
abbrev n_as_tuples : List Str := ["value", "one"]
theorem sc_as_tuples : FnScope n_as_tuples ["value"] (defScope st_as_tuples) := ⟨rfl, rfl, rfl, by decide +kernel, rfl, by decide +kernel, by decide +kernel⟩
theorem rr_as_tuples (T : Txt K mg) : ∀ n : Nat, GF P w K mg base (0 + n) "as_tuples" 1 (r_as_tuples n)
  | 0 => by
    obtain ⟨fd, F⟩ := fd_as_tuples T
    exact gf_bad F (g_as_tuples T) sc_as_tuples rfl (fun _ _ _ _ _ _ us hl => match us, hl with | [_], _ => rfl)
  | n + 1 => by
    have G : GF P w K mg base (0 + n) "as_tuples" 1 (r_as_tuples n) := rr_as_tuples T n
    obtain ⟨fd, F⟩ := fd_as_tuples T
    refine gf_of (b := b_as_tuples (r_as_tuples n)) (n := 1) (N := n_as_tuples) F (g_as_tuples T) sc_as_tuples rfl (by decide) (fun _ _ _ _ _ _ us hl => match us, hl with | [_], _ => rfl) fun cdv A outer s H E hr => ?_
    exact (simb_cons (own1 := []) (sim_ifS (sim_truth (SimE.r (sim_isi2 (n := "list") (n2 := "tuple") (by rfl) (z_isinstance T) (by rfl) (z_list T) boot_list (by decide) (by rfl) (z_tuple T) boot_tuple (by decide) (SimE.r (sim_var (pv 0) (by decide)))))) (simb_one (sim_ret (v_tup (z_tuple T) (SimF.rr (simf_comp (ownc := [("one", 1)]) rfl sc_as_tuples.nd (own' := []) (simi_seq (sim_var (pv 0) (by decide))) (blkOk_by (own := [("one", 1)]) (N := n_as_tuples) (sc := defScope st_as_tuples) (by decide +kernel)) (fun _ _ _ _ _ => (simg_name sc_as_tuples.nd rfl (by first | exact .inl rfl | exact .inr rfl))) (fun _ _ _ _ _ => simts_nil) (fun _ _ _ _ _ => (sim_call G hr (by rfl) (sima_cons (sim_var (pv 1) (by decide)) sima_nil)))))))) simb_nil)
    (simb_one (sim_ret (sim_var (pv 0) (by decide)))))
theorem gf_as_tuples (T : Txt K mg) : GF P w K mg base 12 "as_tuples" 1 m_as_tuples := rr_as_tuples T 12
abbrev n_Thin_init : List Str := ["self", "kept", "beaten"]
theorem sc_Thin_init : FnScope n_Thin_init ["self", "kept", "beaten"] (defScope st_Thin_init) := ⟨rfl, rfl, rfl, by decide +kernel, rfl, by decide +kernel, by decide +kernel⟩
theorem gi_Thin (T : Txt K mg) : GI P w K mg base 13 "Thin" 2 m_Thin_init := by
  obtain ⟨fd, F⟩ := fd_Thin_init T
  refine gi_of (b := b_Thin_init) (n := 2) (N := n_Thin_init) F (g_Thin T) (mk_Thin T) sc_Thin_init rfl (by decide) (fun _ _ _ _ _ _ us hl => match us, hl with | [_, _, _], _ => rfl) fun cdv A outer s H E hr => ?_
  exact (simb_cons (own1 := [0]) (sim_fld (by decide) (pv 0) (sim_call (gf_as_tuples T) (hr.mono (by decide)) (by rfl) (sima_cons (sim_var (pv 1) (by decide)) sima_nil)) (ato_kept T))
    (simb_one (sim_fld (by decide) (pv 0) (sim_call (gf_as_tuples T) (hr.mono (by decide)) (by rfl) (sima_cons (sim_var (pv 2) (by decide)) sima_nil)) (ato_beaten T))))
abbrev n__law_bent : List Str := ["pen", "shop", "told", "kept", "beaten", "at", "to", "some", "row", "news", "lap"]
theorem sc__law_bent : FnScope n__law_bent ["pen", "shop", "told"] (defScope st__law_bent) := ⟨rfl, rfl, rfl, by decide +kernel, rfl, by decide +kernel, by decide +kernel⟩
theorem gf__law_bent (T : Txt K mg) : GF P w K mg base 15 "_law_bent" 3 m__law_bent := by
  obtain ⟨fd, F⟩ := fd__law_bent T
  refine gf_of (b := b__law_bent) (n := 3) (N := n__law_bent) F (g__law_bent T) sc__law_bent rfl (by decide) (fun _ _ _ _ _ _ us hl => match us, hl with | [_, _, _], _ => rfl) fun cdv A outer s H E hr => ?_
  exact (simb_cons (own1 := []) (sim_tpar2 rfl sc__law_bent.nd rfl (by first | exact .inl rfl | exact .inr rfl) rfl (by first | exact .inl rfl | exact .inr rfl) (SimE.x (sim_attr (sim_var (pv 2) (by decide)) (ato_kept T))) (SimE.x (sim_attr (sim_var (pv 2) (by decide)) (ato_beaten T))))
    (simb_cons (own1 := []) (sim_tpar2 rfl sc__law_bent.nd rfl (by first | exact .inl rfl | exact .inr rfl) rfl (by first | exact .inl rfl | exact .inr rfl) (SimE.x (sim_call (gf__law_draw T) (hr.mono (by decide)) (by rfl) (sima_cons (sim_var (pv 0) (by decide)) (sima_cons (v_max2 (z_max T) (SimE.r sim_int) (SimE.r (v_len (z_len T) (SimE.r (sim_var (pv 3) (by decide)))))) sima_nil)))) (SimE.x (sim_call (gf__law_draw T) (hr.mono (by decide)) (by rfl) (sima_cons (sim_var (pv 0) (by decide)) (sima_cons (v_max2 (z_max T) (SimE.r sim_int) (SimE.r (v_len (z_len T) (SimE.r (sim_var (pv 4) (by decide)))))) sima_nil)))))
    (simb_cons (own1 := [7]) (sim_setF sc__law_bent.nd rfl (by first | exact .inl rfl | exact .inr rfl) (sim_lst (sima_cons (sim_make (gi_Thin T) (hr.mono (by decide)) (by rfl) (sima_cons (sim_slice (SimE.r (sim_var (pv 3) (by decide))) (sim_part sim_int) sim_noPart) (sima_cons (sim_var (pv 4) (by decide)) sima_nil))) (sima_cons (sim_make (gi_Thin T) (hr.mono (by decide)) (by rfl) (sima_cons (sim_var (pv 3) (by decide)) (sima_cons (sim_slice (SimE.r (sim_var (pv 4) (by decide))) (sim_part sim_int) sim_noPart) sima_nil))) (sima_cons (sim_make (gi_Thin T) (hr.mono (by decide)) (by rfl) (sima_cons (sim_rev (sim_var (pv 3) (by decide))) (sima_cons (sim_var (pv 4) (by decide)) sima_nil))) (sima_cons (sim_make (gi_Thin T) (hr.mono (by decide)) (by rfl) (sima_cons (sim_var (pv 3) (by decide)) (sima_cons (sim_rev (sim_var (pv 4) (by decide))) sima_nil))) (sima_cons (sim_make (gi_Thin T) (hr.mono (by decide)) (by rfl) (sima_cons (v_add (SimE.r (sim_var (pv 3) (by decide))) (SimE.r (sim_slice (SimE.r (sim_var (pv 3) (by decide))) sim_noPart (sim_part sim_int)))) (sima_cons (sim_var (pv 4) (by decide)) sima_nil))) sima_nil)))))) IsL.l)
    (simb_cons (own1 := [7]) (sim_setF sc__law_bent.nd rfl (by first | exact .inl rfl | exact .inr rfl) (f_cat (sim_varR (pv 7)) (SimF.rr (sim_lst (sima_cons (sim_make (gi_Thin T) (hr.mono (by decide)) (by rfl) (sima_cons (sim_var (pv 3) (by decide)) (sima_cons (v_add (SimE.r (sim_var (pv 4) (by decide))) (SimE.r (sim_slice (SimE.r (sim_var (pv 4) (by decide))) sim_noPart (sim_part sim_int)))) sima_nil))) (sima_cons (sim_make (gi_Thin T) (hr.mono (by decide)) (by rfl) (sima_cons sim_non (sima_cons (sim_var (pv 4) (by decide)) sima_nil))) (sima_cons (sim_make (gi_Thin T) (hr.mono (by decide)) (by rfl) (sima_cons (sim_var (pv 3) (by decide)) (sima_cons sim_non sima_nil))) (sima_cons (sim_make (gi_Thin T) (hr.mono (by decide)) (by rfl) (sima_cons (SimF.ee (f_lst (z_list T) (SimE.r (sim_var (pv 3) (by decide))))) (sima_cons (SimF.ee (f_lst (z_list T) (SimE.r (sim_var (pv 4) (by decide))))) sima_nil))) (sima_cons sim_non (sima_cons (sim_tup (sima_cons (sim_var (pv 3) (by decide)) (sima_cons (sim_var (pv 4) (by decide)) sima_nil))) sima_nil))))))))) IsL.l)
    (simb_cons (own1 := [7]) (sim_ifS (sim_cmpT (op_neD hr.units) op2_ne (SimE.r (sim_var (pv 4) (by decide))) (SimE.r (sim_tup sima_nil)) (nomark _)) (simb_cons (own1 := [7]) (sim_set sc__law_bent.nd rfl (by first | exact .inl rfl | exact .inr rfl) (sim_ix (SimE.r (sim_var (pv 4) (by decide))) (SimE.r (sim_var (pv 6) (by decide))) (fun _ _ => rfl)))
    (simb_cons (own1 := [9, 7]) (sim_setF sc__law_bent.nd rfl (by first | exact .inl rfl | exact .inr rfl) (sim_lst (sima_cons (v_add (SimE.r (sim_slice (SimE.r (sim_var (pv 8) (by decide))) sim_noPart (sim_part sim_int))) (SimE.r (sim_tup (sima_cons (v_add (SimE.r (sim_ix (SimE.r (sim_var (pv 8) (by decide))) (SimE.r sim_int) (fun _ _ => rfl))) (SimE.r sim_int)) sima_nil)))) (sima_cons (v_add (SimE.r (sim_slice (SimE.r (sim_var (pv 8) (by decide))) sim_noPart (sim_part sim_int))) (SimE.r (sim_tup (sima_cons (v_len (z_len T) (SimE.r (sim_var (pv 3) (by decide)))) sima_nil)))) (sima_cons (v_add (SimE.r (sim_slice (SimE.r (sim_var (pv 8) (by decide))) sim_noPart (sim_part sim_int))) (SimE.r (sim_tup (sima_cons sim_int sima_nil)))) (sima_cons (v_add (SimE.r (sim_slice (SimE.r (sim_var (pv 8) (by decide))) sim_noPart (sim_part sim_int))) (SimE.r (sim_tup (sima_cons sim_bl sima_nil)))) (sima_cons (sim_slice (SimE.r (sim_var (pv 8) (by decide))) sim_noPart (sim_part sim_int)) (sima_cons sim_non (sima_cons (v_add (SimE.r (sim_slice (SimE.r (sim_var (pv 8) (by decide))) sim_noPart (sim_part sim_int))) (SimE.r (sim_tup (sima_cons (v_neg (SimE.r sim_int)) sima_nil)))) (sima_cons (sim_tup (sima_cons sim_int (sima_cons (v_mul (SimE.r (sim_tup (sima_cons sim_int sima_nil))) (SimE.r (v_len (z_len T) (SimE.r (sim_ix (SimE.r (sim_var (pv 1) (by decide))) (SimE.r sim_int) (fun _ _ => rfl)))))) (sima_cons sim_int sima_nil)))) sima_nil))))))))) IsL.l)
    (simb_cons (own1 := [7]) (sim_pre (own1 := [7]) (sim_setF sc__law_bent.nd rfl (by first | exact .inl rfl | exact .inr rfl) (f_cat (sim_varR (pv 7)) (SimF.rr (simf_comp (ownc := [("lap", 10)]) rfl sc__law_bent.nd (own' := [7]) (simi_range1 (by rfl) (z_range T) (sima_cons sim_int sima_nil)) (blkOk_by (own := [("lap", 10)]) (N := n__law_bent) (sc := defScope st__law_bent) (by decide +kernel)) (fun _ _ _ _ _ => (simg_name sc__law_bent.nd rfl (by first | exact .inl rfl | exact .inr rfl))) (fun _ _ _ _ _ => simts_nil) (fun _ _ _ _ _ => (sim_make (gi_Thin T) (hr.mono (by decide)) (by rfl) (sima_cons (sim_var (pv 3) (by decide)) (sima_cons (v_add (SimE.r (v_add (SimE.r (sim_slice (SimE.r (sim_var (pv 4) (by decide))) sim_noPart (sim_part (sim_var (pv 6) (by decide))))) (SimE.r (sim_tup (sima_cons (sim_call (gf__law_pick T) (hr.mono (by decide)) (by rfl) (sima_cons (sim_var (pv 0) (by decide)) (sima_cons (sim_var (pv 9) (by decide)) sima_nil))) sima_nil))))) (SimE.r (sim_slice (SimE.r (sim_var (pv 4) (by decide))) (sim_part (v_add (SimE.r (sim_var (pv 6) (by decide))) (SimE.r sim_int))) sim_noPart))) sima_nil))))))) IsL.l))
    (simb_one (sim_dropM (simm_1 (by decide) (fun h => pe_bm PySem.F.plainAttrs_list PySem.F.slot_list_append PySem.F.type_list_append mt_append (pv 7) (pa_cons h pa_nil)) opm_append (SimE.m (sim_make (gi_Thin T) (hr.mono (by decide)) (by rfl) (sima_cons (v_tup (z_tuple T) (SimF.rr (f_sortedA hr (z_sorted T) (SimE.r (v_add (SimE.r (sim_var (pv 3) (by decide))) (SimE.r (sim_tup (sima_cons (sim_slice (SimE.r (sim_var (pv 8) (by decide))) sim_noPart (sim_part sim_int)) sima_nil)))))))) (sima_cons (v_add (SimE.r (sim_slice (SimE.r (sim_var (pv 4) (by decide))) sim_noPart (sim_part (sim_var (pv 6) (by decide))))) (SimE.r (sim_slice (SimE.r (sim_var (pv 4) (by decide))) (sim_part (v_add (SimE.r (sim_var (pv 6) (by decide))) (SimE.r sim_int))) sim_noPart))) sima_nil)))))))))) simb_nil)
    (simb_cons (own1 := [7]) (sim_ifS (sim_cmpT (op_neD hr.units) op2_ne (SimE.r (sim_var (pv 3) (by decide))) (SimE.r (sim_tup sima_nil)) (nomark _)) (simb_cons (own1 := [7]) (sim_dropM (simm_1 (by decide) (fun h => pe_bm PySem.F.plainAttrs_list PySem.F.slot_list_append PySem.F.type_list_append mt_append (pv 7) (pa_cons h pa_nil)) opm_append (SimE.m (sim_make (gi_Thin T) (hr.mono (by decide)) (by rfl) (sima_cons (v_add (SimE.r (sim_slice (SimE.r (sim_var (pv 3) (by decide))) sim_noPart (sim_part (sim_var (pv 5) (by decide))))) (SimE.r (sim_slice (SimE.r (sim_var (pv 3) (by decide))) (sim_part (v_add (SimE.r (sim_var (pv 5) (by decide))) (SimE.r sim_int))) sim_noPart))) (sima_cons (v_tup (z_tuple T) (SimF.rr (f_sortedA hr (z_sorted T) (SimE.r (v_add (SimE.r (sim_var (pv 4) (by decide))) (SimE.r (sim_tup (sima_cons (v_add (SimE.r (sim_ix (SimE.r (sim_var (pv 3) (by decide))) (SimE.r (sim_var (pv 5) (by decide))) (fun _ _ => rfl))) (SimE.r (sim_tup (sima_cons sim_int sima_nil)))) sima_nil)))))))) sima_nil))))))
    (simb_one (sim_dropM (simm_1 (by decide) (fun h => pe_bm PySem.F.plainAttrs_list PySem.F.slot_list_append PySem.F.type_list_append mt_append (pv 7) (pa_cons h pa_nil)) opm_append (SimE.m (sim_make (gi_Thin T) (hr.mono (by decide)) (by rfl) (sima_cons (v_add (SimE.r (v_add (SimE.r (sim_slice (SimE.r (sim_var (pv 3) (by decide))) sim_noPart (sim_part (sim_var (pv 5) (by decide))))) (SimE.r (sim_tup (sima_cons (sim_call (gf__law_pick T) (hr.mono (by decide)) (by rfl) (sima_cons (sim_var (pv 0) (by decide)) (sima_cons (SimF.ee (sim_lst (sima_cons sim_non (sima_cons (sim_slice (SimE.r (sim_ix (SimE.r (sim_var (pv 3) (by decide))) (SimE.r (sim_var (pv 5) (by decide))) (fun _ _ => rfl))) sim_noPart (sim_part sim_int)) (sima_cons (sim_tup (sima_cons sim_int (sima_cons (sim_ix (SimE.r (sim_ix (SimE.r (sim_var (pv 3) (by decide))) (SimE.r (sim_var (pv 5) (by decide))) (fun _ _ => rfl))) (SimE.r sim_int) (fun _ _ => rfl)) sima_nil))) (sima_cons (sim_tup (sima_cons (sim_ix (SimE.r (sim_ix (SimE.r (sim_var (pv 3) (by decide))) (SimE.r (sim_var (pv 5) (by decide))) (fun _ _ => rfl))) (SimE.r sim_int) (fun _ _ => rfl)) (sima_cons sim_non sima_nil))) (sima_cons (sim_tup (sima_cons (sim_ix (SimE.r (sim_ix (SimE.r (sim_var (pv 3) (by decide))) (SimE.r (sim_var (pv 5) (by decide))) (fun _ _ => rfl))) (SimE.r sim_int) (fun _ _ => rfl)) (sima_cons (v_mul (SimE.r (sim_tup (sima_cons sim_int sima_nil))) (SimE.r (v_len (z_len T) (SimE.r (sim_ix (SimE.r (sim_var (pv 1) (by decide))) (SimE.r sim_int) (fun _ _ => rfl)))))) sima_nil))) sima_nil))))))) sima_nil))) sima_nil))))) (SimE.r (sim_slice (SimE.r (sim_var (pv 3) (by decide))) (sim_part (v_add (SimE.r (sim_var (pv 5) (by decide))) (SimE.r sim_int))) sim_noPart))) (sima_cons (sim_var (pv 4) (by decide)) sima_nil)))))))) simb_nil)
    (simb_one (sim_pre (own1 := []) (sim_ret (sim_call (gf__law_pick T) (hr.mono (by decide)) (by rfl) (sima_cons (sim_var (pv 0) (by decide)) (sima_cons (sim_var (pv 7) (by decide)) sima_nil))))))))))))
abbrev n__law_changed_shop : List Str := ["pen", "shop", "way", "at", "to", "name", "length", "many", "price", "row", "wanted", "piece"]
theorem sc__law_changed_shop : FnScope n__law_changed_shop ["pen", "shop"] (defScope st__law_changed_shop) := ⟨rfl, rfl, rfl, by decide +kernel, rfl, by decide +kernel, by decide +kernel⟩
theorem gf__law_changed_shop (T : Txt K mg) : GF P w K mg base 2 "_law_changed_shop" 2 m__law_changed_shop := by
  obtain ⟨fd, F⟩ := fd__law_changed_shop T
  refine gf_of (b := b__law_changed_shop) (n := 2) (N := n__law_changed_shop) F (g__law_changed_shop T) sc__law_changed_shop rfl (by decide) (fun _ _ _ _ _ _ us hl => match us, hl with | [_, _], _ => rfl) fun cdv A outer s H E hr => ?_
  exact (simb_cons (own1 := []) (sim_par3 (fun h => ps_par3 rfl sc__law_changed_shop.nd rfl rfl rfl (by decide) (by decide) (by decide) rfl rfl rfl h (by with_unfolding_all rfl)) rfl rfl rfl (SimE.x (sim_call (gf__law_draw T) (hr.mono (by decide)) (by rfl) (sima_cons (sim_var (pv 0) (by decide)) (sima_cons sim_int sima_nil)))) (SimE.x (sim_call (gf__law_draw T) (hr.mono (by decide)) (by rfl) (sima_cons (sim_var (pv 0) (by decide)) (sima_cons (v_len (z_len T) (SimE.r (sim_ix (SimE.r (sim_var (pv 1) (by decide))) (SimE.r sim_int) (fun _ _ => rfl)))) sima_nil)))) (SimE.x (sim_call (gf__law_draw T) (hr.mono (by decide)) (by rfl) (sima_cons (sim_var (pv 0) (by decide)) (sima_cons (v_len (z_len T) (SimE.r (sim_ix (SimE.r (sim_var (pv 1) (by decide))) (SimE.r sim_int) (fun _ _ => rfl)))) sima_nil)))))
    (simb_cons (own1 := []) (sim_asg (sim_ix (SimE.r (sim_ix (SimE.r (sim_var (pv 1) (by decide))) (SimE.r sim_int) (fun _ _ => rfl))) (SimE.r (sim_var (pv 3) (by decide))) (fun _ _ => rfl)) (simg_tup rfl (simgs_cons (simg_name sc__law_changed_shop.nd rfl (by first | exact .inl rfl | exact .inr rfl)) (simgs_cons (simg_name sc__law_changed_shop.nd rfl (by first | exact .inl rfl | exact .inr rfl)) (simgs_cons (simg_name sc__law_changed_shop.nd rfl (by first | exact .inl rfl | exact .inr rfl)) (simgs_cons (simg_name sc__law_changed_shop.nd rfl (by first | exact .inl rfl | exact .inr rfl)) simgs_nil))))))
    (simb_cons (own1 := []) (sim_set sc__law_changed_shop.nd rfl (by first | exact .inl rfl | exact .inr rfl) (sim_ix (SimF.rr (sim_lst (sima_cons (sim_tup (sima_cons (sim_var (pv 5) (by decide)) (sima_cons (v_add (SimE.r (sim_var (pv 6) (by decide))) (SimE.r sim_int)) (sima_cons (sim_var (pv 7) (by decide)) (sima_cons (sim_var (pv 8) (by decide)) sima_nil))))) (sima_cons (sim_tup (sima_cons (sim_var (pv 5) (by decide)) (sima_cons (sim_var (pv 6) (by decide)) (sima_cons (sim_if (sim_cmpT op_isN op2_isN (SimE.r (sim_var (pv 7) (by decide))) (SimE.r sim_non) (nomark _)) sim_int sim_non) (sima_cons (sim_var (pv 8) (by decide)) sima_nil))))) (sima_cons (sim_tup (sima_cons (sim_var (pv 5) (by decide)) (sima_cons (sim_var (pv 6) (by decide)) (sima_cons (sim_var (pv 7) (by decide)) (sima_cons (v_add (SimE.r (sim_var (pv 8) (by decide))) (SimE.r sim_int)) sima_nil))))) sima_nil))))) (SimE.r (v_min2 (z_min T) (SimE.r (sim_var (pv 2) (by decide))) (SimE.r sim_int))) (fun _ _ => rfl)))
    (simb_cons (own1 := []) (sim_ifS (sim_cmpT op_lt (op2_i2 _) (SimE.r (sim_var (pv 2) (by decide))) (SimE.r sim_int) (nomark _)) (simb_one (sim_ret (v_add (SimE.r (sim_tup (sima_cons (v_add (SimE.r (v_add (SimE.r (sim_slice (SimE.r (sim_ix (SimE.r (sim_var (pv 1) (by decide))) (SimE.r sim_int) (fun _ _ => rfl))) sim_noPart (sim_part (sim_var (pv 3) (by decide))))) (SimE.r (sim_tup (sima_cons (sim_var (pv 9) (by decide)) sima_nil))))) (SimE.r (sim_slice (SimE.r (sim_ix (SimE.r (sim_var (pv 1) (by decide))) (SimE.r sim_int) (fun _ _ => rfl))) (sim_part (v_add (SimE.r (sim_var (pv 3) (by decide))) (SimE.r sim_int))) sim_noPart))) sima_nil))) (SimE.r (sim_slice (SimE.r (sim_var (pv 1) (by decide))) (sim_part sim_int) sim_noPart))))) simb_nil)
    (simb_cons (own1 := []) (sim_asg (sim_ix (SimE.r (sim_ix (SimE.r (sim_var (pv 1) (by decide))) (SimE.r sim_int) (fun _ _ => rfl))) (SimE.r (sim_var (pv 4) (by decide))) (fun _ _ => rfl)) (simg_tup rfl (simgs_cons (simg_name sc__law_changed_shop.nd rfl (by first | exact .inl rfl | exact .inr rfl)) (simgs_cons (simg_name sc__law_changed_shop.nd rfl (by first | exact .inl rfl | exact .inr rfl)) (simgs_cons (simg_name sc__law_changed_shop.nd rfl (by first | exact .inl rfl | exact .inr rfl)) simgs_nil)))))
    (simb_cons (own1 := []) (sim_set sc__law_changed_shop.nd rfl (by first | exact .inl rfl | exact .inr rfl) (sim_ix (SimF.rr (sim_lst (sima_cons (sim_tup (sima_cons (sim_var (pv 5) (by decide)) (sima_cons (v_add (SimE.r (sim_var (pv 6) (by decide))) (SimE.r sim_int)) (sima_cons (sim_var (pv 10) (by decide)) sima_nil)))) (sima_cons (sim_tup (sima_cons (sim_var (pv 5) (by decide)) (sima_cons (sim_var (pv 6) (by decide)) (sima_cons (v_add (SimE.r (sim_var (pv 10) (by decide))) (SimE.r sim_int)) sima_nil)))) (sima_cons (sim_tup (sima_cons (sim_var (pv 5) (by decide)) (sima_cons (v_max2 (z_max T) (SimE.r sim_int) (SimE.r (v_sub (SimE.r (sim_var (pv 6) (by decide))) (SimE.r sim_int)))) (sima_cons (sim_var (pv 10) (by decide)) sima_nil)))) sima_nil))))) (SimE.r (v_sub (SimE.r (sim_var (pv 2) (by decide))) (SimE.r sim_int))) (fun _ _ => rfl)))
    (simb_one (sim_ret (sim_tup (sima_cons (sim_ix (SimE.r (sim_var (pv 1) (by decide))) (SimE.r sim_int) (fun _ _ => rfl)) (sima_cons (v_add (SimE.r (v_add (SimE.r (sim_slice (SimE.r (sim_ix (SimE.r (sim_var (pv 1) (by decide))) (SimE.r sim_int) (fun _ _ => rfl))) sim_noPart (sim_part (sim_var (pv 4) (by decide))))) (SimE.r (sim_tup (sima_cons (sim_var (pv 11) (by decide)) sima_nil))))) (SimE.r (sim_slice (SimE.r (sim_ix (SimE.r (sim_var (pv 1) (by decide))) (SimE.r sim_int) (fun _ _ => rfl))) (sim_part (v_add (SimE.r (sim_var (pv 4) (by decide))) (SimE.r sim_int))) sim_noPart))) (sima_cons (sim_ix (SimE.r (sim_var (pv 1) (by decide))) (SimE.r sim_int) (fun _ _ => rfl)) sima_nil))))))))))))
abbrev n__law_name : List Str := ["pen", "letters", "signs", "long", "lap"]
theorem sc__law_name : FnScope n__law_name ["pen"] (defScope st__law_name) := ⟨rfl, rfl, rfl, by decide +kernel, rfl, by decide +kernel, by decide +kernel⟩
theorem gf__law_name (T : Txt K mg) : GF P w K mg base 3 "_law_name" 1 m__law_name := by
  obtain ⟨fd, F⟩ := fd__law_name T
  refine gf_of (b := b__law_name) (n := 1) (N := n__law_name) F (g__law_name T) sc__law_name rfl (by decide) (fun _ _ _ _ _ _ us hl => match us, hl with | [_], _ => rfl) fun cdv A outer s H E hr => ?_
  exact (simb_cons (own1 := []) (sim_tpar2 rfl sc__law_name.nd rfl (by first | exact .inl rfl | exact .inr rfl) rfl (by first | exact .inl rfl | exact .inr rfl) (SimE.x sim_str) (SimE.x sim_str))
    (simb_cons (own1 := []) (sim_set sc__law_name.nd rfl (by first | exact .inl rfl | exact .inr rfl) (sim_ix (SimF.rr (sim_lst (sima_cons sim_int (sima_cons sim_int (sima_cons sim_int (sima_cons sim_int (sima_cons sim_int (sima_cons sim_int sima_nil)))))))) (SimE.r (sim_call (gf__law_draw T) (hr.mono (by decide)) (by rfl) (sima_cons (sim_var (pv 0) (by decide)) (sima_cons sim_int sima_nil)))) (fun _ _ => rfl)))
    (simb_one (sim_ret (v_add (SimE.r (sim_call (gf__law_pick T) (hr.mono (by decide)) (by rfl) (sima_cons (sim_var (pv 0) (by decide)) (sima_cons (sim_var (pv 1) (by decide)) sima_nil)))) (SimE.r (v_join (SimE.r sim_str) (SimF.rr (simf_comp (ownc := [("lap", 4)]) rfl sc__law_name.nd (own' := []) (simi_range1 (by rfl) (z_range T) (sima_cons (sim_var (pv 3) (by decide)) sima_nil)) (blkOk_by (own := [("lap", 4)]) (N := n__law_name) (sc := defScope st__law_name) (by decide +kernel)) (fun _ _ _ _ _ => (simg_name sc__law_name.nd rfl (by first | exact .inl rfl | exact .inr rfl))) (fun _ _ _ _ _ => simts_nil) (fun _ _ _ _ _ => (sim_call (gf__law_pick T) (hr.mono (by decide)) (by rfl) (sima_cons (sim_var (pv 0) (by decide)) (sima_cons (sim_var (pv 2) (by decide)) sima_nil)))))))))))))
abbrev n__law_names : List Str := ["pen", "many", "found", "lap", "name"]
theorem sc__law_names : FnScope n__law_names ["pen", "many"] (defScope st__law_names) := ⟨rfl, rfl, rfl, by decide +kernel, rfl, by decide +kernel, by decide +kernel⟩
theorem gf__law_names (T : Txt K mg) : GF P w K mg base 4 "_law_names" 2 m__law_names := by
  obtain ⟨fd, F⟩ := fd__law_names T
  refine gf_of (b := b__law_names) (n := 2) (N := n__law_names) F (g__law_names T) sc__law_names rfl (by decide) (fun _ _ _ _ _ _ us hl => match us, hl with | [_, _], _ => rfl) fun cdv A outer s H E hr => ?_
  exact (simb_cons (own1 := [2]) (sim_setF sc__law_names.nd rfl (by first | exact .inl rfl | exact .inr rfl) (sim_lst sima_nil) IsL.l)
    (simb_cons (own1 := [2]) (sim_for (ownT := [2]) PassesOwn.never rfl (simi_range1 (by rfl) (z_range T) (sima_cons (sim_var (pv 1) (by decide)) sima_nil)) (simg_name sc__law_names.nd rfl (by first | exact .inl rfl | exact .inr rfl)) (simb_cons (own1 := [2]) (sim_set sc__law_names.nd rfl (by first | exact .inl rfl | exact .inr rfl) (sim_call (gf__law_name T) (hr.mono (by decide)) (by rfl) (sima_cons (sim_var (pv 0) (by decide)) sima_nil)))
    (simb_cons (own1 := [2]) (sim_ifS (sim_cmpT (opr_inA hr) (op2_inA _ op2_in) (SimE.r (sim_var (pv 4) (by decide))) (sim_varR (pv 2)) (by rfl)) (simb_one (sim_set sc__law_names.nd rfl (by first | exact .inl rfl | exact .inr rfl) (v_add (SimE.r (v_add (SimE.r sim_str) (SimE.r (v_str (z_str T) (SimE.r (sim_var (pv 3) (by decide))))))) (SimE.r sim_str)))) simb_nil)
    (simb_cons (own1 := [2]) (sim_while PassesOwn.never (sim_cmpT (opr_inA hr) (op2_inA _ op2_in) (SimE.r (sim_var (pv 4) (by decide))) (sim_varR (pv 2)) (by rfl)) (simb_one (sim_set sc__law_names.nd rfl (by first | exact .inl rfl | exact .inr rfl) (v_add (SimE.r (sim_var (pv 4) (by decide))) (SimE.r sim_str)))))
    (simb_one (sim_dropM (simm_1 (by decide) (fun h => pe_bm PySem.F.plainAttrs_list PySem.F.slot_list_append PySem.F.type_list_append mt_append (pv 2) (pa_cons h pa_nil)) opm_append (SimE.m (sim_var (pv 4) (by decide))))))))))
    (simb_one (sim_ret (v_tup (z_tuple T) (sim_varR (pv 2)))))))
abbrev n__law_few_shop : List Str := ["pen", "stocks", "pieces", "names", "kerf", "bars", "some", "at"]
theorem sc__law_few_shop : FnScope n__law_few_shop ["pen", "stocks", "pieces"] (defScope st__law_few_shop) := ⟨rfl, rfl, rfl, by decide +kernel, rfl, by decide +kernel, by decide +kernel⟩
theorem gf__law_few_shop (T : Txt K mg) : GF P w K mg base 5 "_law_few_shop" 3 m__law_few_shop := by
  obtain ⟨fd, F⟩ := fd__law_few_shop T
  refine gf_of (b := b__law_few_shop) (n := 3) (N := n__law_few_shop) F (g__law_few_shop T) sc__law_few_shop rfl (by decide) (fun _ _ _ _ _ _ us hl => match us, hl with | [_, _, _], _ => rfl) fun cdv A outer s H E hr => ?_
  exact (simb_cons (own1 := []) (sim_tpar2 rfl sc__law_few_shop.nd rfl (by first | exact .inl rfl | exact .inr rfl) rfl (by first | exact .inl rfl | exact .inr rfl) (SimE.x (sim_call (gf__law_names T) (hr.mono (by decide)) (by rfl) (sima_cons (sim_var (pv 0) (by decide)) (sima_cons (v_add (SimE.r (sim_var (pv 1) (by decide))) (SimE.r (sim_var (pv 2) (by decide)))) sima_nil)))) (SimE.x (sim_call (gf__law_pick T) (hr.mono (by decide)) (by rfl) (sima_cons (sim_var (pv 0) (by decide)) (sima_cons (SimF.ee (sim_lst (sima_cons sim_int (sima_cons sim_int (sima_cons sim_int (sima_cons sim_int sima_nil)))))) sima_nil)))))
    (simb_cons (own1 := [5]) (sim_setLc (own' := []) (ownc := [("at", 7)]) rfl sc__law_few_shop.nd rfl rfl (sw_true rfl rfl rfl (by decide +kernel)) (simi_range1 (by rfl) (z_range T) (sima_cons (v_add (SimE.r sim_int) (SimE.r (sim_call (gf__law_draw T) (hr.mono (by decide)) (by rfl) (sima_cons (sim_var (pv 0) (by decide)) (sima_cons (sim_var (pv 1) (by decide)) sima_nil))))) sima_nil)) (blkOk_by (own := [("at", 7)]) (N := n__law_few_shop) (sc := defScope st__law_few_shop) (by decide +kernel)) (fun _ _ _ _ _ => (simg_name sc__law_few_shop.nd rfl (by first | exact .inl rfl | exact .inr rfl))) (fun _ _ _ _ _ => simts_nil) (fun _ _ _ _ _ => (sim_tup (sima_cons (sim_ix (SimE.r (sim_var (pv 3) (by decide))) (SimE.r (sim_var (pv 7) (by decide))) (fun _ _ => rfl)) (sima_cons (v_add (SimE.r sim_int) (SimE.r (sim_call (gf__law_draw T) (hr.mono (by decide)) (by rfl) (sima_cons (sim_var (pv 0) (by decide)) (sima_cons sim_int sima_nil))))) (sima_cons (sim_call (gf__law_pick T) (hr.mono (by decide)) (by rfl) (sima_cons (sim_var (pv 0) (by decide)) (sima_cons (SimF.ee (sim_lst (sima_cons sim_non (sima_cons (sim_call (gf__law_draw T) (hr.mono (by decide)) (by rfl) (sima_cons (sim_var (pv 0) (by decide)) (sima_cons sim_int sima_nil))) sima_nil)))) sima_nil))) (sima_cons (sim_call (gf__law_draw T) (hr.mono (by decide)) (by rfl) (sima_cons (sim_var (pv 0) (by decide)) (sima_cons sim_int sima_nil))) sima_nil)))))))
    (simb_cons (own1 := [6, 5]) (sim_setLc (own' := [5]) (ownc := [("at", 7)]) rfl sc__law_few_shop.nd rfl rfl (sw_true rfl rfl rfl (by decide +kernel)) (simi_range1 (by rfl) (z_range T) (sima_cons (v_add (SimE.r sim_int) (SimE.r (sim_call (gf__law_draw T) (hr.mono (by decide)) (by rfl) (sima_cons (sim_var (pv 0) (by decide)) (sima_cons (sim_var (pv 2) (by decide)) sima_nil))))) sima_nil)) (blkOk_by (own := [("at", 7)]) (N := n__law_few_shop) (sc := defScope st__law_few_shop) (by decide +kernel)) (fun _ _ _ _ _ => (simg_name sc__law_few_shop.nd rfl (by first | exact .inl rfl | exact .inr rfl))) (fun _ _ _ _ _ => simts_nil) (fun _ _ _ _ _ => (sim_tup (sima_cons (sim_ix (SimE.r (sim_var (pv 3) (by decide))) (SimE.r (v_add (SimE.r (sim_var (pv 1) (by decide))) (SimE.r (sim_var (pv 7) (by decide))))) (fun _ _ => rfl)) (sima_cons (v_add (SimE.r sim_int) (SimE.r (sim_call (gf__law_draw T) (hr.mono (by decide)) (by rfl) (sima_cons (sim_var (pv 0) (by decide)) (sima_cons sim_int sima_nil))))) (sima_cons (sim_call (gf__law_draw T) (hr.mono (by decide)) (by rfl) (sima_cons (sim_var (pv 0) (by decide)) (sima_cons sim_int sima_nil))) sima_nil))))))
    (simb_one (sim_ret (sim_tup (sima_cons (v_tup (z_tuple T) (sim_varR (pv 5))) (sima_cons (v_tup (z_tuple T) (sim_varR (pv 6))) (sima_cons (sim_var (pv 4) (by decide)) sima_nil)))))))))
abbrev n__law_is : List Str := ["told", "due", "at"]
theorem sc__law_is : FnScope n__law_is ["told", "due"] (defScope st__law_is) := ⟨rfl, rfl, rfl, by decide +kernel, rfl, by decide +kernel, by decide +kernel⟩
theorem rr__law_is (T : Txt K mg) : ∀ n : Nat, GF P w K mg base (0 + n) "_law_is" 2 (r__law_is n)
  | 0 => by
    obtain ⟨fd, F⟩ := fd__law_is T
    exact gf_bad F (g__law_is T) sc__law_is rfl (fun _ _ _ _ _ _ us hl => match us, hl with | [_, _], _ => rfl)
  | n + 1 => by
    have G : GF P w K mg base (0 + n) "_law_is" 2 (r__law_is n) := rr__law_is T n
    obtain ⟨fd, F⟩ := fd__law_is T
    refine gf_of (b := b__law_is (r__law_is n)) (n := 2) (N := n__law_is) F (g__law_is T) sc__law_is rfl (by decide) (fun _ _ _ _ _ _ us hl => match us, hl with | [_, _], _ => rfl) fun cdv A outer s H E hr => ?_
    exact (simb_cons (own1 := []) (sim_ifS (sim_truth (SimE.r (sim_isi (n := "tuple") (by rfl) (z_isinstance T) (by rfl) (z_tuple T) boot_tuple (by decide) (SimE.r (sim_var (pv 1) (by decide)))))) (simb_cons (own1 := []) (sim_ifS (SimW.t (sim_orW (sim_notT (sim_truth (SimE.r (sim_isi (n := "tuple") (by rfl) (z_isinstance T) (by rfl) (z_tuple T) boot_tuple (by decide) (SimE.r (sim_var (pv 0) (by decide))))))) (sim_or1 (sim_cmpT (op_neD hr.units) op2_ne (SimE.r (v_len (z_len T) (SimE.r (sim_var (pv 0) (by decide))))) (SimE.r (v_len (z_len T) (SimE.r (sim_var (pv 1) (by decide))))) (nomark _))))) (simb_one (sim_ret sim_bl)) simb_nil)
    (simb_one (sim_ret (sim_cmp (op_eqD hr.units) op2_eq (SimF.rr (simf_comp (ownc := [("at", 2)]) rfl sc__law_is.nd (own' := []) (simi_range1 (by rfl) (z_range T) (sima_cons (v_len (z_len T) (SimE.r (sim_var (pv 1) (by decide)))) sima_nil)) (blkOk_by (own := [("at", 2)]) (N := n__law_is) (sc := defScope st__law_is) (by decide +kernel)) (fun _ _ _ _ _ => (simg_name sc__law_is.nd rfl (by first | exact .inl rfl | exact .inr rfl))) (fun _ _ _ _ _ => (simts_one (sim_notT (sim_truth (SimE.r (sim_call G hr (by rfl) (sima_cons (sim_ix (SimE.r (sim_var (pv 0) (by decide))) (SimE.r (sim_var (pv 2) (by decide))) (fun _ _ => rfl)) (sima_cons (sim_ix (SimE.r (sim_var (pv 1) (by decide))) (SimE.r (sim_var (pv 2) (by decide))) (fun _ _ => rfl)) sima_nil)))))))) (fun _ _ _ _ _ => (sim_var (pv 2) (by decide))))) (SimF.rr (sim_lst sima_nil)) (nomark _))))) simb_nil)
    (simb_cons (own1 := []) (sim_ifS (sim_cmpT op_isN op2_isN (SimE.r (sim_var (pv 1) (by decide))) (SimE.r sim_non) (nomark _)) (simb_one (sim_ret (sim_cmp op_isN op2_isN (SimE.r (sim_var (pv 0) (by decide))) (SimE.r sim_non) (nomark _)))) simb_nil)
    (simb_cons (own1 := []) (sim_ifS (sim_cmpT op_isBX op2_isBX (SimE.r (sim_var (pv 1) (by decide))) (SimE.r sim_bl) (nomark _)) (simb_one (sim_ret (sim_cmp op_isBX op2_isBX (SimE.r (sim_var (pv 0) (by decide))) (SimE.r sim_bl) (nomark _)))) simb_nil)
    (simb_cons (own1 := []) (sim_ifS (sim_cmpT op_isBX op2_isBX (SimE.r (sim_var (pv 1) (by decide))) (SimE.r sim_bl) (nomark _)) (simb_one (sim_ret (sim_cmp op_isBX op2_isBX (SimE.r (sim_var (pv 0) (by decide))) (SimE.r sim_bl) (nomark _)))) simb_nil)
    (simb_cons (own1 := []) (sim_ifS (sim_truth (SimE.r (sim_isi (n := "str") (by rfl) (z_isinstance T) (by rfl) (z_str T) boot_str (by decide) (SimE.r (sim_var (pv 1) (by decide)))))) (simb_one (sim_ret (sim_andV (sim_isi (n := "str") (by rfl) (z_isinstance T) (by rfl) (z_str T) boot_str (by decide) (SimE.r (sim_var (pv 0) (by decide)))) (sim_one (sim_cmp (op_eqD hr.units) op2_eq (SimE.r (sim_var (pv 0) (by decide))) (SimE.r (sim_var (pv 1) (by decide))) (nomark _)))))) simb_nil)
    (simb_one (sim_ret (sim_andV (sim_isi (n := "int") (by rfl) (z_isinstance T) (by rfl) (z_int T) boot_int (by decide) (SimE.r (sim_var (pv 0) (by decide)))) (sim_andV (sim_notV (SimE.r (sim_isi (n := "bool") (by rfl) (z_isinstance T) (by rfl) (z_bool T) boot_bool (by decide) (SimE.r (sim_var (pv 0) (by decide)))))) (sim_one (sim_cmp (op_eqD hr.units) op2_eq (SimE.r (sim_var (pv 0) (by decide))) (SimE.r (sim_var (pv 1) (by decide))) (nomark _))))))))))))
theorem gf__law_is (T : Txt K mg) : GF P w K mg base 12 "_law_is" 2 m__law_is := rr__law_is T 12
abbrev n_is_whole : List Str := ["value"]
theorem sc_is_whole : FnScope n_is_whole ["value"] (defScope st_is_whole) := ⟨rfl, rfl, rfl, by decide +kernel, rfl, by decide +kernel, by decide +kernel⟩
theorem gf_is_whole (T : Txt K mg) : GF P w K mg base 1 "is_whole" 1 m_is_whole := by
  obtain ⟨fd, F⟩ := fd_is_whole T
  refine gf_of (b := b_is_whole) (n := 1) (N := n_is_whole) F (g_is_whole T) sc_is_whole rfl (by decide) (fun _ _ _ _ _ _ us hl => match us, hl with | [_], _ => rfl) fun cdv A outer s H E hr => ?_
  exact (simb_one (sim_ret (sim_andV (sim_isi (n := "int") (by rfl) (z_isinstance T) (by rfl) (z_int T) boot_int (by decide) (SimE.r (sim_var (pv 0) (by decide)))) (sim_one (sim_notV (SimE.r (sim_isi (n := "bool") (by rfl) (z_isinstance T) (by rfl) (z_bool T) boot_bool (by decide) (SimE.r (sim_var (pv 0) (by decide))))))))))
abbrev n_is_number : List Str := ["value"]
theorem sc_is_number : FnScope n_is_number ["value"] (defScope st_is_number) := ⟨rfl, rfl, rfl, by decide +kernel, rfl, by decide +kernel, by decide +kernel⟩
theorem gf_is_number (T : Txt K mg) : GF P w K mg base 2 "is_number" 1 m_is_number := by
  obtain ⟨fd, F⟩ := fd_is_number T
  refine gf_of (b := b_is_number) (n := 1) (N := n_is_number) F (g_is_number T) sc_is_number rfl (by decide) (fun _ _ _ _ _ _ us hl => match us, hl with | [_], _ => rfl) fun cdv A outer s H E hr => ?_
  exact (simb_one (sim_ret (sim_andV (sim_call (gf_is_whole T) (hr.mono (by decide)) (by rfl) (sima_cons (sim_var (pv 0) (by decide)) sima_nil)) (sim_one (sim_cmp op_ge (op2_i2 _) (SimE.r (sim_var (pv 0) (by decide))) (SimE.r sim_int) (nomark _))))))
abbrev n_is_length : List Str := ["value"]
theorem sc_is_length : FnScope n_is_length ["value"] (defScope st_is_length) := ⟨rfl, rfl, rfl, by decide +kernel, rfl, by decide +kernel, by decide +kernel⟩
theorem gf_is_length (T : Txt K mg) : GF P w K mg base 2 "is_length" 1 m_is_length := by
  obtain ⟨fd, F⟩ := fd_is_length T
  refine gf_of (b := b_is_length) (n := 1) (N := n_is_length) F (g_is_length T) sc_is_length rfl (by decide) (fun _ _ _ _ _ _ us hl => match us, hl with | [_], _ => rfl) fun cdv A outer s H E hr => ?_
  exact (simb_one (sim_ret (sim_andV (sim_call (gf_is_whole T) (hr.mono (by decide)) (by rfl) (sima_cons (sim_var (pv 0) (by decide)) sima_nil)) (sim_one (sim_cmp op_ge (op2_i2 _) (SimE.r (sim_var (pv 0) (by decide))) (SimE.r sim_int) (nomark _))))))
abbrev n_need_length : List Str := ["length"]
theorem sc_need_length : FnScope n_need_length ["length"] (defScope st_need_length) := ⟨rfl, rfl, rfl, by decide +kernel, rfl, by decide +kernel, by decide +kernel⟩
theorem gf_need_length (T : Txt K mg) : GF P w K mg base 3 "need_length" 1 m_need_length := by
  obtain ⟨fd, F⟩ := fd_need_length T
  refine gf_of (b := b_need_length) (n := 1) (N := n_need_length) F (g_need_length T) sc_need_length rfl (by decide) (fun _ _ _ _ _ _ us hl => match us, hl with | [_], _ => rfl) fun cdv A outer s H E hr => ?_
  exact (simb_one (sim_ifS (sim_notT (sim_truth (SimE.r (sim_call (gf_is_length T) (hr.mono (by decide)) (by rfl) (sima_cons (sim_var (pv 0) (by decide)) sima_nil))))) (simb_one sim_never) simb_nil))
abbrev n_is_name : List Str := ["value", "sign"]
theorem sc_is_name : FnScope n_is_name ["value"] (defScope st_is_name) := ⟨rfl, rfl, rfl, by decide +kernel, rfl, by decide +kernel, by decide +kernel⟩
theorem gf_is_name (T : Txt K mg) : GF P w K mg base 1 "is_name" 1 m_is_name := by
  obtain ⟨fd, F⟩ := fd_is_name T
  refine gf_of (b := b_is_name) (n := 1) (N := n_is_name) F (g_is_name T) sc_is_name rfl (by decide) (fun _ _ _ _ _ _ us hl => match us, hl with | [_], _ => rfl) fun cdv A outer s H E hr => ?_
  exact (simb_cons (own1 := []) (sim_ifS (SimW.t (sim_orW (sim_notT (sim_truth (SimE.r (sim_isi (n := "str") (by rfl) (z_isinstance T) (by rfl) (z_str T) boot_str (by decide) (SimE.r (sim_var (pv 0) (by decide))))))) (sim_orW (sim_notT (sim_chainT op_le op_le (op2_i2 _) (op2_i2 _) (SimE.r sim_int) (SimE.r (v_len (z_len T) (SimE.r (sim_var (pv 0) (by decide))))) (SimE.r sim_int))) (sim_or1 (sim_cmpT (opr_notInA hr) (op2_notInA _ op2_notIn) (SimE.r (sim_ix (SimE.r (sim_var (pv 0) (by decide))) (SimE.r sim_int) (fun _ _ => rfl))) (SimE.r (sim_gstr (by rfl) (z_LETTERS T))) (by rfl)))))) (simb_one (sim_ret sim_bl)) simb_nil)
    (simb_one (sim_ret (v_all (z_all T) (SimF.rr (simf_comp (ownc := [("sign", 1)]) rfl sc_is_name.nd (own' := []) (simi_seq (sim_var (pv 0) (by decide))) (blkOk_by (own := [("sign", 1)]) (N := n_is_name) (sc := defScope st_is_name) (by decide +kernel)) (fun _ _ _ _ _ => (simg_name sc_is_name.nd rfl (by first | exact .inl rfl | exact .inr rfl))) (fun _ _ _ _ _ => simts_nil) (fun _ _ _ _ _ => (sim_cmp (opr_inA hr) (op2_inA _ op2_in) (SimE.r (sim_var (pv 1) (by decide))) (SimE.r (sim_gstr (by rfl) (z_SIGNS T))) (by rfl)))))))))
abbrev n_need_new_name : List Str := ["name", "ahead"]
theorem sc_need_new_name : FnScope n_need_new_name ["name", "ahead"] (defScope st_need_new_name) := ⟨rfl, rfl, rfl, by decide +kernel, rfl, by decide +kernel, by decide +kernel⟩
theorem gf_need_new_name (T : Txt K mg) : GF P w K mg base 2 "need_new_name" 2 m_need_new_name := by
  obtain ⟨fd, F⟩ := fd_need_new_name T
  refine gf_of (b := b_need_new_name) (n := 2) (N := n_need_new_name) F (g_need_new_name T) sc_need_new_name rfl (by decide) (fun _ _ _ _ _ _ us hl => match us, hl with | [_, _], _ => rfl) fun cdv A outer s H E hr => ?_
  exact (simb_cons (own1 := []) (sim_ifS (sim_notT (sim_truth (SimE.r (sim_call (gf_is_name T) (hr.mono (by decide)) (by rfl) (sima_cons (sim_var (pv 0) (by decide)) sima_nil))))) (simb_one sim_never) simb_nil)
    (simb_one (sim_ifS (sim_cmpT (opr_inA hr) (op2_inA _ op2_in) (SimE.r (sim_var (pv 0) (by decide))) (SimE.r (sim_var (pv 1) (by decide))) (by rfl)) (simb_one sim_never) simb_nil)))
abbrev n_need_pieces : List Str := ["pieces", "ahead", "row", "name", "length", "wanted"]
theorem sc_need_pieces : FnScope n_need_pieces ["pieces"] (defScope st_need_pieces) := ⟨rfl, rfl, rfl, by decide +kernel, rfl, by decide +kernel, by decide +kernel⟩
theorem gf_need_pieces (T : Txt K mg) : GF P w K mg base 4 "need_pieces" 1 m_need_pieces := by
  obtain ⟨fd, F⟩ := fd_need_pieces T
  refine gf_of (b := b_need_pieces) (n := 1) (N := n_need_pieces) F (g_need_pieces T) sc_need_pieces rfl (by decide) (fun _ _ _ _ _ _ us hl => match us, hl with | [_], _ => rfl) fun cdv A outer s H E hr => ?_
  exact (simb_cons (own1 := []) (sim_ifS (SimW.t (sim_orW (sim_notT (sim_truth (SimE.r (sim_isi2 (n := "list") (n2 := "tuple") (by rfl) (z_isinstance T) (by rfl) (z_list T) boot_list (by decide) (by rfl) (z_tuple T) boot_tuple (by decide) (SimE.r (sim_var (pv 0) (by decide))))))) (sim_or1 (sim_notT (sim_chainT op_le op_le (op2_i2 _) (op2_i2 _) (SimE.r sim_int) (SimE.r (v_len (z_len T) (SimE.r (sim_var (pv 0) (by decide))))) (SimE.r (sim_gint (by rfl) (z_MOST_PIECES T)))))))) (simb_one sim_never) simb_nil)
    (simb_cons (own1 := [1]) (sim_setF sc_need_pieces.nd rfl (by first | exact .inl rfl | exact .inr rfl) (sim_lst sima_nil) IsL.l)
    (simb_post (own1 := [1]) (simb_one (sim_for (ownT := [1]) PassesOwn.never rfl (simi_seq (sim_var (pv 0) (by decide))) (simg_name sc_need_pieces.nd rfl (by first | exact .inl rfl | exact .inr rfl)) (simb_cons (own1 := [1]) (sim_ifS (SimW.t (sim_orW (sim_notT (sim_truth (SimE.r (sim_isi (n := "tuple") (by rfl) (z_isinstance T) (by rfl) (z_tuple T) boot_tuple (by decide) (SimE.r (sim_var (pv 2) (by decide))))))) (sim_or1 (sim_cmpT (op_neD hr.units) op2_ne (SimE.r (v_len (z_len T) (SimE.r (sim_var (pv 2) (by decide))))) (SimE.r (v_add (SimE.r (sim_gint (by rfl) (z_MANY_AT T))) (SimE.r sim_int))) (nomark _))))) (simb_one sim_never) simb_nil)
    (simb_cons (own1 := [1]) (sim_asg (sim_var (pv 2) (by decide)) (simg_tup rfl (simgs_cons (simg_name sc_need_pieces.nd rfl (by first | exact .inl rfl | exact .inr rfl)) (simgs_cons (simg_name sc_need_pieces.nd rfl (by first | exact .inl rfl | exact .inr rfl)) (simgs_cons (simg_name sc_need_pieces.nd rfl (by first | exact .inl rfl | exact .inr rfl)) simgs_nil)))))
    (simb_cons (own1 := [1]) (sim_expr (sim_callL (gf_need_new_name T) (hr.mono (by decide)) (by rfl) (simr_cons (SimE.r (sim_var (pv 3) (by decide))) (simr_cons (sim_varR (pv 1)) simr_nil))))
    (simb_cons (own1 := [1]) (sim_expr (sim_call (gf_need_length T) (hr.mono (by decide)) (by rfl) (sima_cons (sim_var (pv 4) (by decide)) sima_nil)))
    (simb_cons (own1 := [1]) (sim_ifS (sim_notT (sim_truth (SimE.r (sim_call (gf_is_number T) (hr.mono (by decide)) (by rfl) (sima_cons (sim_var (pv 5) (by decide)) sima_nil))))) (simb_one sim_never) simb_nil)
    (simb_one (sim_dropM (simm_1 (by decide) (fun h => pe_bm PySem.F.plainAttrs_list PySem.F.slot_list_append PySem.F.type_list_append mt_append (pv 1) (pa_cons h pa_nil)) opm_append (SimE.m (sim_var (pv 3) (by decide))))))))))))))))
abbrev n_need_stocks : List Str := ["stocks", "ahead", "row", "name", "length", "many", "price"]
theorem sc_need_stocks : FnScope n_need_stocks ["stocks"] (defScope st_need_stocks) := ⟨rfl, rfl, rfl, by decide +kernel, rfl, by decide +kernel, by decide +kernel⟩
theorem gf_need_stocks (T : Txt K mg) : GF P w K mg base 4 "need_stocks" 1 m_need_stocks := by
  obtain ⟨fd, F⟩ := fd_need_stocks T
  refine gf_of (b := b_need_stocks) (n := 1) (N := n_need_stocks) F (g_need_stocks T) sc_need_stocks rfl (by decide) (fun _ _ _ _ _ _ us hl => match us, hl with | [_], _ => rfl) fun cdv A outer s H E hr => ?_
  exact (simb_cons (own1 := []) (sim_ifS (SimW.t (sim_orW (sim_notT (sim_truth (SimE.r (sim_isi2 (n := "list") (n2 := "tuple") (by rfl) (z_isinstance T) (by rfl) (z_list T) boot_list (by decide) (by rfl) (z_tuple T) boot_tuple (by decide) (SimE.r (sim_var (pv 0) (by decide))))))) (sim_or1 (sim_notT (sim_chainT op_le op_le (op2_i2 _) (op2_i2 _) (SimE.r sim_int) (SimE.r (v_len (z_len T) (SimE.r (sim_var (pv 0) (by decide))))) (SimE.r (sim_gint (by rfl) (z_MOST_STOCKS T)))))))) (simb_one sim_never) simb_nil)
    (simb_cons (own1 := [1]) (sim_setF sc_need_stocks.nd rfl (by first | exact .inl rfl | exact .inr rfl) (sim_lst sima_nil) IsL.l)
    (simb_post (own1 := [1]) (simb_one (sim_for (ownT := [1]) PassesOwn.never rfl (simi_seq (sim_var (pv 0) (by decide))) (simg_name sc_need_stocks.nd rfl (by first | exact .inl rfl | exact .inr rfl)) (simb_cons (own1 := [1]) (sim_ifS (SimW.t (sim_orW (sim_notT (sim_truth (SimE.r (sim_isi (n := "tuple") (by rfl) (z_isinstance T) (by rfl) (z_tuple T) boot_tuple (by decide) (SimE.r (sim_var (pv 2) (by decide))))))) (sim_or1 (sim_cmpT (op_neD hr.units) op2_ne (SimE.r (v_len (z_len T) (SimE.r (sim_var (pv 2) (by decide))))) (SimE.r (v_add (SimE.r (sim_gint (by rfl) (z_PRICE_AT T))) (SimE.r sim_int))) (nomark _))))) (simb_one sim_never) simb_nil)
    (simb_cons (own1 := [1]) (sim_asg (sim_var (pv 2) (by decide)) (simg_tup rfl (simgs_cons (simg_name sc_need_stocks.nd rfl (by first | exact .inl rfl | exact .inr rfl)) (simgs_cons (simg_name sc_need_stocks.nd rfl (by first | exact .inl rfl | exact .inr rfl)) (simgs_cons (simg_name sc_need_stocks.nd rfl (by first | exact .inl rfl | exact .inr rfl)) (simgs_cons (simg_name sc_need_stocks.nd rfl (by first | exact .inl rfl | exact .inr rfl)) simgs_nil))))))
    (simb_cons (own1 := [1]) (sim_expr (sim_callL (gf_need_new_name T) (hr.mono (by decide)) (by rfl) (simr_cons (SimE.r (sim_var (pv 3) (by decide))) (simr_cons (sim_varR (pv 1)) simr_nil))))
    (simb_cons (own1 := [1]) (sim_expr (sim_call (gf_need_length T) (hr.mono (by decide)) (by rfl) (sima_cons (sim_var (pv 4) (by decide)) sima_nil)))
    (simb_cons (own1 := [1]) (sim_ifS (SimW.t (sim_andW (sim_cmpT op_notN op2_notN (SimE.r (sim_var (pv 5) (by decide))) (SimE.r sim_non) (nomark _)) (sim_and1 (sim_notT (sim_truth (SimE.r (sim_call (gf_is_number T) (hr.mono (by decide)) (by rfl) (sima_cons (sim_var (pv 5) (by decide)) sima_nil)))))))) (simb_one sim_never) simb_nil)
    (simb_cons (own1 := [1]) (sim_ifS (sim_notT (sim_truth (SimE.r (sim_call (gf_is_number T) (hr.mono (by decide)) (by rfl) (sima_cons (sim_var (pv 6) (by decide)) sima_nil))))) (simb_one sim_never) simb_nil)
    (simb_one (sim_dropM (simm_1 (by decide) (fun h => pe_bm PySem.F.plainAttrs_list PySem.F.slot_list_append PySem.F.type_list_append mt_append (pv 1) (pa_cons h pa_nil)) opm_append (SimE.m (sim_var (pv 3) (by decide)))))))))))))))))
abbrev n_Shop_init : List Str := ["self", "stocks", "pieces", "kerf"]
theorem sc_Shop_init : FnScope n_Shop_init ["self", "stocks", "pieces", "kerf"] (defScope st_Shop_init) := ⟨rfl, rfl, rfl, by decide +kernel, rfl, by decide +kernel, by decide +kernel⟩
theorem gi_Shop (T : Txt K mg) : GI P w K mg base 5 "Shop" 3 m_Shop_init := by
  obtain ⟨fd, F⟩ := fd_Shop_init T
  refine gi_of (b := b_Shop_init) (n := 3) (N := n_Shop_init) F (g_Shop T) (mk_Shop T) sc_Shop_init rfl (by decide) (fun _ _ _ _ _ _ us hl => match us, hl with | [_, _, _, _], _ => rfl) fun cdv A outer s H E hr => ?_
  exact (simb_cons (own1 := [0]) (sim_expr (sim_call (gf_need_stocks T) (hr.mono (by decide)) (by rfl) (sima_cons (sim_var (pv 1) (by decide)) sima_nil)))
    (simb_cons (own1 := [0]) (sim_expr (sim_call (gf_need_pieces T) (hr.mono (by decide)) (by rfl) (sima_cons (sim_var (pv 2) (by decide)) sima_nil)))
    (simb_cons (own1 := [0]) (sim_ifS (sim_notT (sim_truth (SimE.r (sim_call (gf_is_number T) (hr.mono (by decide)) (by rfl) (sima_cons (sim_var (pv 3) (by decide)) sima_nil))))) (simb_one sim_never) simb_nil)
    (simb_cons (own1 := [0]) (sim_fld (by decide) (pv 0) (v_tup (z_tuple T) (SimE.r (sim_var (pv 1) (by decide)))) (ato_stocks T))
    (simb_cons (own1 := [0]) (sim_fld (by decide) (pv 0) (v_tup (z_tuple T) (SimE.r (sim_var (pv 2) (by decide)))) (ato_pieces T))
    (simb_one (sim_fld (by decide) (pv 0) (sim_var (pv 3) (by decide)) (ato_kerf T))))))))
abbrev n__law_made : List Str := ["shop"]
theorem sc__law_made : FnScope n__law_made ["shop"] (defScope st__law_made) := ⟨rfl, rfl, rfl, by decide +kernel, rfl, by decide +kernel, by decide +kernel⟩
theorem gf__law_made (T : Txt K mg) : GF P w K mg base 7 "_law_made" 1 m__law_made := by
  obtain ⟨fd, F⟩ := fd__law_made T
  refine gf_of (b := b__law_made) (n := 1) (N := n__law_made) F (g__law_made T) sc__law_made rfl (by decide) (fun _ _ _ _ _ _ us hl => match us, hl with | [_], _ => rfl) fun cdv A outer s H E hr => ?_
  exact (simb_one (sim_ret (sim_make (gi_Shop T) (hr.mono (by decide)) (by rfl) (sima_cons (sim_ix (SimE.r (sim_var (pv 0) (by decide))) (SimE.r sim_int) (fun _ _ => rfl)) (sima_cons (sim_ix (SimE.r (sim_var (pv 0) (by decide))) (SimE.r sim_int) (fun _ _ => rfl)) (sima_cons (sim_ix (SimE.r (sim_var (pv 0) (by decide))) (SimE.r sim_int) (fun _ _ => rfl)) sima_nil))))))
abbrev n__law_pen : List Str := ["script", "fold", "cell"]
theorem sc__law_pen : FnScope n__law_pen ["script"] (defScope st__law_pen) := ⟨rfl, rfl, rfl, by decide +kernel, rfl, by decide +kernel, by decide +kernel⟩
theorem gf__law_pen (T : Txt K mg) : GF P w K mg base 1 "_law_pen" 1 m__law_pen := by
  obtain ⟨fd, F⟩ := fd__law_pen T
  refine gf_of (b := b__law_pen) (n := 1) (N := n__law_pen) F (g__law_pen T) sc__law_pen rfl (by decide) (fun _ _ _ _ _ _ us hl => match us, hl with | [_], _ => rfl) fun cdv A outer s H E hr => ?_
  exact (simb_cons (own1 := []) (sim_set sc__law_pen.nd rfl (by first | exact .inl rfl | exact .inr rfl) sim_int)
    (simb_cons (own1 := []) (sim_for (ownT := []) PassesOwn.never rfl (simi_seq (sim_var (pv 0) (by decide))) (simg_name sc__law_pen.nd rfl (by first | exact .inl rfl | exact .inr rfl)) (simb_one (sim_set sc__law_pen.nd rfl (by first | exact .inl rfl | exact .inr rfl) (v_mod (SimE.r (v_int (z_int T) (SimE.r (v_add (SimE.r (v_mul (SimE.r (sim_var (pv 1) (by decide))) (SimE.r sim_int))) (SimE.r (sim_var (pv 2) (by decide))))))) (SimE.r sim_int)))))
    (simb_one (sim_ret (sim_dict (simd_cons (SimF.ee (f_lst (z_list T) (SimE.r (sim_var (pv 0) (by decide))))) (simd_cons sim_int (simd_cons sim_int (simd_cons sim_int (simd_cons (sim_var (pv 1) (by decide)) simd_nil))))))))))
abbrev n__law_beats : List Str := ["shop", "other", "give", "mine", "theirs", "at"]
theorem sc__law_beats : FnScope n__law_beats ["shop", "other", "give"] (defScope st__law_beats) := ⟨rfl, rfl, rfl, by decide +kernel, rfl, by decide +kernel, by decide +kernel⟩
theorem gf__law_beats (T : Txt K mg) : GF P w K mg base 1 "_law_beats" 3 m__law_beats := by
  obtain ⟨fd, F⟩ := fd__law_beats T
  refine gf_of (b := b__law_beats) (n := 3) (N := n__law_beats) F (g__law_beats T) sc__law_beats rfl (by decide) (fun _ _ _ _ _ _ us hl => match us, hl with | [_, _, _], _ => rfl) fun cdv A outer s H E hr => ?_
  exact (simb_cons (own1 := []) (sim_par2 (fun h => ps_par rfl sc__law_beats.nd rfl rfl (by decide) rfl rfl h (by with_unfolding_all rfl)) rfl rfl (SimE.x (sim_ix (SimE.r (sim_ix (SimE.r (sim_var (pv 0) (by decide))) (SimE.r sim_int) (fun _ _ => rfl))) (SimE.r (sim_ix (SimE.r (sim_var (pv 1) (by decide))) (SimE.r sim_int) (fun _ _ => rfl))) (fun _ _ => rfl))) (SimE.x (sim_ix (SimE.r (sim_ix (SimE.r (sim_var (pv 0) (by decide))) (SimE.r sim_int) (fun _ _ => rfl))) (SimE.r (sim_ix (SimE.r (sim_var (pv 2) (by decide))) (SimE.r sim_int) (fun _ _ => rfl))) (fun _ _ => rfl))))
    (simb_cons (own1 := []) (sim_ifS (SimW.t (sim_orW (SimW.t (sim_andW (sim_cmpT (op_neD hr.units) op2_ne (SimE.r (sim_ix (SimE.r (sim_var (pv 1) (by decide))) (SimE.r sim_int) (fun _ _ => rfl))) (SimE.r (sim_ix (SimE.r (sim_var (pv 2) (by decide))) (SimE.r sim_int) (fun _ _ => rfl))) (nomark _)) (sim_and1 (sim_cmpT op_notN op2_notN (SimE.r (sim_ix (SimE.r (sim_var (pv 3) (by decide))) (SimE.r sim_int) (fun _ _ => rfl))) (SimE.r sim_non) (nomark _))))) (sim_or1 (sim_cmpT (opr_gtA hr) (op2_cmpA _ _) (SimE.r (sim_ix (SimE.r (sim_var (pv 3) (by decide))) (SimE.r sim_int) (fun _ _ => rfl))) (SimE.r (sim_ix (SimE.r (sim_var (pv 4) (by decide))) (SimE.r sim_int) (fun _ _ => rfl))) (nomark _))))) (simb_one (sim_ret sim_bl)) simb_nil)
    (simb_cons (own1 := []) (sim_ifS (sim_cmpT (op_neD hr.units) op2_ne (SimF.rr (simf_comp (ownc := [("at", 5)]) rfl sc__law_beats.nd (own' := []) (simi_range1 (by rfl) (z_range T) (sima_cons (v_len (z_len T) (SimE.r (sim_ix (SimE.r (sim_var (pv 0) (by decide))) (SimE.r sim_int) (fun _ _ => rfl)))) sima_nil)) (blkOk_by (own := [("at", 5)]) (N := n__law_beats) (sc := defScope st__law_beats) (by decide +kernel)) (fun _ _ _ _ _ => (simg_name sc__law_beats.nd rfl (by first | exact .inl rfl | exact .inr rfl))) (fun _ _ _ _ _ => (simts_one (sim_cmpT (opr_ltA hr) (op2_cmpA _ _) (SimE.r (sim_ix (SimE.r (sim_ix (SimE.r (sim_var (pv 1) (by decide))) (SimE.r sim_int) (fun _ _ => rfl))) (SimE.r (sim_var (pv 5) (by decide))) (fun _ _ => rfl))) (SimE.r (sim_ix (SimE.r (sim_ix (SimE.r (sim_var (pv 2) (by decide))) (SimE.r sim_int) (fun _ _ => rfl))) (SimE.r (sim_var (pv 5) (by decide))) (fun _ _ => rfl))) (nomark _)))) (fun _ _ _ _ _ => (sim_var (pv 5) (by decide))))) (SimF.rr (sim_lst sima_nil)) (nomark _)) (simb_one (sim_ret sim_bl)) simb_nil)
    (simb_one (sim_ret (sim_orV (sim_cmp op_gt (op2_i2 _) (SimE.r (v_sumA (z_sum T) (SimE.r (sim_ix (SimE.r (sim_var (pv 1) (by decide))) (SimE.r sim_int) (fun _ _ => rfl))))) (SimE.r (v_sumA (z_sum T) (SimE.r (sim_ix (SimE.r (sim_var (pv 2) (by decide))) (SimE.r sim_int) (fun _ _ => rfl))))) (nomark _)) (sim_orV (sim_cmp (opr_ltA hr) (op2_cmpA _ _) (SimE.r (sim_ix (SimE.r (sim_var (pv 3) (by decide))) (SimE.r sim_int) (fun _ _ => rfl))) (SimE.r (sim_ix (SimE.r (sim_var (pv 4) (by decide))) (SimE.r sim_int) (fun _ _ => rfl))) (nomark _)) (sim_one (sim_cmp (opr_ltA hr) (op2_cmpA _ _) (SimE.r (sim_ix (SimE.r (sim_var (pv 1) (by decide))) (SimE.r sim_int) (fun _ _ => rfl))) (SimE.r (sim_ix (SimE.r (sim_var (pv 2) (by decide))) (SimE.r sim_int) (fun _ _ => rfl))) (nomark _))))))))))
abbrev n__law_cut : List Str := ["shop", "left", "piece"]
theorem sc__law_cut : FnScope n__law_cut ["shop", "left", "piece"] (defScope st__law_cut) := ⟨rfl, rfl, rfl, by decide +kernel, rfl, by decide +kernel, by decide +kernel⟩
theorem gf__law_cut (T : Txt K mg) : GF P w K mg base 1 "_law_cut" 3 m__law_cut := by
  obtain ⟨fd, F⟩ := fd__law_cut T
  refine gf_of (b := b__law_cut) (n := 3) (N := n__law_cut) F (g__law_cut T) sc__law_cut rfl (by decide) (fun _ _ _ _ _ _ us hl => match us, hl with | [_, _, _], _ => rfl) fun cdv A outer s H E hr => ?_
  exact (simb_cons (own1 := []) (sim_set sc__law_cut.nd rfl (by first | exact .inl rfl | exact .inr rfl) (v_sub (SimE.r (sim_var (pv 1) (by decide))) (SimE.r (sim_ix (SimE.r (sim_ix (SimE.r (sim_ix (SimE.r (sim_var (pv 0) (by decide))) (SimE.r sim_int) (fun _ _ => rfl))) (SimE.r (sim_var (pv 2) (by decide))) (fun _ _ => rfl))) (SimE.r sim_int) (fun _ _ => rfl)))))
    (simb_cons (own1 := []) (sim_ifS (sim_cmpT op_lt (op2_i2 _) (SimE.r (sim_var (pv 1) (by decide))) (SimE.r sim_int) (nomark _)) (simb_one (sim_ret sim_non)) simb_nil)
    (simb_one (sim_ret (v_sub (SimE.r (sim_var (pv 1) (by decide))) (SimE.r (v_min2 (z_min T) (SimE.r (sim_var (pv 1) (by decide))) (SimE.r (sim_ix (SimE.r (sim_var (pv 0) (by decide))) (SimE.r sim_int) (fun _ _ => rfl))))))))))
abbrev n__law_patterns : List Str := ["shop", "length", "rows", "piece", "longer", "row", "left", "number"]
theorem sc__law_patterns : FnScope n__law_patterns ["shop", "length"] (defScope st__law_patterns) := ⟨rfl, rfl, rfl, by decide +kernel, rfl, by decide +kernel, by decide +kernel⟩
theorem gf__law_patterns (T : Txt K mg) : GF P w K mg base 2 "_law_patterns" 2 m__law_patterns := by
  obtain ⟨fd, F⟩ := fd__law_patterns T
  refine gf_of (b := b__law_patterns) (n := 2) (N := n__law_patterns) F (g__law_patterns T) sc__law_patterns rfl (by decide) (fun _ _ _ _ _ _ us hl => match us, hl with | [_, _], _ => rfl) fun cdv A outer s H E hr => ?_
  exact (simb_cons (own1 := [2]) (sim_setF sc__law_patterns.nd rfl (by first | exact .inl rfl | exact .inr rfl) (sim_lst (sima_cons (sim_tup (sima_cons (sim_tup sima_nil) (sima_cons (sim_var (pv 1) (by decide)) sima_nil))) sima_nil)) IsL.l)
    (simb_cons (own1 := []) (sim_pre (own1 := []) (sim_for (ownT := []) PassesOwn.never rfl (simi_range1 (by rfl) (z_range T) (sima_cons (v_len (z_len T) (SimE.r (sim_ix (SimE.r (sim_var (pv 0) (by decide))) (SimE.r sim_int) (fun _ _ => rfl)))) sima_nil)) (simg_name sc__law_patterns.nd rfl (by first | exact .inl rfl | exact .inr rfl)) (simb_cons (own1 := [4]) (sim_setF sc__law_patterns.nd rfl (by first | exact .inl rfl | exact .inr rfl) (sim_lst sima_nil) IsL.l)
    (simb_cons (own1 := [4]) (sim_for (ownT := [4]) PassesOwn.never rfl (simi_seq (sim_var (pv 2) (by decide))) (simg_tup rfl (simgs_cons (simg_name sc__law_patterns.nd rfl (by first | exact .inl rfl | exact .inr rfl)) (simgs_cons (simg_name sc__law_patterns.nd rfl (by first | exact .inl rfl | exact .inr rfl)) simgs_nil))) (simb_cons (own1 := [4]) (sim_set sc__law_patterns.nd rfl (by first | exact .inl rfl | exact .inr rfl) sim_int)
    (simb_one (sim_while PassesOwn.never (sim_cmpT op_notN op2_notN (SimE.r (sim_var (pv 6) (by decide))) (SimE.r sim_non) (nomark _)) (simb_cons (own1 := [4]) (sim_dropM (simm_1 (by decide) (fun h => pe_bm PySem.F.plainAttrs_list PySem.F.slot_list_append PySem.F.type_list_append mt_append (pv 4) (pa_cons h pa_nil)) opm_append (SimE.m (sim_tup (sima_cons (v_add (SimE.r (sim_var (pv 5) (by decide))) (SimE.r (sim_tup (sima_cons (sim_var (pv 7) (by decide)) sima_nil)))) (sima_cons (sim_var (pv 6) (by decide)) sima_nil))))))
    (simb_one (sim_par2 (fun h => ps_par rfl sc__law_patterns.nd rfl rfl (by decide) rfl rfl h (by with_unfolding_all rfl)) rfl rfl (SimE.x (sim_call (gf__law_cut T) (hr.mono (by decide)) (by rfl) (sima_cons (sim_var (pv 0) (by decide)) (sima_cons (sim_var (pv 6) (by decide)) (sima_cons (sim_var (pv 3) (by decide)) sima_nil))))) (SimE.x (v_add (SimE.r (sim_var (pv 7) (by decide))) (SimE.r sim_int))))))))))
    (simb_one (sim_pre (own1 := []) (sim_set sc__law_patterns.nd rfl (by first | exact .inl rfl | exact .inr rfl) (sim_var (pv 4) (by decide)))))))))
    (simb_one (sim_ret (SimF.ee (simf_comp (ownc := [("row", 5), ("left", 6)]) rfl sc__law_patterns.nd (own' := []) (simi_seq (sim_var (pv 2) (by decide))) (blkOk_by (own := [("row", 5), ("left", 6)]) (N := n__law_patterns) (sc := defScope st__law_patterns) (by decide +kernel)) (fun _ _ _ _ _ => (simg_tup rfl (simgs_cons (simg_name sc__law_patterns.nd rfl (by first | exact .inl rfl | exact .inr rfl)) (simgs_cons (simg_name sc__law_patterns.nd rfl (by first | exact .inl rfl | exact .inr rfl)) simgs_nil)))) (fun _ _ _ _ _ => simts_nil) (fun _ _ _ _ _ => (sim_var (pv 5) (by decide)))))))))
abbrev n__law_gives_of : List Str := ["shop", "found", "stock", "row"]
theorem sc__law_gives_of : FnScope n__law_gives_of ["shop"] (defScope st__law_gives_of) := ⟨rfl, rfl, rfl, by decide +kernel, rfl, by decide +kernel, by decide +kernel⟩
theorem gf__law_gives_of (T : Txt K mg) : GF P w K mg base 3 "_law_gives_of" 1 m__law_gives_of := by
  obtain ⟨fd, F⟩ := fd__law_gives_of T
  refine gf_of (b := b__law_gives_of) (n := 1) (N := n__law_gives_of) F (g__law_gives_of T) sc__law_gives_of rfl (by decide) (fun _ _ _ _ _ _ us hl => match us, hl with | [_], _ => rfl) fun cdv A outer s H E hr => ?_
  exact (simb_cons (own1 := [1]) (sim_setF sc__law_gives_of.nd rfl (by first | exact .inl rfl | exact .inr rfl) (sim_lst sima_nil) IsL.l)
    (simb_cons (own1 := [1]) (sim_for (ownT := [1]) PassesOwn.never rfl (simi_range1 (by rfl) (z_range T) (sima_cons (v_len (z_len T) (SimE.r (sim_ix (SimE.r (sim_var (pv 0) (by decide))) (SimE.r sim_int) (fun _ _ => rfl)))) sima_nil)) (simg_name sc__law_gives_of.nd rfl (by first | exact .inl rfl | exact .inr rfl)) (simb_one (sim_dropM (simm_1 (by decide) (fun h => pe_bm PySem.F.plainAttrs_list PySem.F.slot_list_extend PySem.F.type_list_extend mt_extend (pv 1) (pa_cons h pa_nil)) opm_extend (SimE.m (SimF.ee (simf_comp (ownc := [("row", 3)]) rfl sc__law_gives_of.nd (own' := [1]) (simi_seq (sim_call (gf__law_patterns T) (hr.mono (by decide)) (by rfl) (sima_cons (sim_var (pv 0) (by decide)) (sima_cons (sim_ix (SimE.r (sim_ix (SimE.r (sim_ix (SimE.r (sim_var (pv 0) (by decide))) (SimE.r sim_int) (fun _ _ => rfl))) (SimE.r (sim_var (pv 2) (by decide))) (fun _ _ => rfl))) (SimE.r sim_int) (fun _ _ => rfl)) sima_nil)))) (blkOk_by (own := [("row", 3)]) (N := n__law_gives_of) (sc := defScope st__law_gives_of) (by decide +kernel)) (fun _ _ _ _ _ => (simg_name sc__law_gives_of.nd rfl (by first | exact .inl rfl | exact .inr rfl))) (fun _ _ _ _ _ => (simts_one (sim_cmpT op_gt (op2_i2 _) (SimE.r (v_sumA (z_sum T) (SimE.r (sim_var (pv 3) (by decide))))) (SimE.r sim_int) (nomark _)))) (fun _ _ _ _ _ => (sim_tup (sima_cons (sim_var (pv 2) (by decide)) (sima_cons (sim_var (pv 3) (by decide)) sima_nil)))))))))))
    (simb_one (sim_pre (own1 := []) (sim_ret (sim_var (pv 1) (by decide)))))))
abbrev n__law_size : List Str := ["shop", "pattern", "number", "row"]
theorem sc__law_size : FnScope n__law_size ["shop", "pattern"] (defScope st__law_size) := ⟨rfl, rfl, rfl, by decide +kernel, rfl, by decide +kernel, by decide +kernel⟩
theorem gf__law_size (T : Txt K mg) : GF P w K mg base 1 "_law_size" 2 m__law_size := by
  obtain ⟨fd, F⟩ := fd__law_size T
  refine gf_of (b := b__law_size) (n := 2) (N := n__law_size) F (g__law_size T) sc__law_size rfl (by decide) (fun _ _ _ _ _ _ us hl => match us, hl with | [_, _], _ => rfl) fun cdv A outer s H E hr => ?_
  exact (simb_one (sim_ret (v_sumA (z_sum T) (SimF.rr (simf_comp (ownc := [("number", 2), ("row", 3)]) rfl sc__law_size.nd (own' := []) (simi_zip (fun h => RZ.pi_zipA (by rfl) (z_zip T) h) (sim_var (pv 1) (by decide)) (sim_ix (SimE.r (sim_var (pv 0) (by decide))) (SimE.r sim_int) (fun _ _ => rfl))) (blkOk_by (own := [("number", 2), ("row", 3)]) (N := n__law_size) (sc := defScope st__law_size) (by decide +kernel)) (fun _ _ _ _ _ => (simg_tup rfl (simgs_cons (simg_name sc__law_size.nd rfl (by first | exact .inl rfl | exact .inr rfl)) (simgs_cons (simg_name sc__law_size.nd rfl (by first | exact .inl rfl | exact .inr rfl)) simgs_nil)))) (fun _ _ _ _ _ => simts_nil) (fun _ _ _ _ _ => (v_mul (SimE.r (sim_var (pv 2) (by decide))) (SimE.r (v_add (SimE.r (sim_ix (SimE.r (sim_var (pv 3) (by decide))) (SimE.r sim_int) (fun _ _ => rfl))) (SimE.r (sim_ix (SimE.r (sim_var (pv 0) (by decide))) (SimE.r sim_int) (fun _ _ => rfl))))))))))))
abbrev n__law_gives : List Str := ["shop", "length", "pattern"]
theorem sc__law_gives : FnScope n__law_gives ["shop", "length", "pattern"] (defScope st__law_gives) := ⟨rfl, rfl, rfl, by decide +kernel, rfl, by decide +kernel, by decide +kernel⟩
theorem gf__law_gives (T : Txt K mg) : GF P w K mg base 2 "_law_gives" 3 m__law_gives := by
  obtain ⟨fd, F⟩ := fd__law_gives T
  refine gf_of (b := b__law_gives) (n := 3) (N := n__law_gives) F (g__law_gives T) sc__law_gives rfl (by decide) (fun _ _ _ _ _ _ us hl => match us, hl with | [_, _, _], _ => rfl) fun cdv A outer s H E hr => ?_
  exact (simb_one (sim_ret (sim_orV (sim_cmp (op_eqD hr.units) op2_eq (SimE.r (v_sumA (z_sum T) (SimE.r (sim_var (pv 2) (by decide))))) (SimE.r sim_int) (nomark _)) (sim_one (sim_cmp op_le (op2_i2 _) (SimE.r (sim_call (gf__law_size T) (hr.mono (by decide)) (by rfl) (sima_cons (sim_var (pv 0) (by decide)) (sima_cons (sim_var (pv 2) (by decide)) sima_nil)))) (SimE.r (v_add (SimE.r (sim_var (pv 1) (by decide))) (SimE.r (sim_ix (SimE.r (sim_var (pv 0) (by decide))) (SimE.r sim_int) (fun _ _ => rfl))))) (nomark _))))))
abbrev n__law_whole : List Str := ["value"]
theorem sc__law_whole : FnScope n__law_whole ["value"] (defScope st__law_whole) := ⟨rfl, rfl, rfl, by decide +kernel, rfl, by decide +kernel, by decide +kernel⟩
theorem gf__law_whole (T : Txt K mg) : GF P w K mg base 1 "_law_whole" 1 m__law_whole := by
  obtain ⟨fd, F⟩ := fd__law_whole T
  refine gf_of (b := b__law_whole) (n := 1) (N := n__law_whole) F (g__law_whole T) sc__law_whole rfl (by decide) (fun _ _ _ _ _ _ us hl => match us, hl with | [_], _ => rfl) fun cdv A outer s H E hr => ?_
  exact (simb_one (sim_ret (sim_andV (sim_isi (n := "int") (by rfl) (z_isinstance T) (by rfl) (z_int T) boot_int (by decide) (SimE.r (sim_var (pv 0) (by decide)))) (sim_one (sim_notV (SimE.r (sim_isi (n := "bool") (by rfl) (z_isinstance T) (by rfl) (z_bool T) boot_bool (by decide) (SimE.r (sim_var (pv 0) (by decide))))))))))
abbrev n__law_is_numbers : List Str := ["value", "many", "one"]
theorem sc__law_is_numbers : FnScope n__law_is_numbers ["value", "many"] (defScope st__law_is_numbers) := ⟨rfl, rfl, rfl, by decide +kernel, rfl, by decide +kernel, by decide +kernel⟩
theorem gf__law_is_numbers (T : Txt K mg) : GF P w K mg base 2 "_law_is_numbers" 2 m__law_is_numbers := by
  obtain ⟨fd, F⟩ := fd__law_is_numbers T
  refine gf_of (b := b__law_is_numbers) (n := 2) (N := n__law_is_numbers) F (g__law_is_numbers T) sc__law_is_numbers rfl (by decide) (fun _ _ _ _ _ _ us hl => match us, hl with | [_, _], _ => rfl) fun cdv A outer s H E hr => ?_
  exact (simb_one (sim_ret (sim_andV (sim_isi (n := "tuple") (by rfl) (z_isinstance T) (by rfl) (z_tuple T) boot_tuple (by decide) (SimE.r (sim_var (pv 0) (by decide)))) (sim_andV (sim_cmp (op_eqD hr.units) op2_eq (SimE.r (v_len (z_len T) (SimE.r (sim_var (pv 0) (by decide))))) (SimE.r (sim_var (pv 1) (by decide))) (nomark _)) (sim_one (sim_cmp (op_eqD hr.units) op2_eq (SimF.rr (simf_comp (ownc := [("one", 2)]) rfl sc__law_is_numbers.nd (own' := []) (simi_seq (sim_var (pv 0) (by decide))) (blkOk_by (own := [("one", 2)]) (N := n__law_is_numbers) (sc := defScope st__law_is_numbers) (by decide +kernel)) (fun _ _ _ _ _ => (simg_name sc__law_is_numbers.nd rfl (by first | exact .inl rfl | exact .inr rfl))) (fun _ _ _ _ _ => (simts_one (SimW.t (sim_orW (sim_notT (sim_truth (SimE.r (sim_call (gf__law_whole T) (hr.mono (by decide)) (by rfl) (sima_cons (sim_var (pv 2) (by decide)) sima_nil))))) (sim_or1 (sim_cmpT op_lt (op2_i2 _) (SimE.r (sim_var (pv 2) (by decide))) (SimE.r sim_int) (nomark _))))))) (fun _ _ _ _ _ => (sim_var (pv 2) (by decide))))) (SimF.rr (sim_lst sima_nil)) (nomark _)))))))
abbrev n__law_is_give : List Str := ["shop", "value"]
theorem sc__law_is_give : FnScope n__law_is_give ["shop", "value"] (defScope st__law_is_give) := ⟨rfl, rfl, rfl, by decide +kernel, rfl, by decide +kernel, by decide +kernel⟩
theorem gf__law_is_give (T : Txt K mg) : GF P w K mg base 3 "_law_is_give" 2 m__law_is_give := by
  obtain ⟨fd, F⟩ := fd__law_is_give T
  refine gf_of (b := b__law_is_give) (n := 2) (N := n__law_is_give) F (g__law_is_give T) sc__law_is_give rfl (by decide) (fun _ _ _ _ _ _ us hl => match us, hl with | [_, _], _ => rfl) fun cdv A outer s H E hr => ?_
  exact (simb_cons (own1 := []) (sim_ifS (SimW.t (sim_orW (sim_notT (sim_truth (SimE.r (sim_isi (n := "tuple") (by rfl) (z_isinstance T) (by rfl) (z_tuple T) boot_tuple (by decide) (SimE.r (sim_var (pv 1) (by decide))))))) (sim_orW (sim_cmpT (op_neD hr.units) op2_ne (SimE.r (v_len (z_len T) (SimE.r (sim_var (pv 1) (by decide))))) (SimE.r sim_int) (nomark _)) (sim_orW (sim_notT (sim_truth (SimE.r (sim_call (gf__law_whole T) (hr.mono (by decide)) (by rfl) (sima_cons (sim_ix (SimE.r (sim_var (pv 1) (by decide))) (SimE.r sim_int) (fun _ _ => rfl)) sima_nil))))) (sim_or1 (sim_notT (sim_chainT op_le op_lt (op2_i2 _) (op2_i2 _) (SimE.r sim_int) (SimE.r (sim_ix (SimE.r (sim_var (pv 1) (by decide))) (SimE.r sim_int) (fun _ _ => rfl))) (SimE.r (v_len (z_len T) (SimE.r (sim_ix (SimE.r (sim_var (pv 0) (by decide))) (SimE.r sim_int) (fun _ _ => rfl)))))))))))) (simb_one (sim_ret sim_bl)) simb_nil)
    (simb_one (sim_ret (sim_andV (sim_call (gf__law_is_numbers T) (hr.mono (by decide)) (by rfl) (sima_cons (sim_ix (SimE.r (sim_var (pv 1) (by decide))) (SimE.r sim_int) (fun _ _ => rfl)) (sima_cons (v_len (z_len T) (SimE.r (sim_ix (SimE.r (sim_var (pv 0) (by decide))) (SimE.r sim_int) (fun _ _ => rfl)))) sima_nil))) (sim_andV (sim_cmp op_gt (op2_i2 _) (SimE.r (v_sumA (z_sum T) (SimE.r (sim_ix (SimE.r (sim_var (pv 1) (by decide))) (SimE.r sim_int) (fun _ _ => rfl))))) (SimE.r sim_int) (nomark _)) (sim_one (sim_call (gf__law_gives T) (hr.mono (by decide)) (by rfl) (sima_cons (sim_var (pv 0) (by decide)) (sima_cons (sim_ix (SimE.r (sim_ix (SimE.r (sim_ix (SimE.r (sim_var (pv 0) (by decide))) (SimE.r sim_int) (fun _ _ => rfl))) (SimE.r (sim_ix (SimE.r (sim_var (pv 1) (by decide))) (SimE.r sim_int) (fun _ _ => rfl))) (fun _ _ => rfl))) (SimE.r sim_int) (fun _ _ => rfl)) (sima_cons (sim_ix (SimE.r (sim_var (pv 1) (by decide))) (SimE.r sim_int) (fun _ _ => rfl)) sima_nil))))))))))
abbrev n__law_thin_right : List Str := ["shop", "told", "row", "rows", "give", "at", "other"]
theorem sc__law_thin_right : FnScope n__law_thin_right ["shop", "told"] (defScope st__law_thin_right) := ⟨rfl, rfl, rfl, by decide +kernel, rfl, by decide +kernel, by decide +kernel⟩
theorem gf__law_thin_right (T : Txt K mg) : GF P w K mg base 4 "_law_thin_right" 2 m__law_thin_right := by
  obtain ⟨fd, F⟩ := fd__law_thin_right T
  refine gf_of (b := b__law_thin_right) (n := 2) (N := n__law_thin_right) F (g__law_thin_right T) sc__law_thin_right rfl (by decide) (fun _ _ _ _ _ _ us hl => match us, hl with | [_, _], _ => rfl) fun cdv A outer s H E hr => ?_
  exact (simb_cons (own1 := []) (sim_ifS (SimW.t (sim_orW (sim_notT (sim_truth (SimE.r (sim_isC (clsok T) (by decide +kernel) (by rfl) (z_isinstance T) (by rfl) (sim_var (pv 1) (by decide)))))) (sim_orW (sim_notT (sim_truth (SimE.r (sim_isi (n := "tuple") (by rfl) (z_isinstance T) (by rfl) (z_tuple T) boot_tuple (by decide) (SimE.r (sim_attr (sim_var (pv 1) (by decide)) (ato_kept T))))))) (sim_or1 (sim_notT (sim_truth (SimE.r (sim_isi (n := "tuple") (by rfl) (z_isinstance T) (by rfl) (z_tuple T) boot_tuple (by decide) (SimE.r (sim_attr (sim_var (pv 1) (by decide)) (ato_beaten T))))))))))) (simb_one (sim_ret sim_bl)) simb_nil)
    (simb_cons (own1 := []) (sim_ifS (SimW.t (sim_orW (sim_cmpT (op_neD hr.units) op2_ne (SimF.rr (simf_comp (ownc := [("give", 4)]) rfl sc__law_thin_right.nd (own' := []) (simi_seq (sim_attr (sim_var (pv 1) (by decide)) (ato_kept T))) (blkOk_by (own := [("give", 4)]) (N := n__law_thin_right) (sc := defScope st__law_thin_right) (by decide +kernel)) (fun _ _ _ _ _ => (simg_name sc__law_thin_right.nd rfl (by first | exact .inl rfl | exact .inr rfl))) (fun _ _ _ _ _ => (simts_one (sim_notT (sim_truth (SimE.r (sim_call (gf__law_is_give T) (hr.mono (by decide)) (by rfl) (sima_cons (sim_var (pv 0) (by decide)) (sima_cons (sim_var (pv 4) (by decide)) sima_nil)))))))) (fun _ _ _ _ _ => (sim_var (pv 4) (by decide))))) (SimF.rr (sim_lst sima_nil)) (nomark _)) (sim_or1 (sim_cmpT (op_neD hr.units) op2_ne (SimF.rr (simf_comp (ownc := [("at", 5)]) rfl sc__law_thin_right.nd (own' := []) (simi_range2 (by rfl) (z_range T) (sima_cons sim_int (sima_cons (v_len (z_len T) (SimE.r (sim_attr (sim_var (pv 1) (by decide)) (ato_kept T)))) sima_nil))) (blkOk_by (own := [("at", 5)]) (N := n__law_thin_right) (sc := defScope st__law_thin_right) (by decide +kernel)) (fun _ _ _ _ _ => (simg_name sc__law_thin_right.nd rfl (by first | exact .inl rfl | exact .inr rfl))) (fun _ _ _ _ _ => (simts_one (sim_cmpT (opr_geA hr) (op2_cmpA _ _) (SimE.r (sim_ix (SimE.r (sim_attr (sim_var (pv 1) (by decide)) (ato_kept T))) (SimE.r (v_sub (SimE.r (sim_var (pv 5) (by decide))) (SimE.r sim_int))) (fun _ _ => rfl))) (SimE.r (sim_ix (SimE.r (sim_attr (sim_var (pv 1) (by decide)) (ato_kept T))) (SimE.r (sim_var (pv 5) (by decide))) (fun _ _ => rfl))) (nomark _)))) (fun _ _ _ _ _ => (sim_var (pv 5) (by decide))))) (SimF.rr (sim_lst sima_nil)) (nomark _))))) (simb_one (sim_ret sim_bl)) simb_nil)
    (simb_cons (own1 := []) (sim_ifS (sim_cmpT (op_neD hr.units) op2_ne (SimF.rr (simf_comp (ownc := [("give", 4)]) rfl sc__law_thin_right.nd (own' := []) (simi_seq (sim_attr (sim_var (pv 1) (by decide)) (ato_kept T))) (blkOk_by (own := [("give", 4)]) (N := n__law_thin_right) (sc := defScope st__law_thin_right) (by decide +kernel)) (fun _ _ _ _ _ => (simg_name sc__law_thin_right.nd rfl (by first | exact .inl rfl | exact .inr rfl))) (fun _ _ _ _ _ => (simts_one (sim_cmpT (op_neD hr.units) op2_ne (SimF.rr (simf_comp (ownc := [("other", 6)]) rfl sc__law_thin_right.nd (own' := []) (simi_seq (sim_attr (sim_var (pv 1) (by decide)) (ato_kept T))) (blkOk_by (own := [("other", 6)]) (by kernel_rfl)) (fun _ _ _ _ _ => (simg_name sc__law_thin_right.nd rfl (by first | exact .inl rfl | exact .inr rfl))) (fun _ _ _ _ _ => (simts_one (sim_truth (SimE.r (sim_call (gf__law_beats T) (hr.mono (by decide)) (by rfl) (sima_cons (sim_var (pv 0) (by decide)) (sima_cons (sim_var (pv 6) (by decide)) (sima_cons (sim_var (pv 4) (by decide)) sima_nil)))))))) (fun _ _ _ _ _ => (sim_var (pv 6) (by decide))))) (SimF.rr (sim_lst sima_nil)) (nomark _)))) (fun _ _ _ _ _ => (sim_var (pv 4) (by decide))))) (SimF.rr (sim_lst sima_nil)) (nomark _)) (simb_one (sim_ret sim_bl)) simb_nil)
    (simb_cons (own1 := []) (sim_for (ownT := []) PassesOwn.never rfl (simi_seq (sim_attr (sim_var (pv 1) (by decide)) (ato_beaten T))) (simg_name sc__law_thin_right.nd rfl (by first | exact .inl rfl | exact .inr rfl)) (simb_cons (own1 := []) (sim_ifS (SimW.t (sim_orW (sim_notT (sim_truth (SimE.r (sim_isi (n := "tuple") (by rfl) (z_isinstance T) (by rfl) (z_tuple T) boot_tuple (by decide) (SimE.r (sim_var (pv 2) (by decide))))))) (sim_orW (sim_cmpT (op_neD hr.units) op2_ne (SimE.r (v_len (z_len T) (SimE.r (sim_var (pv 2) (by decide))))) (SimE.r sim_int) (nomark _)) (sim_orW (sim_notT (sim_truth (SimE.r (sim_call (gf__law_is_give T) (hr.mono (by decide)) (by rfl) (sima_cons (sim_var (pv 0) (by decide)) (sima_cons (sim_slice (SimE.r (sim_var (pv 2) (by decide))) sim_noPart (sim_part sim_int)) sima_nil)))))) (sim_or1 (sim_notT (sim_truth (SimE.r (sim_call (gf__law_whole T) (hr.mono (by decide)) (by rfl) (sima_cons (sim_ix (SimE.r (sim_var (pv 2) (by decide))) (SimE.r sim_int) (fun _ _ => rfl)) sima_nil)))))))))) (simb_one (sim_ret sim_bl)) simb_nil)
    (simb_one (sim_ifS (SimW.t (sim_orW (sim_notT (sim_chainT op_le op_lt (op2_i2 _) (op2_i2 _) (SimE.r sim_int) (SimE.r (sim_ix (SimE.r (sim_var (pv 2) (by decide))) (SimE.r sim_int) (fun _ _ => rfl))) (SimE.r (v_len (z_len T) (SimE.r (sim_attr (sim_var (pv 1) (by decide)) (ato_kept T))))))) (sim_or1 (sim_notT (sim_truth (SimE.r (sim_call (gf__law_beats T) (hr.mono (by decide)) (by rfl) (sima_cons (sim_var (pv 0) (by decide)) (sima_cons (sim_ix (SimE.r (sim_attr (sim_var (pv 1) (by decide)) (ato_kept T))) (SimE.r (sim_ix (SimE.r (sim_var (pv 2) (by decide))) (SimE.r sim_int) (fun _ _ => rfl))) (fun _ _ => rfl)) (sima_cons (sim_slice (SimE.r (sim_var (pv 2) (by decide))) sim_noPart (sim_part sim_int)) sima_nil)))))))))) (simb_one (sim_ret sim_bl)) simb_nil))))
    (simb_cons (own1 := [3]) (sim_setF sc__law_thin_right.nd rfl (by first | exact .inl rfl | exact .inr rfl) (simf_comp (ownc := [("row", 2)]) rfl sc__law_thin_right.nd (own' := []) (simi_seq (sim_attr (sim_var (pv 1) (by decide)) (ato_beaten T))) (blkOk_by (own := [("row", 2)]) (N := n__law_thin_right) (sc := defScope st__law_thin_right) (by decide +kernel)) (fun _ _ _ _ _ => (simg_name sc__law_thin_right.nd rfl (by first | exact .inl rfl | exact .inr rfl))) (fun _ _ _ _ _ => simts_nil) (fun _ _ _ _ _ => (sim_slice (SimE.r (sim_var (pv 2) (by decide))) sim_noPart (sim_part sim_int)))) IsL.l)
    (simb_cons (own1 := [3]) (sim_ifS (sim_cmpT (op_neD hr.units) op2_ne (SimF.rr (simf_comp (ownc := [("at", 5)]) rfl sc__law_thin_right.nd (own' := [3]) (simi_range2 (by rfl) (z_range T) (sima_cons sim_int (sima_cons (v_len (z_len T) (sim_varR (pv 3))) sima_nil))) (blkOk_by (own := [("at", 5)]) (N := n__law_thin_right) (sc := defScope st__law_thin_right) (by decide +kernel)) (fun _ _ _ _ _ => (simg_name sc__law_thin_right.nd rfl (by first | exact .inl rfl | exact .inr rfl))) (fun _ _ _ _ _ => (simts_one (sim_cmpT (opr_geA hr) (op2_cmpA _ _) (SimE.r (sim_ix (sim_varR (pv 3)) (SimE.r (v_sub (SimE.r (sim_var (pv 5) (by decide))) (SimE.r sim_int))) (fun _ _ => rfl))) (SimE.r (sim_ix (sim_varR (pv 3)) (SimE.r (sim_var (pv 5) (by decide))) (fun _ _ => rfl))) (nomark _)))) (fun _ _ _ _ _ => (sim_var (pv 5) (by decide))))) (SimF.rr (sim_lst sima_nil)) (nomark _)) (simb_one (sim_ret sim_bl)) simb_nil)
    (simb_one (sim_ret (sim_cmp (op_eqD hr.units) op2_eq (SimF.rr (f_sortedA hr (z_sorted T) (SimF.rr (f_cat (SimF.rr (f_lst (z_list T) (SimE.r (sim_attr (sim_var (pv 1) (by decide)) (ato_kept T))))) (sim_varR (pv 3)))))) (SimE.r (sim_call (gf__law_gives_of T) (hr.mono (by decide)) (by rfl) (sima_cons (sim_var (pv 0) (by decide)) sima_nil))) (nomark _))))))))))
abbrev n_beats_by : List Str := ["shop", "other", "give", "o", "better", "s", "pattern", "mine", "theirs", "one", "two"]
theorem sc_beats_by : FnScope n_beats_by ["shop", "other", "give"] (defScope st_beats_by) := ⟨rfl, rfl, rfl, by decide +kernel, rfl, by decide +kernel, by decide +kernel⟩
theorem gf_beats_by (T : Txt K mg) : GF P w K mg base 1 "beats_by" 3 m_beats_by := by
  obtain ⟨fd, F⟩ := fd_beats_by T
  refine gf_of (b := b_beats_by) (n := 3) (N := n_beats_by) F (g_beats_by T) sc_beats_by rfl (by decide) (fun _ _ _ _ _ _ us hl => match us, hl with | [_, _, _], _ => rfl) fun cdv A outer s H E hr => ?_
  exact (simb_cons (own1 := []) (sim_asg (sim_tup (sima_cons (sim_var (pv 1) (by decide)) (sima_cons (sim_var (pv 2) (by decide)) sima_nil))) (simg_tup rfl (simgs_cons (simg_tup rfl (simgs_cons (simg_name sc_beats_by.nd rfl (by first | exact .inl rfl | exact .inr rfl)) (simgs_cons (simg_name sc_beats_by.nd rfl (by first | exact .inl rfl | exact .inr rfl)) simgs_nil))) (simgs_cons (simg_tup rfl (simgs_cons (simg_name sc_beats_by.nd rfl (by first | exact .inl rfl | exact .inr rfl)) (simgs_cons (simg_name sc_beats_by.nd rfl (by first | exact .inl rfl | exact .inr rfl)) simgs_nil))) simgs_nil))))
    (simb_cons (own1 := []) (sim_par2 (fun h => ps_par rfl sc_beats_by.nd rfl rfl (by decide) rfl rfl h (by with_unfolding_all rfl)) rfl rfl (SimE.x (sim_ix (SimE.r (sim_attr (sim_var (pv 0) (by decide)) (ato_stocks T))) (SimE.r (sim_var (pv 3) (by decide))) (fun _ _ => rfl))) (SimE.x (sim_ix (SimE.r (sim_attr (sim_var (pv 0) (by decide)) (ato_stocks T))) (SimE.r (sim_var (pv 5) (by decide))) (fun _ _ => rfl))))
    (simb_cons (own1 := []) (sim_ifS (SimW.t (sim_orW (SimW.t (sim_andW (sim_cmpT (op_neD hr.units) op2_ne (SimE.r (sim_var (pv 3) (by decide))) (SimE.r (sim_var (pv 5) (by decide))) (nomark _)) (sim_and1 (sim_cmpT op_notN op2_notN (SimE.r (sim_ix (SimE.r (sim_var (pv 7) (by decide))) (SimE.r (sim_gint (by rfl) (z_MANY_AT T))) (fun _ _ => rfl))) (SimE.r sim_non) (nomark _))))) (sim_or1 (sim_cmpT (opr_gtA hr) (op2_cmpA _ _) (SimE.r (sim_ix (SimE.r (sim_var (pv 7) (by decide))) (SimE.r (sim_gint (by rfl) (z_PRICE_AT T))) (fun _ _ => rfl))) (SimE.r (sim_ix (SimE.r (sim_var (pv 8) (by decide))) (SimE.r (sim_gint (by rfl) (z_PRICE_AT T))) (fun _ _ => rfl))) (nomark _))))) (simb_one (sim_ret sim_bl)) simb_nil)
    (simb_cons (own1 := []) (sim_ifS (sim_notT (sim_truth (SimE.r (v_all (z_all T) (SimF.rr (simf_comp (ownc := [("one", 9), ("two", 10)]) rfl sc_beats_by.nd (own' := []) (simi_zip (fun h => RZ.pi_zipA (by rfl) (z_zip T) h) (sim_var (pv 4) (by decide)) (sim_var (pv 6) (by decide))) (blkOk_by (own := [("one", 9), ("two", 10)]) (N := n_beats_by) (sc := defScope st_beats_by) (by decide +kernel)) (fun _ _ _ _ _ => (simg_tup rfl (simgs_cons (simg_name sc_beats_by.nd rfl (by first | exact .inl rfl | exact .inr rfl)) (simgs_cons (simg_name sc_beats_by.nd rfl (by first | exact .inl rfl | exact .inr rfl)) simgs_nil)))) (fun _ _ _ _ _ => simts_nil) (fun _ _ _ _ _ => (sim_cmp (opr_geA hr) (op2_cmpA _ _) (SimE.r (sim_var (pv 9) (by decide))) (SimE.r (sim_var (pv 10) (by decide))) (nomark _))))))))) (simb_one (sim_ret sim_bl)) simb_nil)
    (simb_one (sim_ret (sim_orV (sim_cmp (op_neD hr.units) op2_ne (SimE.r (sim_var (pv 4) (by decide))) (SimE.r (sim_var (pv 6) (by decide))) (nomark _)) (sim_orV (sim_cmp (opr_ltA hr) (op2_cmpA _ _) (SimE.r (sim_ix (SimE.r (sim_var (pv 7) (by decide))) (SimE.r (sim_gint (by rfl) (z_PRICE_AT T))) (fun _ _ => rfl))) (SimE.r (sim_ix (SimE.r (sim_var (pv 8) (by decide))) (SimE.r (sim_gint (by rfl) (z_PRICE_AT T))) (fun _ _ => rfl))) (nomark _)) (sim_one (sim_cmp (opr_ltA hr) (op2_cmpA _ _) (SimE.r (sim_var (pv 3) (by decide))) (SimE.r (sim_var (pv 5) (by decide))) (nomark _)))))))))))
abbrev n_first_that_beats : List Str := ["shop", "kept", "give", "at", "other"]
theorem sc_first_that_beats : FnScope n_first_that_beats ["shop", "kept", "give"] (defScope st_first_that_beats) := ⟨rfl, rfl, rfl, by decide +kernel, rfl, by decide +kernel, by decide +kernel⟩
theorem gf_first_that_beats (T : Txt K mg) : GF P w K mg base 2 "first_that_beats" 3 m_first_that_beats := by
  obtain ⟨fd, F⟩ := fd_first_that_beats T
  refine gf_of (b := b_first_that_beats) (n := 3) (N := n_first_that_beats) F (g_first_that_beats T) sc_first_that_beats rfl (by decide) (fun _ _ _ _ _ _ us hl => match us, hl with | [_, _, _], _ => rfl) fun cdv A outer s H E hr => ?_
  exact (simb_one (sim_ret (sim_ix (SimF.rr (simf_comp (ownc := [("at", 3), ("other", 4)]) rfl sc_first_that_beats.nd (own' := []) (simi_enum (by rfl) (z_enumerate T) (sim_var (pv 1) (by decide))) (blkOk_by (own := [("at", 3), ("other", 4)]) (N := n_first_that_beats) (sc := defScope st_first_that_beats) (by decide +kernel)) (fun _ _ _ _ _ => (simg_tup rfl (simgs_cons (simg_name sc_first_that_beats.nd rfl (by first | exact .inl rfl | exact .inr rfl)) (simgs_cons (simg_name sc_first_that_beats.nd rfl (by first | exact .inl rfl | exact .inr rfl)) simgs_nil)))) (fun _ _ _ _ _ => (simts_one (sim_truth (SimE.r (sim_call (gf_beats_by T) (hr.mono (by decide)) (by rfl) (sima_cons (sim_var (pv 0) (by decide)) (sima_cons (sim_var (pv 4) (by decide)) (sima_cons (sim_var (pv 2) (by decide)) sima_nil)))))))) (fun _ _ _ _ _ => (sim_var (pv 3) (by decide))))) (SimE.r sim_int) (fun _ _ => rfl))))
abbrev n_width_by : List Str := ["shop", "piece"]
theorem sc_width_by : FnScope n_width_by ["shop", "piece"] (defScope st_width_by) := ⟨rfl, rfl, rfl, by decide +kernel, rfl, by decide +kernel, by decide +kernel⟩
theorem gf_width_by (T : Txt K mg) : GF P w K mg base 1 "width_by" 2 m_width_by := by
  obtain ⟨fd, F⟩ := fd_width_by T
  refine gf_of (b := b_width_by) (n := 2) (N := n_width_by) F (g_width_by T) sc_width_by rfl (by decide) (fun _ _ _ _ _ _ us hl => match us, hl with | [_, _], _ => rfl) fun cdv A outer s H E hr => ?_
  exact (simb_one (sim_ret (v_add (SimE.r (sim_ix (SimE.r (sim_ix (SimE.r (sim_attr (sim_var (pv 0) (by decide)) (ato_pieces T))) (SimE.r (sim_var (pv 1) (by decide))) (fun _ _ => rfl))) (SimE.r (sim_gint (by rfl) (z_LENGTH_AT T))) (fun _ _ => rfl))) (SimE.r (sim_attr (sim_var (pv 0) (by decide)) (ato_kerf T))))))
abbrev n_many_by : List Str := ["shop", "room", "ways", "piece", "width", "size"]
theorem sc_many_by : FnScope n_many_by ["shop", "room"] (defScope st_many_by) := ⟨rfl, rfl, rfl, by decide +kernel, rfl, by decide +kernel, by decide +kernel⟩
theorem gf_many_by (T : Txt K mg) : GF P w K mg base 2 "many_by" 2 m_many_by := by
  obtain ⟨fd, F⟩ := fd_many_by T
  refine gf_of (b := b_many_by) (n := 2) (N := n_many_by) F (g_many_by T) sc_many_by rfl (by decide) (fun _ _ _ _ _ _ us hl => match us, hl with | [_, _], _ => rfl) fun cdv A outer s H E hr => ?_
  exact (simb_cons (own1 := [2]) (sim_setF sc_many_by.nd rfl (by first | exact .inl rfl | exact .inr rfl) (f_rep (SimF.rr (sim_lst (sima_cons sim_int sima_nil))) (SimE.r (v_add (SimE.r (sim_var (pv 1) (by decide))) (SimE.r sim_int)))) IsL.l)
    (simb_cons (own1 := [2]) (sim_for (ownT := [2]) PassesOwn.never rfl (simi_range1 (by rfl) (z_range T) (sima_cons (v_len (z_len T) (SimE.r (sim_attr (sim_var (pv 0) (by decide)) (ato_pieces T)))) sima_nil)) (simg_name sc_many_by.nd rfl (by first | exact .inl rfl | exact .inr rfl)) (simb_cons (own1 := [2]) (sim_set sc_many_by.nd rfl (by first | exact .inl rfl | exact .inr rfl) (sim_call (gf_width_by T) (hr.mono (by decide)) (by rfl) (sima_cons (sim_var (pv 0) (by decide)) (sima_cons (sim_var (pv 3) (by decide)) sima_nil))))
    (simb_one (sim_for (ownT := [2]) PassesOwn.never rfl (simi_range2 (by rfl) (z_range T) (sima_cons (sim_var (pv 4) (by decide)) (sima_cons (v_add (SimE.r (sim_var (pv 1) (by decide))) (SimE.r sim_int)) sima_nil))) (simg_name sc_many_by.nd rfl (by first | exact .inl rfl | exact .inr rfl)) (simb_one (sim_setIx (by decide) (v_add (SimE.r (sim_ix (sim_varR (pv 2)) (SimE.r (sim_var (pv 5) (by decide))) (fun _ _ => rfl))) (SimE.r (sim_ix (sim_varR (pv 2)) (SimE.r (v_sub (SimE.r (sim_var (pv 5) (by decide))) (SimE.r (sim_var (pv 4) (by decide))))) (fun _ _ => rfl)))) (pv 2) (sim_var (pv 5) (by decide))))))))
    (simb_one (sim_ret (sim_ix (sim_varR (pv 2)) (SimE.r (sim_var (pv 1) (by decide))) (fun _ _ => rfl))))))
abbrev n_room_by : List Str := ["shop", "stock"]
theorem sc_room_by : FnScope n_room_by ["shop", "stock"] (defScope st_room_by) := ⟨rfl, rfl, rfl, by decide +kernel, rfl, by decide +kernel, by decide +kernel⟩
theorem gf_room_by (T : Txt K mg) : GF P w K mg base 1 "room_by" 2 m_room_by := by
  obtain ⟨fd, F⟩ := fd_room_by T
  refine gf_of (b := b_room_by) (n := 2) (N := n_room_by) F (g_room_by T) sc_room_by rfl (by decide) (fun _ _ _ _ _ _ us hl => match us, hl with | [_, _], _ => rfl) fun cdv A outer s H E hr => ?_
  exact (simb_one (sim_ret (v_add (SimE.r (sim_ix (SimE.r (sim_ix (SimE.r (sim_attr (sim_var (pv 0) (by decide)) (ato_stocks T))) (SimE.r (sim_var (pv 1) (by decide))) (fun _ _ => rfl))) (SimE.r (sim_gint (by rfl) (z_LENGTH_AT T))) (fun _ _ => rfl))) (SimE.r (sim_attr (sim_var (pv 0) (by decide)) (ato_kerf T))))))
abbrev n_rows_within : List Str := ["shop", "room", "rows", "piece", "longer", "width", "row", "left", "number"]
theorem sc_rows_within : FnScope n_rows_within ["shop", "room"] (defScope st_rows_within) := ⟨rfl, rfl, rfl, by decide +kernel, rfl, by decide +kernel, by decide +kernel⟩
theorem gf_rows_within (T : Txt K mg) : GF P w K mg base 2 "rows_within" 2 m_rows_within := by
  obtain ⟨fd, F⟩ := fd_rows_within T
  refine gf_of (b := b_rows_within) (n := 2) (N := n_rows_within) F (g_rows_within T) sc_rows_within rfl (by decide) (fun _ _ _ _ _ _ us hl => match us, hl with | [_, _], _ => rfl) fun cdv A outer s H E hr => ?_
  exact (simb_cons (own1 := [2]) (sim_setF sc_rows_within.nd rfl (by first | exact .inl rfl | exact .inr rfl) (sim_lst (sima_cons (sim_tup (sima_cons (sim_tup sima_nil) (sima_cons (sim_var (pv 1) (by decide)) sima_nil))) sima_nil)) IsL.l)
    (simb_cons (own1 := []) (sim_pre (own1 := []) (sim_for (ownT := []) PassesOwn.never rfl (simi_range1 (by rfl) (z_range T) (sima_cons (v_len (z_len T) (SimE.r (sim_attr (sim_var (pv 0) (by decide)) (ato_pieces T)))) sima_nil)) (simg_name sc_rows_within.nd rfl (by first | exact .inl rfl | exact .inr rfl)) (simb_cons (own1 := [4]) (sim_tpar2 rfl sc_rows_within.nd rfl (by first | exact .inl rfl | exact .inr rfl) rfl (by first | exact .inl rfl | exact .inr rfl) (SimF.xx (sim_lst sima_nil)) (SimE.x (sim_call (gf_width_by T) (hr.mono (by decide)) (by rfl) (sima_cons (sim_var (pv 0) (by decide)) (sima_cons (sim_var (pv 3) (by decide)) sima_nil)))))
    (simb_cons (own1 := [4]) (sim_for (ownT := [4]) PassesOwn.never rfl (simi_seq (sim_var (pv 2) (by decide))) (simg_tup rfl (simgs_cons (simg_name sc_rows_within.nd rfl (by first | exact .inl rfl | exact .inr rfl)) (simgs_cons (simg_name sc_rows_within.nd rfl (by first | exact .inl rfl | exact .inr rfl)) simgs_nil))) (simb_one (sim_dropM (simm_1 (by decide) (fun h => pe_bm PySem.F.plainAttrs_list PySem.F.slot_list_extend PySem.F.type_list_extend mt_extend (pv 4) (pa_cons h pa_nil)) opm_extend (SimE.m (SimF.ee (simf_comp (ownc := [("number", 8)]) rfl sc_rows_within.nd (own' := [4]) (simi_range1 (by rfl) (z_range T) (sima_cons (v_add (SimE.r (v_fdiv (SimE.r (sim_var (pv 7) (by decide))) (SimE.r (sim_var (pv 5) (by decide))))) (SimE.r sim_int)) sima_nil)) (blkOk_by (own := [("number", 8)]) (N := n_rows_within) (sc := defScope st_rows_within) (by decide +kernel)) (fun _ _ _ _ _ => (simg_name sc_rows_within.nd rfl (by first | exact .inl rfl | exact .inr rfl))) (fun _ _ _ _ _ => simts_nil) (fun _ _ _ _ _ => (sim_tup (sima_cons (sim_tup (sima_star (SimE.r (sim_var (pv 6) (by decide))) (sima_cons (sim_var (pv 8) (by decide)) sima_nil))) (sima_cons (v_sub (SimE.r (sim_var (pv 7) (by decide))) (SimE.r (v_mul (SimE.r (sim_var (pv 8) (by decide))) (SimE.r (sim_var (pv 5) (by decide)))))) sima_nil)))))))))))
    (simb_one (sim_pre (own1 := []) (sim_set sc_rows_within.nd rfl (by first | exact .inl rfl | exact .inr rfl) (sim_var (pv 4) (by decide)))))))))
    (simb_one (sim_ret (SimF.ee (simf_comp (ownc := [("row", 6), ("left", 7)]) rfl sc_rows_within.nd (own' := []) (simi_seq (sim_var (pv 2) (by decide))) (blkOk_by (own := [("row", 6), ("left", 7)]) (N := n_rows_within) (sc := defScope st_rows_within) (by decide +kernel)) (fun _ _ _ _ _ => (simg_tup rfl (simgs_cons (simg_name sc_rows_within.nd rfl (by first | exact .inl rfl | exact .inr rfl)) (simgs_cons (simg_name sc_rows_within.nd rfl (by first | exact .inl rfl | exact .inr rfl)) simgs_nil)))) (fun _ _ _ _ _ => simts_nil) (fun _ _ _ _ _ => (sim_var (pv 6) (by decide)))))))))
abbrev n_patterns_by : List Str := ["shop", "stock", "room", "many"]
theorem sc_patterns_by : FnScope n_patterns_by ["shop", "stock"] (defScope st_patterns_by) := ⟨rfl, rfl, rfl, by decide +kernel, rfl, by decide +kernel, by decide +kernel⟩
theorem gf_patterns_by (T : Txt K mg) : GF P w K mg base 3 "patterns_by" 2 m_patterns_by := by
  obtain ⟨fd, F⟩ := fd_patterns_by T
  refine gf_of (b := b_patterns_by) (n := 2) (N := n_patterns_by) F (g_patterns_by T) sc_patterns_by rfl (by decide) (fun _ _ _ _ _ _ us hl => match us, hl with | [_, _], _ => rfl) fun cdv A outer s H E hr => ?_
  exact (simb_cons (own1 := []) (sim_set sc_patterns_by.nd rfl (by first | exact .inl rfl | exact .inr rfl) (sim_call (gf_room_by T) (hr.mono (by decide)) (by rfl) (sima_cons (sim_var (pv 0) (by decide)) (sima_cons (sim_var (pv 1) (by decide)) sima_nil))))
    (simb_cons (own1 := []) (sim_set sc_patterns_by.nd rfl (by first | exact .inl rfl | exact .inr rfl) (sim_call (gf_many_by T) (hr.mono (by decide)) (by rfl) (sima_cons (sim_var (pv 0) (by decide)) (sima_cons (sim_var (pv 2) (by decide)) sima_nil))))
    (simb_cons (own1 := []) (sim_ifS (sim_cmpT op_gt (op2_i2 _) (SimE.r (sim_var (pv 3) (by decide))) (SimE.r (sim_gint (by rfl) (z_MOST_PATTERNS T))) (nomark _)) (simb_one sim_never) simb_nil)
    (simb_one (sim_ret (sim_call (gf_rows_within T) (hr.mono (by decide)) (by rfl) (sima_cons (sim_var (pv 0) (by decide)) (sima_cons (sim_var (pv 2) (by decide)) sima_nil))))))))
abbrev n_gives_by : List Str := ["shop", "found", "stock", "pattern"]
theorem sc_gives_by : FnScope n_gives_by ["shop"] (defScope st_gives_by) := ⟨rfl, rfl, rfl, by decide +kernel, rfl, by decide +kernel, by decide +kernel⟩
theorem gf_gives_by (T : Txt K mg) : GF P w K mg base 4 "gives_by" 1 m_gives_by := by
  obtain ⟨fd, F⟩ := fd_gives_by T
  refine gf_of (b := b_gives_by) (n := 1) (N := n_gives_by) F (g_gives_by T) sc_gives_by rfl (by decide) (fun _ _ _ _ _ _ us hl => match us, hl with | [_], _ => rfl) fun cdv A outer s H E hr => ?_
  exact (simb_cons (own1 := [1]) (sim_setF sc_gives_by.nd rfl (by first | exact .inl rfl | exact .inr rfl) (sim_lst sima_nil) IsL.l)
    (simb_cons (own1 := [1]) (sim_for (ownT := [1]) PassesOwn.never rfl (simi_range1 (by rfl) (z_range T) (sima_cons (v_len (z_len T) (SimE.r (sim_attr (sim_var (pv 0) (by decide)) (ato_stocks T)))) sima_nil)) (simg_name sc_gives_by.nd rfl (by first | exact .inl rfl | exact .inr rfl)) (simb_one (sim_dropM (simm_1 (by decide) (fun h => pe_bm PySem.F.plainAttrs_list PySem.F.slot_list_extend PySem.F.type_list_extend mt_extend (pv 1) (pa_cons h pa_nil)) opm_extend (SimE.m (SimF.ee (simf_comp (ownc := [("pattern", 3)]) rfl sc_gives_by.nd (own' := [1]) (simi_seq (sim_call (gf_patterns_by T) (hr.mono (by decide)) (by rfl) (sima_cons (sim_var (pv 0) (by decide)) (sima_cons (sim_var (pv 2) (by decide)) sima_nil)))) (blkOk_by (own := [("pattern", 3)]) (N := n_gives_by) (sc := defScope st_gives_by) (by decide +kernel)) (fun _ _ _ _ _ => (simg_name sc_gives_by.nd rfl (by first | exact .inl rfl | exact .inr rfl))) (fun _ _ _ _ _ => (simts_one (sim_truth (SimE.r (v_any (z_any T) (SimE.r (sim_var (pv 3) (by decide)))))))) (fun _ _ _ _ _ => (sim_tup (sima_cons (sim_var (pv 2) (by decide)) (sima_cons (sim_var (pv 3) (by decide)) sima_nil)))))))))))
    (simb_one (sim_pre (own1 := []) (sim_ret (sim_var (pv 1) (by decide)))))))
abbrev n_kept_by : List Str := ["shop", "gives", "give", "other"]
theorem sc_kept_by : FnScope n_kept_by ["shop"] (defScope st_kept_by) := ⟨rfl, rfl, rfl, by decide +kernel, rfl, by decide +kernel, by decide +kernel⟩
theorem gf_kept_by (T : Txt K mg) : GF P w K mg base 5 "kept_by" 1 m_kept_by := by
  obtain ⟨fd, F⟩ := fd_kept_by T
  refine gf_of (b := b_kept_by) (n := 1) (N := n_kept_by) F (g_kept_by T) sc_kept_by rfl (by decide) (fun _ _ _ _ _ _ us hl => match us, hl with | [_], _ => rfl) fun cdv A outer s H E hr => ?_
  exact (simb_cons (own1 := []) (sim_set sc_kept_by.nd rfl (by first | exact .inl rfl | exact .inr rfl) (sim_call (gf_gives_by T) (hr.mono (by decide)) (by rfl) (sima_cons (sim_var (pv 0) (by decide)) sima_nil)))
    (simb_one (sim_ret (SimF.ee (simf_comp (ownc := [("give", 2)]) rfl sc_kept_by.nd (own' := []) (simi_seq (sim_var (pv 1) (by decide))) (blkOk_by (own := [("give", 2)]) (N := n_kept_by) (sc := defScope st_kept_by) (by decide +kernel)) (fun _ _ _ _ _ => (simg_name sc_kept_by.nd rfl (by first | exact .inl rfl | exact .inr rfl))) (fun _ _ _ _ _ => (simts_one (sim_notT (sim_truth (SimE.r (v_any (z_any T) (SimF.rr (simf_comp (ownc := [("other", 3)]) rfl sc_kept_by.nd (own' := []) (simi_seq (sim_var (pv 1) (by decide))) (blkOk_by (own := [("other", 3)]) (by kernel_rfl)) (fun _ _ _ _ _ => (simg_name sc_kept_by.nd rfl (by first | exact .inl rfl | exact .inr rfl))) (fun _ _ _ _ _ => simts_nil) (fun _ _ _ _ _ => (sim_call (gf_beats_by T) (hr.mono (by decide)) (by rfl) (sima_cons (sim_var (pv 0) (by decide)) (sima_cons (sim_var (pv 3) (by decide)) (sima_cons (sim_var (pv 2) (by decide)) sima_nil))))))))))))) (fun _ _ _ _ _ => (sim_var (pv 2) (by decide))))))))
abbrev n_thin : List Str := ["shop", "kept", "beaten", "stock", "pattern"]
theorem sc_thin : FnScope n_thin ["shop"] (defScope st_thin) := ⟨rfl, rfl, rfl, by decide +kernel, rfl, by decide +kernel, by decide +kernel⟩
theorem gf_thin (T : Txt K mg) : GF P w K mg base 15 "thin" 1 m_thin := by
  obtain ⟨fd, F⟩ := fd_thin T
  refine gf_of (b := b_thin) (n := 1) (N := n_thin) F (g_thin T) sc_thin rfl (by decide) (fun _ _ _ _ _ _ us hl => match us, hl with | [_], _ => rfl) fun cdv A outer s H E hr => ?_
  exact (simb_cons (own1 := [2]) (sim_par2 (fun h => ps_par rfl sc_thin.nd rfl rfl (by decide) rfl rfl h (by with_unfolding_all rfl)) rfl rfl (SimE.x (sim_call (gf_kept_by T) (hr.mono (by decide)) (by rfl) (sima_cons (sim_var (pv 0) (by decide)) sima_nil))) (SimF.xx (sim_lst sima_nil)))
    (simb_cons (own1 := [2]) (sim_for (ownT := [2]) PassesOwn.never rfl (simi_seq (sim_call (gf_gives_by T) (hr.mono (by decide)) (by rfl) (sima_cons (sim_var (pv 0) (by decide)) sima_nil))) (simg_tup rfl (simgs_cons (simg_name sc_thin.nd rfl (by first | exact .inl rfl | exact .inr rfl)) (simgs_cons (simg_name sc_thin.nd rfl (by first | exact .inl rfl | exact .inr rfl)) simgs_nil))) (simb_one (sim_ifS (sim_cmpT (opr_notInA hr) (op2_notInA _ op2_notIn) (SimE.r (sim_tup (sima_cons (sim_var (pv 3) (by decide)) (sima_cons (sim_var (pv 4) (by decide)) sima_nil)))) (SimE.r (sim_var (pv 1) (by decide))) (by rfl)) (simb_one (sim_dropM (simm_1 (by decide) (fun h => pe_bm PySem.F.plainAttrs_list PySem.F.slot_list_append PySem.F.type_list_append mt_append (pv 2) (pa_cons h pa_nil)) opm_append (SimE.m (sim_tup (sima_cons (sim_var (pv 3) (by decide)) (sima_cons (sim_var (pv 4) (by decide)) (sima_cons (sim_call (gf_first_that_beats T) (hr.mono (by decide)) (by rfl) (sima_cons (sim_var (pv 0) (by decide)) (sima_cons (sim_var (pv 1) (by decide)) (sima_cons (sim_tup (sima_cons (sim_var (pv 3) (by decide)) (sima_cons (sim_var (pv 4) (by decide)) sima_nil))) sima_nil)))) sima_nil)))))))) simb_nil)))
    (simb_one (sim_ret (sim_make (gi_Thin T) (hr.mono (by decide)) (by rfl) (sima_cons (v_tup (z_tuple T) (SimE.r (sim_var (pv 1) (by decide)))) (sima_cons (v_tup (z_tuple T) (sim_varR (pv 2))) sima_nil)))))))
abbrev n_are_ascending : List Str := ["rows", "at"]
theorem sc_are_ascending : FnScope n_are_ascending ["rows"] (defScope st_are_ascending) := ⟨rfl, rfl, rfl, by decide +kernel, rfl, by decide +kernel, by decide +kernel⟩
theorem gf_are_ascending (T : Txt K mg) : GF P w K mg base 1 "are_ascending" 1 m_are_ascending := by
  obtain ⟨fd, F⟩ := fd_are_ascending T
  refine gf_of (b := b_are_ascending) (n := 1) (N := n_are_ascending) F (g_are_ascending T) sc_are_ascending rfl (by decide) (fun _ _ _ _ _ _ us hl => match us, hl with | [_], _ => rfl) fun cdv A outer s H E hr => ?_
  exact (simb_one (sim_ret (v_all (z_all T) (SimF.rr (simf_comp (ownc := [("at", 1)]) rfl sc_are_ascending.nd (own' := []) (simi_range1 (by rfl) (z_range T) (sima_cons (v_sub (SimE.r (v_len (z_len T) (SimE.r (sim_var (pv 0) (by decide))))) (SimE.r sim_int)) sima_nil)) (blkOk_by (own := [("at", 1)]) (N := n_are_ascending) (sc := defScope st_are_ascending) (by decide +kernel)) (fun _ _ _ _ _ => (simg_name sc_are_ascending.nd rfl (by first | exact .inl rfl | exact .inr rfl))) (fun _ _ _ _ _ => simts_nil) (fun _ _ _ _ _ => (sim_cmp (opr_ltA hr) (op2_cmpA _ _) (SimE.r (sim_ix (SimE.r (sim_var (pv 0) (by decide))) (SimE.r (sim_var (pv 1) (by decide))) (fun _ _ => rfl))) (SimE.r (sim_ix (SimE.r (sim_var (pv 0) (by decide))) (SimE.r (v_add (SimE.r (sim_var (pv 1) (by decide))) (SimE.r sim_int))) (fun _ _ => rfl))) (nomark _))))))))
abbrev n_size_by : List Str := ["shop", "pattern", "piece", "number"]
theorem sc_size_by : FnScope n_size_by ["shop", "pattern"] (defScope st_size_by) := ⟨rfl, rfl, rfl, by decide +kernel, rfl, by decide +kernel, by decide +kernel⟩
theorem gf_size_by (T : Txt K mg) : GF P w K mg base 2 "size_by" 2 m_size_by := by
  obtain ⟨fd, F⟩ := fd_size_by T
  refine gf_of (b := b_size_by) (n := 2) (N := n_size_by) F (g_size_by T) sc_size_by rfl (by decide) (fun _ _ _ _ _ _ us hl => match us, hl with | [_, _], _ => rfl) fun cdv A outer s H E hr => ?_
  exact (simb_one (sim_ret (v_sumA (z_sum T) (SimF.rr (simf_comp (ownc := [("piece", 2), ("number", 3)]) rfl sc_size_by.nd (own' := []) (simi_enum (by rfl) (z_enumerate T) (sim_var (pv 1) (by decide))) (blkOk_by (own := [("piece", 2), ("number", 3)]) (N := n_size_by) (sc := defScope st_size_by) (by decide +kernel)) (fun _ _ _ _ _ => (simg_tup rfl (simgs_cons (simg_name sc_size_by.nd rfl (by first | exact .inl rfl | exact .inr rfl)) (simgs_cons (simg_name sc_size_by.nd rfl (by first | exact .inl rfl | exact .inr rfl)) simgs_nil)))) (fun _ _ _ _ _ => simts_nil) (fun _ _ _ _ _ => (v_mul (SimE.r (sim_var (pv 3) (by decide))) (SimE.r (sim_call (gf_width_by T) (hr.mono (by decide)) (by rfl) (sima_cons (sim_var (pv 0) (by decide)) (sima_cons (sim_var (pv 2) (by decide)) sima_nil)))))))))))
abbrev n_fits_by : List Str := ["shop", "stock", "pattern"]
theorem sc_fits_by : FnScope n_fits_by ["shop", "stock", "pattern"] (defScope st_fits_by) := ⟨rfl, rfl, rfl, by decide +kernel, rfl, by decide +kernel, by decide +kernel⟩
theorem gf_fits_by (T : Txt K mg) : GF P w K mg base 3 "fits_by" 3 m_fits_by := by
  obtain ⟨fd, F⟩ := fd_fits_by T
  refine gf_of (b := b_fits_by) (n := 3) (N := n_fits_by) F (g_fits_by T) sc_fits_by rfl (by decide) (fun _ _ _ _ _ _ us hl => match us, hl with | [_, _, _], _ => rfl) fun cdv A outer s H E hr => ?_
  exact (simb_one (sim_ret (sim_orV (sim_cmp op_le (op2_i2 _) (SimE.r (sim_call (gf_size_by T) (hr.mono (by decide)) (by rfl) (sima_cons (sim_var (pv 0) (by decide)) (sima_cons (sim_var (pv 2) (by decide)) sima_nil)))) (SimE.r (sim_call (gf_room_by T) (hr.mono (by decide)) (by rfl) (sima_cons (sim_var (pv 0) (by decide)) (sima_cons (sim_var (pv 1) (by decide)) sima_nil)))) (nomark _)) (sim_one (sim_notV (SimE.r (v_any (z_any T) (SimE.r (sim_var (pv 2) (by decide))))))))))
abbrev n_is_index : List Str := ["value", "many"]
theorem sc_is_index : FnScope n_is_index ["value", "many"] (defScope st_is_index) := ⟨rfl, rfl, rfl, by decide +kernel, rfl, by decide +kernel, by decide +kernel⟩
theorem gf_is_index (T : Txt K mg) : GF P w K mg base 2 "is_index" 2 m_is_index := by
  obtain ⟨fd, F⟩ := fd_is_index T
  refine gf_of (b := b_is_index) (n := 2) (N := n_is_index) F (g_is_index T) sc_is_index rfl (by decide) (fun _ _ _ _ _ _ us hl => match us, hl with | [_, _], _ => rfl) fun cdv A outer s H E hr => ?_
  exact (simb_one (sim_ret (sim_andV (sim_call (gf_is_whole T) (hr.mono (by decide)) (by rfl) (sima_cons (sim_var (pv 0) (by decide)) sima_nil)) (sim_one (sim_chain op_le (opr_ltA hr) (op2_i2 _) (op2_cmpA _ _) (SimE.r sim_int) (SimE.r (sim_var (pv 0) (by decide))) (SimE.r (sim_var (pv 1) (by decide))))))))
abbrev n_is_numbers_row : List Str := ["shop", "value", "one"]
theorem sc_is_numbers_row : FnScope n_is_numbers_row ["shop", "value"] (defScope st_is_numbers_row) := ⟨rfl, rfl, rfl, by decide +kernel, rfl, by decide +kernel, by decide +kernel⟩
theorem gf_is_numbers_row (T : Txt K mg) : GF P w K mg base 3 "is_numbers_row" 2 m_is_numbers_row := by
  obtain ⟨fd, F⟩ := fd_is_numbers_row T
  refine gf_of (b := b_is_numbers_row) (n := 2) (N := n_is_numbers_row) F (g_is_numbers_row T) sc_is_numbers_row rfl (by decide) (fun _ _ _ _ _ _ us hl => match us, hl with | [_, _], _ => rfl) fun cdv A outer s H E hr => ?_
  exact (simb_one (sim_ret (sim_andV (sim_isi (n := "tuple") (by rfl) (z_isinstance T) (by rfl) (z_tuple T) boot_tuple (by decide) (SimE.r (sim_var (pv 1) (by decide)))) (sim_andV (sim_cmp (op_eqD hr.units) op2_eq (SimE.r (v_len (z_len T) (SimE.r (sim_var (pv 1) (by decide))))) (SimE.r (v_len (z_len T) (SimE.r (sim_attr (sim_var (pv 0) (by decide)) (ato_pieces T))))) (nomark _)) (sim_one (v_all (z_all T) (SimF.rr (simf_comp (ownc := [("one", 2)]) rfl sc_is_numbers_row.nd (own' := []) (simi_seq (sim_var (pv 1) (by decide))) (blkOk_by (own := [("one", 2)]) (N := n_is_numbers_row) (sc := defScope st_is_numbers_row) (by decide +kernel)) (fun _ _ _ _ _ => (simg_name sc_is_numbers_row.nd rfl (by first | exact .inl rfl | exact .inr rfl))) (fun _ _ _ _ _ => simts_nil) (fun _ _ _ _ _ => (sim_call (gf_is_number T) (hr.mono (by decide)) (by rfl) (sima_cons (sim_var (pv 2) (by decide)) sima_nil)))))))))))
abbrev n_is_give : List Str := ["shop", "value"]
theorem sc_is_give : FnScope n_is_give ["shop", "value"] (defScope st_is_give) := ⟨rfl, rfl, rfl, by decide +kernel, rfl, by decide +kernel, by decide +kernel⟩
theorem gf_is_give (T : Txt K mg) : GF P w K mg base 4 "is_give" 2 m_is_give := by
  obtain ⟨fd, F⟩ := fd_is_give T
  refine gf_of (b := b_is_give) (n := 2) (N := n_is_give) F (g_is_give T) sc_is_give rfl (by decide) (fun _ _ _ _ _ _ us hl => match us, hl with | [_, _], _ => rfl) fun cdv A outer s H E hr => ?_
  exact (simb_cons (own1 := []) (sim_ifS (SimW.t (sim_orW (sim_notT (sim_truth (SimE.r (sim_isi (n := "tuple") (by rfl) (z_isinstance T) (by rfl) (z_tuple T) boot_tuple (by decide) (SimE.r (sim_var (pv 1) (by decide))))))) (sim_orW (sim_cmpT (op_neD hr.units) op2_ne (SimE.r (v_len (z_len T) (SimE.r (sim_var (pv 1) (by decide))))) (SimE.r sim_int) (nomark _)) (sim_or1 (sim_notT (sim_truth (SimE.r (sim_call (gf_is_index T) (hr.mono (by decide)) (by rfl) (sima_cons (sim_ix (SimE.r (sim_var (pv 1) (by decide))) (SimE.r sim_int) (fun _ _ => rfl)) (sima_cons (v_len (z_len T) (SimE.r (sim_attr (sim_var (pv 0) (by decide)) (ato_stocks T)))) sima_nil)))))))))) (simb_one (sim_ret sim_bl)) simb_nil)
    (simb_one (sim_ret (sim_andV (sim_call (gf_is_numbers_row T) (hr.mono (by decide)) (by rfl) (sima_cons (sim_var (pv 0) (by decide)) (sima_cons (sim_ix (SimE.r (sim_var (pv 1) (by decide))) (SimE.r sim_int) (fun _ _ => rfl)) sima_nil))) (sim_andV (v_any (z_any T) (SimE.r (sim_ix (SimE.r (sim_var (pv 1) (by decide))) (SimE.r sim_int) (fun _ _ => rfl)))) (sim_one (sim_call (gf_fits_by T) (hr.mono (by decide)) (by rfl) (sima_cons (sim_var (pv 0) (by decide)) (sima_cons (sim_ix (SimE.r (sim_var (pv 1) (by decide))) (SimE.r sim_int) (fun _ _ => rfl)) (sima_cons (sim_ix (SimE.r (sim_var (pv 1) (by decide))) (SimE.r sim_int) (fun _ _ => rfl)) sima_nil))))))))))
abbrev n_is_beaten_row : List Str := ["shop", "kept", "value"]
theorem sc_is_beaten_row : FnScope n_is_beaten_row ["shop", "kept", "value"] (defScope st_is_beaten_row) := ⟨rfl, rfl, rfl, by decide +kernel, rfl, by decide +kernel, by decide +kernel⟩
theorem gf_is_beaten_row (T : Txt K mg) : GF P w K mg base 5 "is_beaten_row" 3 m_is_beaten_row := by
  obtain ⟨fd, F⟩ := fd_is_beaten_row T
  refine gf_of (b := b_is_beaten_row) (n := 3) (N := n_is_beaten_row) F (g_is_beaten_row T) sc_is_beaten_row rfl (by decide) (fun _ _ _ _ _ _ us hl => match us, hl with | [_, _, _], _ => rfl) fun cdv A outer s H E hr => ?_
  exact (simb_cons (own1 := []) (sim_ifS (SimW.t (sim_orW (sim_notT (sim_truth (SimE.r (sim_isi (n := "tuple") (by rfl) (z_isinstance T) (by rfl) (z_tuple T) boot_tuple (by decide) (SimE.r (sim_var (pv 2) (by decide))))))) (sim_orW (sim_cmpT (op_neD hr.units) op2_ne (SimE.r (v_len (z_len T) (SimE.r (sim_var (pv 2) (by decide))))) (SimE.r sim_int) (nomark _)) (sim_or1 (sim_notT (sim_truth (SimE.r (sim_call (gf_is_give T) (hr.mono (by decide)) (by rfl) (sima_cons (sim_var (pv 0) (by decide)) (sima_cons (sim_slice (SimE.r (sim_var (pv 2) (by decide))) sim_noPart (sim_part sim_int)) sima_nil)))))))))) (simb_one (sim_ret sim_bl)) simb_nil)
    (simb_cons (own1 := []) (sim_ifS (SimW.t (sim_orW (sim_cmpT (opr_inA hr) (op2_inA _ op2_in) (SimE.r (sim_slice (SimE.r (sim_var (pv 2) (by decide))) sim_noPart (sim_part sim_int))) (SimE.r (sim_var (pv 1) (by decide))) (by rfl)) (sim_or1 (sim_notT (sim_truth (SimE.r (sim_call (gf_is_index T) (hr.mono (by decide)) (by rfl) (sima_cons (sim_ix (SimE.r (sim_var (pv 2) (by decide))) (SimE.r sim_int) (fun _ _ => rfl)) (sima_cons (v_len (z_len T) (SimE.r (sim_var (pv 1) (by decide)))) sima_nil))))))))) (simb_one (sim_ret sim_bl)) simb_nil)
    (simb_one (sim_ret (sim_call (gf_beats_by T) (hr.mono (by decide)) (by rfl) (sima_cons (sim_var (pv 0) (by decide)) (sima_cons (sim_ix (SimE.r (sim_var (pv 1) (by decide))) (SimE.r (sim_ix (SimE.r (sim_var (pv 2) (by decide))) (SimE.r sim_int) (fun _ _ => rfl))) (fun _ _ => rfl)) (sima_cons (sim_slice (SimE.r (sim_var (pv 2) (by decide))) sim_noPart (sim_part sim_int)) sima_nil))))))))
abbrev n_thin_holds : List Str := ["shop", "value", "gives", "beaten", "row", "give", "other"]
theorem sc_thin_holds : FnScope n_thin_holds ["shop", "value"] (defScope st_thin_holds) := ⟨rfl, rfl, rfl, by decide +kernel, rfl, by decide +kernel, by decide +kernel⟩
theorem gf_thin_holds (T : Txt K mg) : GF P w K mg base 6 "thin_holds" 2 m_thin_holds := by
  obtain ⟨fd, F⟩ := fd_thin_holds T
  refine gf_of (b := b_thin_holds) (n := 2) (N := n_thin_holds) F (g_thin_holds T) sc_thin_holds rfl (by decide) (fun _ _ _ _ _ _ us hl => match us, hl with | [_, _], _ => rfl) fun cdv A outer s H E hr => ?_
  exact (simb_cons (own1 := []) (sim_set sc_thin_holds.nd rfl (by first | exact .inl rfl | exact .inr rfl) (sim_call (gf_gives_by T) (hr.mono (by decide)) (by rfl) (sima_cons (sim_var (pv 0) (by decide)) sima_nil)))
    (simb_cons (own1 := []) (sim_ifS (SimW.t (sim_orW (sim_notT (sim_truth (SimE.r (sim_isC (clsok T) (by decide +kernel) (by rfl) (z_isinstance T) (by rfl) (sim_var (pv 1) (by decide)))))) (sim_orW (sim_notT (sim_truth (SimE.r (sim_isi (n := "tuple") (by rfl) (z_isinstance T) (by rfl) (z_tuple T) boot_tuple (by decide) (SimE.r (sim_attr (sim_var (pv 1) (by decide)) (ato_kept T))))))) (sim_or1 (sim_notT (sim_truth (SimE.r (sim_isi (n := "tuple") (by rfl) (z_isinstance T) (by rfl) (z_tuple T) boot_tuple (by decide) (SimE.r (sim_attr (sim_var (pv 1) (by decide)) (ato_beaten T))))))))))) (simb_one (sim_ret sim_bl)) simb_nil)
    (simb_cons (own1 := []) (sim_ifS (SimW.t (sim_orW (sim_notT (sim_truth (SimE.r (v_all (z_all T) (SimF.rr (simf_comp (ownc := [("give", 5)]) rfl sc_thin_holds.nd (own' := []) (simi_seq (sim_attr (sim_var (pv 1) (by decide)) (ato_kept T))) (blkOk_by (own := [("give", 5)]) (N := n_thin_holds) (sc := defScope st_thin_holds) (by decide +kernel)) (fun _ _ _ _ _ => (simg_name sc_thin_holds.nd rfl (by first | exact .inl rfl | exact .inr rfl))) (fun _ _ _ _ _ => simts_nil) (fun _ _ _ _ _ => (sim_call (gf_is_give T) (hr.mono (by decide)) (by rfl) (sima_cons (sim_var (pv 0) (by decide)) (sima_cons (sim_var (pv 5) (by decide)) sima_nil)))))))))) (sim_or1 (sim_notT (sim_truth (SimE.r (sim_call (gf_are_ascending T) (hr.mono (by decide)) (by rfl) (sima_cons (sim_attr (sim_var (pv 1) (by decide)) (ato_kept T)) sima_nil)))))))) (simb_one (sim_ret sim_bl)) simb_nil)
    (simb_cons (own1 := []) (sim_ifS (sim_truth (SimE.r (v_any (z_any T) (SimF.rr (simf_comp (ownc := [("give", 5)]) rfl sc_thin_holds.nd (own' := []) (simi_seq (sim_attr (sim_var (pv 1) (by decide)) (ato_kept T))) (blkOk_by (own := [("give", 5)]) (N := n_thin_holds) (sc := defScope st_thin_holds) (by decide +kernel)) (fun _ _ _ _ _ => (simg_name sc_thin_holds.nd rfl (by first | exact .inl rfl | exact .inr rfl))) (fun _ _ _ _ _ => simts_nil) (fun _ _ _ _ _ => (v_any (z_any T) (SimF.rr (simf_comp (ownc := [("other", 6)]) rfl sc_thin_holds.nd (own' := []) (simi_seq (sim_attr (sim_var (pv 1) (by decide)) (ato_kept T))) (blkOk_by (own := [("other", 6)]) (by kernel_rfl)) (fun _ _ _ _ _ => (simg_name sc_thin_holds.nd rfl (by first | exact .inl rfl | exact .inr rfl))) (fun _ _ _ _ _ => simts_nil) (fun _ _ _ _ _ => (sim_call (gf_beats_by T) (hr.mono (by decide)) (by rfl) (sima_cons (sim_var (pv 0) (by decide)) (sima_cons (sim_var (pv 6) (by decide)) (sima_cons (sim_var (pv 5) (by decide)) sima_nil)))))))))))))) (simb_one (sim_ret sim_bl)) simb_nil)
    (simb_cons (own1 := []) (sim_ifS (sim_notT (sim_truth (SimE.r (v_all (z_all T) (SimF.rr (simf_comp (ownc := [("row", 4)]) rfl sc_thin_holds.nd (own' := []) (simi_seq (sim_attr (sim_var (pv 1) (by decide)) (ato_beaten T))) (blkOk_by (own := [("row", 4)]) (N := n_thin_holds) (sc := defScope st_thin_holds) (by decide +kernel)) (fun _ _ _ _ _ => (simg_name sc_thin_holds.nd rfl (by first | exact .inl rfl | exact .inr rfl))) (fun _ _ _ _ _ => simts_nil) (fun _ _ _ _ _ => (sim_call (gf_is_beaten_row T) (hr.mono (by decide)) (by rfl) (sima_cons (sim_var (pv 0) (by decide)) (sima_cons (sim_attr (sim_var (pv 1) (by decide)) (ato_kept T)) (sima_cons (sim_var (pv 4) (by decide)) sima_nil))))))))))) (simb_one (sim_ret sim_bl)) simb_nil)
    (simb_cons (own1 := [3]) (sim_setLc (own' := []) (ownc := [("row", 4)]) rfl sc_thin_holds.nd rfl rfl (sw_true rfl rfl rfl (by decide +kernel)) (simi_seq (sim_attr (sim_var (pv 1) (by decide)) (ato_beaten T))) (blkOk_by (own := [("row", 4)]) (N := n_thin_holds) (sc := defScope st_thin_holds) (by decide +kernel)) (fun _ _ _ _ _ => (simg_name sc_thin_holds.nd rfl (by first | exact .inl rfl | exact .inr rfl))) (fun _ _ _ _ _ => simts_nil) (fun _ _ _ _ _ => (sim_slice (SimE.r (sim_var (pv 4) (by decide))) sim_noPart (sim_part sim_int))))
    (simb_one (sim_pre (own1 := []) (sim_ret (sim_andV (sim_call (gf_are_ascending T) (hr.mono (by decide)) (by rfl) (sima_cons (sim_var (pv 3) (by decide)) sima_nil)) (sim_one (sim_cmp (op_eqD hr.units) op2_eq (SimF.rr (f_sortedA hr (z_sorted T) (SimF.rr (sim_lst (sima_star (SimE.r (sim_attr (sim_var (pv 1) (by decide)) (ato_kept T))) (sima_star (SimE.r (sim_var (pv 3) (by decide))) sima_nil)))))) (SimE.r (sim_var (pv 2) (by decide))) (nomark _)))))))))))))
abbrev n_Thin_eq : List Str := ["self", "other"]
theorem sc_Thin_eq : FnScope n_Thin_eq ["self", "other"] (defScope st_Thin_eq) := ⟨rfl, rfl, rfl, by decide +kernel, rfl, by decide +kernel, by decide +kernel⟩
theorem gm_Thin_eq (T : Txt K mg) : GM P w K mg base 1 "Thin" "__eq__" m_Thin_eq := by
  obtain ⟨fd, F⟩ := fd_Thin_eq T
  have M : Meth K (He.ga K "Thin") "__eq__" (He.ma K (He.ga K "Thin") "__eq__") := let ⟨_, X, G, c, _⟩ := T.ex; He.meth_ok (c.fact 83 (f := .meth "Thin" "__eq__") rfl)
  refine gm_of (b := b_Thin_eq) (N := n_Thin_eq) F M sc_Thin_eq rfl (by decide) (fun _ _ _ _ _ _ us hl => match us, hl with | [_, _], _ => rfl) fun cdv A outer s H E hr => ?_
  exact (simb_one (sim_ret (sim_andV (sim_isC (clsok T) (by decide +kernel) (by rfl) (z_isinstance T) (by rfl) (sim_var (pv 1) (by decide))) (sim_one (sim_cmp (op_eqD hr.units) op2_eq (SimE.r (sim_tup (sima_cons (sim_attr (sim_var (pv 0) (by decide)) (ato_kept T)) (sima_cons (sim_attr (sim_var (pv 0) (by decide)) (ato_beaten T)) sima_nil)))) (SimE.r (sim_tup (sima_cons (sim_attr (sim_var (pv 1) (by decide)) (ato_kept T)) (sima_cons (sim_attr (sim_var (pv 1) (by decide)) (ato_beaten T)) sima_nil)))) (nomark _))))))
abbrev n_Thin_ne : List Str := ["self", "other"]
theorem sc_Thin_ne : FnScope n_Thin_ne ["self", "other"] (defScope st_Thin_ne) := ⟨rfl, rfl, rfl, by decide +kernel, rfl, by decide +kernel, by decide +kernel⟩
theorem gm_Thin_ne (T : Txt K mg) : GM P w K mg base 2 "Thin" "__ne__" m_Thin_ne := by
  obtain ⟨fd, F⟩ := fd_Thin_ne T
  have M : Meth K (He.ga K "Thin") "__ne__" (He.ma K (He.ga K "Thin") "__ne__") := let ⟨_, X, G, c, _⟩ := T.ex; He.meth_ok (c.fact 84 (f := .meth "Thin" "__ne__") rfl)
  refine gm_of (b := b_Thin_ne) (N := n_Thin_ne) F M sc_Thin_ne rfl (by decide) (fun _ _ _ _ _ _ us hl => match us, hl with | [_, _], _ => rfl) fun cdv A outer s H E hr => ?_
  exact (simb_one (sim_ret (sim_notV (SimE.r (sim_own (clsok T) (eqok T) (by decide +kernel) rfl (gm_Thin_eq T) (hr.mono (by decide)) (sim_var (pv 0) (by decide)) (sim_var (pv 1) (by decide)) (nomark _))))))
abbrev n_law : List Str := ["script", "pen", "lap", "shop", "made", "told", "turn", "bent", "other", "one"]
theorem sc_law : FnScope n_law ["script"] (defScope st_law) := ⟨rfl, rfl, rfl, by decide +kernel, rfl, by decide +kernel, by decide +kernel⟩
theorem fo_law (T : Txt K mg) {fd : FuncData} (F : FunD K "law" "law" (defArgs st_law) (defBody st_law) (defScope st_law) [] [] (He.fAd K ("law", none)) fd) : FnOk P w K mg base CX0 16 (He.fAd K ("law", none)) fd ["script"] (spOf K mg 1 m_law) := by
  refine fo_of (b := b_law) (n := 1) (N := n_law) F sc_law rfl (by decide) fun cdv A outer s H E hr => ?_
  exact (simb_cons (own1 := []) (sim_set sc_law.nd rfl (by first | exact .inl rfl | exact .inr rfl) (sim_call (gf__law_pen T) (hr.mono (by decide)) (by rfl) (sima_cons (sim_var (pv 0) (by decide)) sima_nil)))
    (simb_cons (own1 := []) (sim_for (ownT := []) PassesOwn.never rfl (simi_range1 (by rfl) (z_range T) (sima_cons sim_int sima_nil)) (simg_name sc_law.nd rfl (by first | exact .inl rfl | exact .inr rfl)) (simb_cons (own1 := []) (sim_set sc_law.nd rfl (by first | exact .inl rfl | exact .inr rfl) (sim_call (gf__law_few_shop T) (hr.mono (by decide)) (by rfl) (sima_cons (sim_var (pv 1) (by decide)) (sima_cons sim_int (sima_cons sim_int sima_nil)))))
    (simb_cons (own1 := []) (sim_set sc_law.nd rfl (by first | exact .inl rfl | exact .inr rfl) (sim_call (gf__law_made T) (hr.mono (by decide)) (by rfl) (sima_cons (sim_var (pv 3) (by decide)) sima_nil)))
    (simb_cons (own1 := []) (sim_set sc_law.nd rfl (by first | exact .inl rfl | exact .inr rfl) (sim_call (gf_thin T) (hr.mono (by decide)) (by rfl) (sima_cons (sim_var (pv 4) (by decide)) sima_nil)))
    (simb_cons (own1 := []) (sim_for (ownT := []) PassesOwn.never rfl (simi_range1 (by rfl) (z_range T) (sima_cons sim_int sima_nil)) (simg_name sc_law.nd rfl (by first | exact .inl rfl | exact .inr rfl)) (simb_cons (own1 := []) (sim_set sc_law.nd rfl (by first | exact .inl rfl | exact .inr rfl) (sim_if (sim_cmpT (op_eqD hr.units) op2_eq (SimE.r (sim_var (pv 6) (by decide))) (SimE.r sim_int) (nomark _)) (sim_var (pv 5) (by decide)) (sim_call (gf__law_bent T) (hr.mono (by decide)) (by rfl) (sima_cons (sim_var (pv 1) (by decide)) (sima_cons (sim_var (pv 3) (by decide)) (sima_cons (sim_var (pv 5) (by decide)) sima_nil))))))
    (simb_one (sim_ifS (sim_notT (sim_truth (SimE.r (sim_call (gf__law_is T) (hr.mono (by decide)) (by rfl) (sima_cons (sim_call (gf_thin_holds T) (hr.mono (by decide)) (by rfl) (sima_cons (sim_var (pv 4) (by decide)) (sima_cons (sim_var (pv 7) (by decide)) sima_nil))) (sima_cons (sim_call (gf__law_thin_right T) (hr.mono (by decide)) (by rfl) (sima_cons (sim_var (pv 3) (by decide)) (sima_cons (sim_var (pv 7) (by decide)) sima_nil))) sima_nil)))))) (simb_one (sim_ret sim_bl)) simb_nil))))
    (simb_cons (own1 := []) (sim_set sc_law.nd rfl (by first | exact .inl rfl | exact .inr rfl) (sim_call (gf__law_changed_shop T) (hr.mono (by decide)) (by rfl) (sima_cons (sim_var (pv 1) (by decide)) (sima_cons (sim_var (pv 3) (by decide)) sima_nil))))
    (simb_one (sim_ifS (sim_notT (sim_truth (SimE.r (sim_call (gf__law_is T) (hr.mono (by decide)) (by rfl) (sima_cons (sim_call (gf_thin_holds T) (hr.mono (by decide)) (by rfl) (sima_cons (sim_call (gf__law_made T) (hr.mono (by decide)) (by rfl) (sima_cons (sim_var (pv 8) (by decide)) sima_nil)) (sima_cons (sim_var (pv 5) (by decide)) sima_nil))) (sima_cons (sim_call (gf__law_thin_right T) (hr.mono (by decide)) (by rfl) (sima_cons (sim_var (pv 8) (by decide)) (sima_cons (sim_var (pv 5) (by decide)) sima_nil))) sima_nil)))))) (simb_one (sim_ret sim_bl)) simb_nil))))))))
    (simb_cons (own1 := []) (sim_set sc_law.nd rfl (by first | exact .inl rfl | exact .inr rfl) (sim_make (gi_Thin T) (hr.mono (by decide)) (by rfl) (sima_cons (SimF.ee (sim_lst (sima_cons (SimF.ee (sim_lst (sima_cons sim_int (sima_cons (SimF.ee (sim_lst (sima_cons sim_int sima_nil))) sima_nil)))) sima_nil))) (sima_cons (SimF.ee (sim_lst sima_nil)) sima_nil))))
    (simb_cons (own1 := []) (sim_ifS (SimW.t (sim_orW (sim_cmpT op_notBX op2_notBX (SimE.r (sim_own (clsok T) (eqok T) (by decide +kernel) rfl (gm_Thin_eq T) (hr.mono (by decide)) (sim_var (pv 9) (by decide)) (sim_make (gi_Thin T) (hr.mono (by decide)) (by rfl) (sima_cons (sim_tup (sima_cons (sim_tup (sima_cons sim_int (sima_cons (sim_tup (sima_cons sim_int sima_nil)) sima_nil))) sima_nil)) (sima_cons (sim_tup sima_nil) sima_nil))) (nomark _))) (SimE.r sim_bl) (nomark _)) (sim_or1 (sim_cmpT op_notBX op2_notBX (SimE.r (sim_own (clsok T) (eqok T) (by decide +kernel) rfl (gm_Thin_ne T) (hr.mono (by decide)) (sim_var (pv 9) (by decide)) (sim_make (gi_Thin T) (hr.mono (by decide)) (by rfl) (sima_cons (sim_tup sima_nil) (sima_cons (sim_tup sima_nil) sima_nil))) (nomark _))) (SimE.r sim_bl) (nomark _))))) (simb_one (sim_ret sim_bl)) simb_nil)
    (simb_one (sim_ret (sim_andV (sim_cmp op_isBX op2_isBX (SimE.r (sim_own (clsok T) (eqok T) (by decide +kernel) rfl (gm_Thin_eq T) (hr.mono (by decide)) (sim_make (gi_Thin T) (hr.mono (by decide)) (by rfl) (sima_cons (sim_tup sima_nil) (sima_cons (sim_tup (sima_cons sim_int sima_nil)) sima_nil))) (sim_make (gi_Thin T) (hr.mono (by decide)) (by rfl) (sima_cons (sim_tup sima_nil) (sima_cons (sim_tup (sima_cons sim_int sima_nil)) sima_nil))) (nomark _))) (SimE.r sim_bl) (nomark _)) (sim_one (sim_cmp op_isBX op2_isBX (SimE.r (sim_own (clsok T) (eqok T) (by decide +kernel) rfl (gm_Thin_eq T) (hr.mono (by decide)) (sim_var (pv 9) (by decide)) (sim_attr (sim_var (pv 9) (by decide)) (ato_kept T)) (nomark _))) (SimE.r sim_bl) (nomark _))))))))))
end
end K86
namespace K86
open PySem PySem.Spec PyProof.Rows L2 Ev
abbrev R : PySem.W.OpenRow := PySem.W.OpenLaw.row PySem.Challenge.rw_barscut_k86_thins_bent
abbrev hk : PySem.W.Hook := hookM 5 fa fn more
def ob (s : PySem.W.SharedT) : Bool × He.AlD := obsMG 5 fa fn more (HandSHeadRun.getT s)
theorem ob_eq (s : PySem.W.SharedT) : ob s = hk.obs s.abs := obsMG_eq (HandSHeadRun.getT_eq s)
theorem run (w : World) : HandSHeadRun.RunEq R (PySem.W.view R.prog [72]) hk ob 4000 names w := by
  intro os
  kernel_rfl
end K86
namespace K86
open PySem PySem.Spec PyProof.Rows L2 Ev
theorem ends {P : Program} {w : World} {K : PySem.W.Frag} {h : Heap} {mg : Str → Option Value} {f : Addr} (X : K.In h) (G : h.Ns mainGlobals mg) (hfa : mg ("law" : Str) = some (.ref f)) (c : He.SaysD fa fn K) (mo : more K = true) :
    ∃ fd : FuncData, (∀ (s : Shared) (v : Value), BindsTo s fd ⟨[v], []⟩ [("script", v)]) ∧ ∀ base : Heap, K.In base → base.Ns mainGlobals mg → FnOk P w K mg base CX0 16 f fd ["script"] (spOf K mg 1 m_law) := by
  obtain ⟨fd, F⟩ := c.def_ 51 (d := d_law) rfl
  have e := hfa.symm.trans (He.glo_ok X G (c.fact 47 (f := .glo "law") rfl))
  cases e
  have b := FunD.bindsA (ps := ["script"]) F fun _ _ _ _ _ _ us hl => match us, hl with | [_], _ => rfl
  exact ⟨fd, fun s v => b s [v] rfl, fun base _ _ => fo_law ⟨h, X, G, c, mo⟩ F⟩
end K86
open PySem PySem.W PySem.Calls PyProof.Rows
theorem PySem.Challenge.cw_barscut_k86_thins_bent_holds : PySem.Challenge.rw_barscut_k86_thins_bent.Holds := by
  w_on; o_law
  refine HandSHeadRun.head_any (r := OpenLaw.row PySem.Challenge.rw_barscut_k86_thins_bent) (q := view (OpenLaw.row PySem.Challenge.rw_barscut_k86_thins_bent).prog [72]) (H := K86.hk) (ob := K86.ob) (M := 4000) (loose := K86.names) (d := HandSHeadRun.topDef (OpenLaw.row PySem.Challenge.rw_barscut_k86_thins_bent).prog 72) (kwd := []) K86.ob_eq
    (by kernel_rfl) (fun _ => by kernel_rfl) K86.run (by kernel_rfl) (by kernel_rfl) (by kernel_rfl) (by rfl) (by first | assumption | decide +kernel) (by decide +kernel) ⟨rfl, rfl, rfl, rfl, rfl, by decide +kernel⟩ ?hwit ?hcall
  case hwit => w_witness2
  case hcall =>
    refine L2.walk_ofE (l := PySem.Challenge.rw_barscut_k86_thins_bent) (n := 63) (k := 16) (x := "script") (CX := L2.CX0) rfl (by decide) (by kernel_rfl) ⟨rfl, by decide, by decide⟩ ?G1 (fun _ _ _ _ q => q)
    intro wd mgl fadr hp Yp Gn hmg0
    obtain ⟨Kf, KX, cs, mo⟩ := Yp
    have hmg : mgl ("law" : PySem.Str) = some (.ref fadr) := by
      have en : (HandSHeadRun.topDef (OpenLaw.row PySem.Challenge.rw_barscut_k86_thins_bent).prog 72).name = ("law" : PySem.Str) := by kernel_rfl
      rw [← en]
      exact hmg0
    obtain ⟨fd, hb, hF⟩ := K86.ends (P := (PySem.Challenge.rw_barscut_k86_thins_bent).prog) (w := wd) KX Gn hmg cs mo
    refine ⟨Kf, fd, Ev.spOf Kf mgl 1 K86.m_law, KX, hb, fun H a ns hl _ hS => ?_, hF⟩
    obtain ⟨Sx, ex⟩ := K86.law_ok ns hl
    exact Ev.start_law hS ex
